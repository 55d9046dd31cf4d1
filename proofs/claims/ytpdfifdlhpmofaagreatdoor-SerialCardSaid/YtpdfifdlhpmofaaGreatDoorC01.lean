/- Part 1 of the proof. -/
import Derived.Test.YtpdfifdlhpmofaaGreatDoorC00
set_option linter.unusedVariables false
set_option linter.unusedSimpArgs false
set_option maxHeartbeats 0
set_option maxRecDepth 99999
namespace Go.Proofs.YtpdfifdlhpmofaaGreatDoor
open Go.RowKit
open Value renaming slice->m9,string->qA,bool->qB,tuple->qC,agg->qD,pointer->qE
open Ending renaming returned->qF
open Obj renaming cells->qG
open Option renaming none->Z,some->U
open Bool renaming true->V,false->I
open Go.Lib renaming hid->D
open List renaming length->J
variable {M N:List Nat} {a w w':World} {b:Nat} {c:Array Value} {T:TypeId} {k:IntKind}
abbrev iI (x:Int):Value:=.int .i64 x
abbrev iJ (b:Nat):Value:= qE (U ⟨b,0,Z⟩)
structure Az (M:List Nat) (w w':World):Prop where
 os:w'.os=w.os
 tape:w'.tape=w.tape
 output:w'.output=w.output
 size:w.heap.size<=w'.heap.size
 block:∀k,k<w.heap.size->k∉M->w'.heap[k]?=w.heap[k]?
theorem Az.refl (M:List Nat) (w:World):Az M w w:=⟨rfl,rfl,rfl,AC,AC⟩
theorem Az.trans {b c:World} (h:Az M a b) (k:Az N b c) (hN:∀x,x∈N->x∈M\/a.heap.size<=x):Az M a c:=
 ⟨k.os.trans h.os,k.tape.trans h.tape,k.output.trans h.output,QA h.size k.size,λi hi hm=>by
   rw[k.block i (JR hi h.size) AC,h.block i hi hm]⟩
theorem Az.Yk {b c:World} (h:Az M a b) (k:Az M b c):Az M a c:=h.trans k AC
theorem Az.Aj {b c:World} (h:Az M a b) (k:Az [] b c):Az M a c:=h.trans k AC
theorem Az.mono {b:World} (h:Az M a b) (hN:∀x,x∈M->x∈N\/a.heap.size<=x):Az N a b:=
 (Az.refl N a).trans h hN
theorem Az.nil {b:World} (h:Az [] a b):Az M a b:=h.mono AC
theorem Az.YV {b:World} (h:Below a.heap.size a b):Az [] a b:=
 ⟨h.os,h.tape,h.output,h.size,λk hk _=>h.block k hk⟩
theorem Az.drew (h:Az M a w):Az M a w.drew:=⟨h.os,h.tape,h.output,h.size,h.block⟩
theorem Az.drewN (h:Az M a w) (n:Nat):Az M a (w.drewN n):=⟨h.os,h.tape,h.output,h.size,h.block⟩
theorem Az.alloc (h:Az M a w) (o:Obj):Az M a (w.alloc o):=
 ⟨h.os,h.tape,h.output,by have:=h.size;show a.heap.size<=(w.heap.push o).size;rw[QO];omega,λk hk hm=>by
   rw[Below.heap_alloc _ _ _ (JR hk h.size)];exact h.block k hk hm⟩
theorem Az.setCell (h:Az M a w) {p:Addr} (hp:p.block∈M\/a.heap.size<=p.block) (u:Value):Az M a (w.setCell p u):=
 ⟨h.os,h.tape,h.output,by have:=h.size;grind [World.setCell],λk hk hm=>by
   rw[Below.heap_setCell _ _ _ _ AC];exact h.block k hk hm⟩
theorem Az.heap (h:Az M a w) {b:Nat} {o:Obj} (hb:a.heap[b]?=U o) (hm:b∉M):w.heap[b]?=U o:=by
 have hlt:b<a.heap.size:=by
  grind
 rw[h.block b hlt hm,hb]
theorem Dq {o:Obj} (hb:w.heap[b]?=U o):b<w.heap.size:=by
 grind
theorem L5 {a:Addr} {v:Value} (h:w.cell? a=U v):a.block<w.heap.size:=by
 grind [World.cell?]
theorem AK (k:Az [] w w') {a:Addr} {v:Value} (h:w.cell? a=U v):w'.cell? a=U v:=by
 rw[jE (w:=w) (k.block a.block (L5 h) EQ)];exact h
def Ci (w:World) (b:Nat) (c:Array Value) (T:TypeId):Prop:=w.heap[b]?=U (qG c T (0,0))
theorem Ci.lt (h:Ci w b c T):b<w.heap.size:=Dq h
theorem Ci.cell (h:Ci w b c T) (i:Nat):w.cell? ⟨b,i,Z⟩=c[i]?:=by
 grind [Ci,World.cell?]
theorem Ci.free (h:Ci w b c T) (i:Nat):w.frozen? ⟨b,i,Z⟩=I:=by
 grind [Ci,World.frozen?]
theorem Ci.mod (h:Ci w b c T) (k:Az M w w') (hm:b∉M):Ci w' b c T:=k.heap h hm
theorem Ci.alloc (h:Ci w b c T) (o:Obj):Ci (w.alloc o) b c T:=by
 grind [Ci,Below.heap_alloc]
theorem Ci.drew (h:Ci w b c T):Ci w.drew b c T:=h
theorem Ci.new (w:World) (c:Array Value) (T:TypeId):Ci (w.alloc (qG c T)) w.heap.size c T:=by
 show(w.heap.push _)[w.heap.size]?=_;simp
theorem Ci.set (h:Ci w b c T) (i:Nat) (v:Value):Ci (w.setCell ⟨b,i,Z⟩ v) b (c.setIfInBounds i v) T:=by
 grind [Ci,World.setCell]
theorem Ci.FZ (h:Ci w b c T) {p:Addr} (hp:b≠p.block) (v:Value):Ci (w.setCell p v) b c T:=by
 grind [Ci,Below.heap_setCell]
abbrev By:=List UInt8
abbrev bs (s:ByteArray):By:=s.data.toList
theorem Br (s:ByteArray):(bs s).length=s.size:=Array.length_toList (xs:=s.data)
theorem O0 {s t:ByteArray} (h:bs s=bs t):s=t:=by
 obtain⟨⟨l⟩⟩:=s;obtain⟨⟨m⟩⟩:=t;have h':l=m:=h;rw[h']
theorem OG {a b:Value} (h:a=b):qF a= qF b:=by rw[h]
theorem fu {a b:Int} (h:a=b):qF (.int k a)= qF (.int k b):=by rw[h]
theorem CN {a b:Bool} (h:a=b):qF (qB a)= qF (qB b):=by rw[h]
theorem AlH {a b c d:Value} (h:a=c) (k:b=d):qC #[a,b]= qC #[c,d]:=by rw[h,k]
theorem int_eq {a b:Int} (h:a=b):Value.int k a=.int k b:=by rw[h]
theorem bE {α:Type} (l:List α) (p:α->Bool) (k:Nat) (hk:k<J l):(l.take (k+1)).all p=((l.take k).all p && p l[k]):=by
 rw[JK hk,List.all_append];grind
