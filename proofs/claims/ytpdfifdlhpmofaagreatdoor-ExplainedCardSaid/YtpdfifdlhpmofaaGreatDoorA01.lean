/- Part 1 of the proof. -/
import Derived.Test.YtpdfifdlhpmofaaGreatDoorA00
set_option linter.unusedVariables false
set_option linter.unusedSimpArgs false
set_option maxHeartbeats 0
set_option maxRecDepth 99999
namespace Go.Proofs.YtpdfifdlhpmofaaGreatDoor
open Go.RowKit
open Value renaming slice->qD,string->qE,bool->qF,tuple->qG,agg->qH,pointer->qI
open Ending renaming returned->qJ
open Obj renaming cells->qK
open Option renaming none->Z,some->U
open Bool renaming true->V,false->I
open Go.Lib renaming hid->D
open List renaming length->J
variable {M N:List Nat} {a w w':World} {b:Nat} {c:Array Value} {T:TypeId} {k:IntKind}
abbrev iI (x:Int):Value:=.int .i64 x
abbrev iJ (b:Nat):Value:= qI (U ⟨b,0,Z⟩)
structure Aw (M:List Nat) (w w':World):Prop where
 os:w'.os=w.os
 tape:w'.tape=w.tape
 output:w'.output=w.output
 size:w.heap.size<=w'.heap.size
 block:∀k,k<w.heap.size->k∉M->w'.heap[k]?=w.heap[k]?
theorem Aw.refl (M:List Nat) (w:World):Aw M w w:=⟨rfl,rfl,rfl,AC,AC⟩
theorem Aw.trans {b c:World} (h:Aw M a b) (k:Aw N b c) (hN:∀x,x∈N->x∈M\/a.heap.size<=x):Aw M a c:=
 ⟨k.os.trans h.os,k.tape.trans h.tape,k.output.trans h.output,Qb h.size k.size,λi hi hm=>by
   rw[k.block i (JQ hi h.size) AC,h.block i hi hm]⟩
theorem Aw.YH {b c:World} (h:Aw M a b) (k:Aw M b c):Aw M a c:=h.trans k AC
theorem Aw.Aj {b c:World} (h:Aw M a b) (k:Aw [] b c):Aw M a c:=h.trans k AC
theorem Aw.mono {b:World} (h:Aw M a b) (hN:∀x,x∈M->x∈N\/a.heap.size<=x):Aw N a b:=
 (Aw.refl N a).trans h hN
theorem Aw.nil {b:World} (h:Aw [] a b):Aw M a b:=h.mono AC
theorem Aw.Zm {b:World} (h:Below a.heap.size a b):Aw [] a b:=
 ⟨h.os,h.tape,h.output,h.size,λk hk _=>h.block k hk⟩
theorem Aw.drew (h:Aw M a w):Aw M a w.drew:=⟨h.os,h.tape,h.output,h.size,h.block⟩
theorem Aw.drewN (h:Aw M a w) (n:Nat):Aw M a (w.drewN n):=⟨h.os,h.tape,h.output,h.size,h.block⟩
theorem Aw.alloc (h:Aw M a w) (o:Obj):Aw M a (w.alloc o):=
 ⟨h.os,h.tape,h.output,by have:=h.size;show a.heap.size<=(w.heap.push o).size;rw[QT];omega,λk hk hm=>by
   rw[Below.heap_alloc _ _ _ (JQ hk h.size)];exact h.block k hk hm⟩
theorem Aw.setCell (h:Aw M a w) {p:Addr} (hp:p.block∈M\/a.heap.size<=p.block) (u:Value):Aw M a (w.setCell p u):=
 ⟨h.os,h.tape,h.output,by have:=h.size;grind [World.setCell],λk hk hm=>by
   rw[Below.heap_setCell _ _ _ _ AC];exact h.block k hk hm⟩
theorem Aw.heap (h:Aw M a w) {b:Nat} {o:Obj} (hb:a.heap[b]?=U o) (hm:b∉M):w.heap[b]?=U o:=by
 have hlt:b<a.heap.size:=by
  grind
 rw[h.block b hlt hm,hb]
theorem Dp {o:Obj} (hb:w.heap[b]?=U o):b<w.heap.size:=by
 grind
theorem Mk {a:Addr} {v:Value} (h:w.cell? a=U v):a.block<w.heap.size:=by
 grind [World.cell?]
theorem AH (k:Aw [] w w') {a:Addr} {v:Value} (h:w.cell? a=U v):w'.cell? a=U v:=by
 rw[jJ (w:=w) (k.block a.block (Mk h) EQ)];exact h
def Ch (w:World) (b:Nat) (c:Array Value) (T:TypeId):Prop:=w.heap[b]?=U (qK c T (0,0))
theorem Ch.lt (h:Ch w b c T):b<w.heap.size:=Dp h
theorem Ch.cell (h:Ch w b c T) (i:Nat):w.cell? ⟨b,i,Z⟩=c[i]?:=by
 grind [Ch,World.cell?]
theorem Ch.free (h:Ch w b c T) (i:Nat):w.frozen? ⟨b,i,Z⟩=I:=by
 grind [Ch,World.frozen?]
theorem Ch.mod (h:Ch w b c T) (k:Aw M w w') (hm:b∉M):Ch w' b c T:=k.heap h hm
theorem Ch.alloc (h:Ch w b c T) (o:Obj):Ch (w.alloc o) b c T:=by
 grind [Ch,Below.heap_alloc]
theorem Ch.drew (h:Ch w b c T):Ch w.drew b c T:=h
theorem Ch.drewN (h:Ch w b c T) (n:Nat):Ch (w.drewN n) b c T:=h
theorem Ch.new (w:World) (c:Array Value) (T:TypeId):Ch (w.alloc (qK c T)) w.heap.size c T:=by
 show(w.heap.push _)[w.heap.size]?=_;simp
theorem Ch.set (h:Ch w b c T) (i:Nat) (v:Value):Ch (w.setCell ⟨b,i,Z⟩ v) b (c.setIfInBounds i v) T:=by
 grind [Ch,World.setCell]
theorem Ch.F8 (h:Ch w b c T) {p:Addr} (hp:b≠p.block) (v:Value):Ch (w.setCell p v) b c T:=by
 grind [Ch,Below.heap_setCell]
abbrev By:=List UInt8
abbrev bs (s:ByteArray):By:=s.data.toList
theorem Bt (s:ByteArray):(bs s).length=s.size:=Array.length_toList (xs:=s.data)
theorem Pa {s t:ByteArray} (h:bs s=bs t):s=t:=by
 obtain⟨⟨l⟩⟩:=s;obtain⟨⟨m⟩⟩:=t;have h':l=m:=h;rw[h']
theorem OS {a b:Value} (h:a=b):qJ a= qJ b:=by rw[h]
theorem gn {a b:Int} (h:a=b):qJ (.int k a)= qJ (.int k b):=by rw[h]
theorem CQ {a b:Bool} (h:a=b):qJ (qF a)= qJ (qF b):=by rw[h]
theorem Al9 {a b c d:Value} (h:a=c) (k:b=d):qG #[a,b]= qG #[c,d]:=by rw[h,k]
theorem int_eq {a b:Int} (h:a=b):Value.int k a=.int k b:=by rw[h]
theorem cB {α:Type} (l:List α) (p:α->Bool) (k:Nat) (hk:k<J l):(l.take (k+1)).all p=((l.take k).all p && p l[k]):=by
 rw[JN hk,List.all_append];grind
