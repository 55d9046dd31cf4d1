/-
  Part 1 of the proof.
-/
import Derived.Test.YtpdfifdlhpmofaaGreatDoorZ00
set_option linter.unusedVariables false
set_option linter.unusedSimpArgs false
set_option maxHeartbeats 3200000
set_option maxRecDepth 100000
namespace Go.Proofs.YtpdfifdlhpmofaaGreatDoor
open Go.RowKit
open Go.Lib (hid)
variable {M N:List Nat} {a w w':World} {b:Nat} {c:Array Value} {T:TypeId} {k:IntKind}
abbrev i5 (x:Int):Value:= .int .i64 x
abbrev i6 (b:Nat):Value:= .pointer (some ⟨b,0,none⟩)
structure Av (M:List Nat) (w w':World):Prop where
 os:w'.os=w.os
 tape:w'.tape=w.tape
 output:w'.output=w.output
 size:w.heap.size<=w'.heap.size
 block:∀k,k < w.heap.size->k∉M->w'.heap[k]?=w.heap[k]?
theorem Av.refl (M:List Nat) (w:World):Av M w w:=⟨rfl,rfl,rfl,LE _,fun _ _ _=>rfl⟩
theorem Av.trans {b c:World} (h:Av M a b) (k:Av N b c) (hN:∀x,x∈N->x∈M\/a.heap.size<=x):Av M a c:=
 ⟨k.os.trans h.os,k.tape.trans h.tape,k.output.trans h.output,Qb6 h.size k.size,fun i hi hm=>by
   rw[k.block i (Qaq hi h.size) (fun hx=>by rcases hN i hx with h1 | h1;exact hm h1;omega),h.block i hi hm]⟩
theorem Av.Vz {b c:World} (h:Av M a b) (k:Av M b c):Av M a c:=h.trans k fun _ hx=> .inl hx
theorem Av.Ad {b c:World} (h:Av M a b) (k:Av [] b c):Av M a c:=h.trans k fun _ hx=>by cases hx
theorem Av.mono {b:World} (h:Av M a b) (hN:∀x,x∈M->x∈N\/a.heap.size<=x):Av N a b:=
 (Av.refl N a).trans h hN
theorem Av.nil {b:World} (h:Av [] a b):Av M a b:=h.mono fun _ hx=>by cases hx
theorem Av.V8 {b:World} (h:Below a.heap.size a b):Av [] a b:=
 ⟨h.os,h.tape,h.output,h.size,fun k hk _=>h.block k hk⟩
theorem Av.below {b:World} (h:Av [] a b):Below a.heap.size a b:=
 ⟨h.os,h.tape,h.output,h.size,fun k hk=>h.block k hk EQ⟩
theorem Av.drew (h:Av M a w):Av M a w.drew:=⟨h.os,h.tape,h.output,h.size,h.block⟩
theorem Av.drewN (h:Av M a w) (n:Nat):Av M a (w.drewN n):=⟨h.os,h.tape,h.output,h.size,h.block⟩
theorem Av.alloc (h:Av M a w) (o:Obj):Av M a (w.alloc o):=
 ⟨h.os,h.tape,h.output,by have:=h.size;show a.heap.size<=(w.heap.push o).size;rw[Qcg];omega,fun k hk hm=>by
   rw[Below.heap_alloc _ _ _ (Qaq hk h.size)];exact h.block k hk hm⟩
theorem Av.setCell (h:Av M a w) {p:Addr} (hp:p.block∈M\/a.heap.size<=p.block) (u:Value):Av M a (w.setCell p u):=
 ⟨h.os,h.tape,h.output,by have:=h.size;simpa[World.setCell] using this,fun k hk hm=>by
   rw[Below.heap_setCell _ _ _ _ (by rintro rfl;rcases hp with h1 | h1;exact hm h1;omega)];exact h.block k hk hm⟩
theorem Av.heap (h:Av M a w) {b:Nat} {o:Obj} (hb:a.heap[b]?=some o) (hm:b∉M):w.heap[b]?=some o:=by
 have AX:b < a.heap.size:=by
  rcases Qbs b a.heap.size with h1 | h1
  ·exact h1
  ·simp[Qbb h1] at hb
 rw[h.block b AX hm,hb]
theorem BA {o:Obj} (hb:w.heap[b]?=some o):b < w.heap.size:=by
 rcases Qbs b w.heap.size with h1 | h1
 ·exact h1
 ·simp[Qbb h1] at hb
theorem H9 {a:Addr} {v:Value} (h:w.cell? a=some v):a.block < w.heap.size:=by
 rcases Qbs a.block w.heap.size with h1 | h1
 ·exact h1
 ·simp[World.cell?,Qbb h1] at h
theorem AU (k:Av [] w w') {a:Addr} {v:Value} (h:w.cell? a=some v):w'.cell? a=some v:=by
 rw[Qdf (w:=w) (k.block a.block (H9 h) EQ)];exact h
def BM (w:World) (b:Nat) (c:Array Value) (T:TypeId):Prop:=w.heap[b]?=some (.cells c T (0,0))
theorem BM.lt (h:BM w b c T):b < w.heap.size:=BA h
theorem BM.cell (h:BM w b c T) (i:Nat):w.cell? ⟨b,i,none⟩=c[i]?:=by
 unfold BM at h;simp[World.cell?,h]
theorem BM.free (h:BM w b c T) (i:Nat):w.frozen? ⟨b,i,none⟩=false:=by
 unfold BM at h;simp[World.frozen?,h]
theorem BM.Bf (h:BM w b c T) (k:Av M w w') (hm:b∉M):BM w' b c T:=k.heap h hm
theorem BM.alloc (h:BM w b c T) (o:Obj):BM (w.alloc o) b c T:=by
 unfold BM at*;rw[Below.heap_alloc _ _ _ (BA h)];exact h
theorem BM.drew (h:BM w b c T):BM w.drew b c T:=h
theorem BM.drewN (h:BM w b c T) (n:Nat):BM (w.drewN n) b c T:=h
theorem BM.new (w:World) (c:Array Value) (T:TypeId):BM (w.alloc (.cells c T)) w.heap.size c T:=by
 show(w.heap.push _)[w.heap.size]?=_;simp
theorem BM.set (h:BM w b c T) (i:Nat) (v:Value):BM (w.setCell ⟨b,i,none⟩ v) b (c.setIfInBounds i v) T:=by
 unfold BM at*;simp[World.setCell,Array.getElem?_modify,h]
theorem BM.Em (h:BM w b c T) {p:Addr} (hp:b≠p.block) (v:Value):BM (w.setCell p v) b c T:=by
 unfold BM at*;rw[Below.heap_setCell _ _ _ _ hp];exact h
abbrev By:=List UInt8
abbrev bs (s:ByteArray):By:=s.data.toList
theorem Bw (s:ByteArray):(bs s).length=s.size:=Qdk (xs:=s.data)
theorem Nt {s t:ByteArray} (h:bs s=bs t):s=t:=by
 obtain⟨⟨l⟩⟩:=s;obtain⟨⟨m⟩⟩:=t;have h':l=m:=h;rw[h']
theorem MU {a b:Value} (h:a=b):Ending.returned a= .returned b:=by rw[h]
theorem au {a b:Int} (h:a=b):Ending.returned (.int k a)= .returned (.int k b):=by rw[h]
theorem Dc {a b:Bool} (h:a=b):Ending.returned (.bool a)= .returned (.bool b):=by rw[h]
theorem AeU {a b c d:Value} (h:a=c) (k:b=d):Value.tuple #[a,b]= .tuple #[c,d]:=by rw[h,k]
theorem int_eq {a b:Int} (h:a=b):Value.int k a= .int k b:=by rw[h]
theorem Yf {α:Type} (l:List α) (p:α->Bool) (k:Nat) (hk:k < l.length):(l.take (k+1)).all p=((l.take k).all p && p l[k]):=by
 rw[Qar hk,List.all_append];simp only[List.all_cons,List.all_nil,Bool.and_true]
end Go.Proofs.YtpdfifdlhpmofaaGreatDoor
