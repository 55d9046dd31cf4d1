/-
  Part 1 of the proof, packed by program out of Base.
-/
import Derived.Test.YtpdfifdlhpmofaaGreatDoorProg
import Derived.WalkKit
import Derived.Lib.Hide
import Derived.Deep.QuietTactic
import Derived.BigQuiet
set_option linter.unusedVariables false
set_option linter.unusedSimpArgs false
set_option maxHeartbeats 3200000
set_option maxRecDepth 100000
namespace Go.Proofs.YtpdfifdlhpmofaaGreatDoor
open Go.RowKit
open Go.Lib (hid)
structure Av (M:List Nat) (w w':World):Prop where
 os:w'.os=w.os
 tape:w'.tape=w.tape
 output:w'.output=w.output
 size:w.heap.size≤w'.heap.size
 block:∀k,k < w.heap.size→k∉M→w'.heap[k]?=w.heap[k]?
theorem Av.refl (M:List Nat) (w:World):Av M w w:=⟨rfl,rfl,rfl,Nat.le_refl _,fun _ _ _=>rfl⟩
theorem Av.trans {M N:List Nat} {a b c:World} (h:Av M a b) (k:Av N b c) (hN:∀x,x∈N→x∈M∨a.heap.size≤x):Av M a c:=
 ⟨k.os.trans h.os,k.tape.trans h.tape,k.output.trans h.output,Nat.le_trans h.size k.size,fun i hi hm=>by
   rw[k.block i (Nat.lt_of_lt_of_le hi h.size) (fun hx=>by rcases hN i hx with h1 | h1;exact hm h1;omega),h.block i hi hm]⟩
theorem Av.Q6 {M:List Nat} {a b c:World} (h:Av M a b) (k:Av M b c):Av M a c:=h.trans k fun _ hx=> .inl hx
theorem Av.Ac {M:List Nat} {a b c:World} (h:Av M a b) (k:Av [] b c):Av M a c:=h.trans k fun _ hx=>by cases hx
theorem Av.mono {M N:List Nat} {a b:World} (h:Av M a b) (hN:∀x,x∈M→x∈N∨a.heap.size≤x):Av N a b:=
 (Av.refl N a).trans h hN
theorem Av.nil {M:List Nat} {a b:World} (h:Av [] a b):Av M a b:=h.mono fun _ hx=>by cases hx
theorem Av.RA {a b:World} (h:Below a.heap.size a b):Av [] a b:=
 ⟨h.os,h.tape,h.output,h.size,fun k hk _=>h.block k hk⟩
theorem Av.below {a b:World} (h:Av [] a b):Below a.heap.size a b:=
 ⟨h.os,h.tape,h.output,h.size,fun k hk=>h.block k hk (by simp)⟩
theorem Av.drew {M:List Nat} {a w:World} (h:Av M a w):Av M a w.drew:=⟨h.os,h.tape,h.output,h.size,h.block⟩
theorem Av.drewN {M:List Nat} {a w:World} (h:Av M a w) (n:Nat):Av M a (w.drewN n):=⟨h.os,h.tape,h.output,h.size,h.block⟩
theorem Av.alloc {M:List Nat} {a w:World} (h:Av M a w) (o:Obj):Av M a (w.alloc o):=
 ⟨h.os,h.tape,h.output,by have:=h.size;show a.heap.size≤(w.heap.push o).size;rw[Array.size_push];omega,fun k hk hm=>by
   rw[Below.heap_alloc _ _ _ (Nat.lt_of_lt_of_le hk h.size)];exact h.block k hk hm⟩
theorem Av.setCell {M:List Nat} {a w:World} (h:Av M a w) {p:Addr} (hp:p.block∈M∨a.heap.size≤p.block) (u:Value):Av M a (w.setCell p u):=
 ⟨h.os,h.tape,h.output,by have:=h.size;simpa[World.setCell] using this,fun k hk hm=>by
   rw[Below.heap_setCell _ _ _ _ (by rintro rfl;rcases hp with h1 | h1;exact hm h1;omega)];exact h.block k hk hm⟩
theorem Av.heap {M:List Nat} {a w:World} (h:Av M a w) {b:Nat} {o:Obj} (hb:a.heap[b]?=some o) (hm:b∉M):w.heap[b]?=some o:=by
 have Bi:b < a.heap.size:=by
  rcases Nat.lt_or_ge b a.heap.size with h1 | h1
  ·exact h1
  ·simp[Array.getElem?_eq_none h1] at hb
 rw[h.block b Bi hm,hb]
theorem BA {w:World} {b:Nat} {o:Obj} (hb:w.heap[b]?=some o):b < w.heap.size:=by
 rcases Nat.lt_or_ge b w.heap.size with h1 | h1
 ·exact h1
 ·simp[Array.getElem?_eq_none h1] at hb
theorem Gp {w:World} {a:Addr} {v:Value} (h:w.cell? a=some v):a.block < w.heap.size:=by
 rcases Nat.lt_or_ge a.block w.heap.size with h1 | h1
 ·exact h1
 ·simp[World.cell?,Array.getElem?_eq_none h1] at h
theorem BB {w w':World} (k:Av [] w w') {a:Addr} {v:Value} (h:w.cell? a=some v):w'.cell? a=some v:=by
 rw[World.cell?_of_block (w:=w) (k.block a.block (Gp h) (by simp))];exact h
def BR (w:World) (b:Nat) (c:Array Value) (T:TypeId):Prop:=w.heap[b]?=some (.cells c T (0,0))
theorem BR.lt {w:World} {b:Nat} {c:Array Value} {T:TypeId} (h:BR w b c T):b < w.heap.size:=BA h
theorem BR.cell {w:World} {b:Nat} {c:Array Value} {T:TypeId} (h:BR w b c T) (i:Nat):w.cell? ⟨b,i,none⟩=c[i]?:=by
 unfold BR at h;simp[World.cell?,h]
theorem BR.free {w:World} {b:Nat} {c:Array Value} {T:TypeId} (h:BR w b c T) (i:Nat):w.frozen? ⟨b,i,none⟩=false:=by
 unfold BR at h;simp[World.frozen?,h]
theorem BR.Bh {M:List Nat} {w w':World} {b:Nat} {c:Array Value} {T:TypeId} (h:BR w b c T) (k:Av M w w') (hm:b∉M):BR w' b c T:=k.heap h hm
theorem BR.alloc {w:World} {b:Nat} {c:Array Value} {T:TypeId} (h:BR w b c T) (o:Obj):BR (w.alloc o) b c T:=by
 unfold BR at*;rw[Below.heap_alloc _ _ _ (BA h)];exact h
theorem BR.drew {w:World} {b:Nat} {c:Array Value} {T:TypeId} (h:BR w b c T):BR w.drew b c T:=h
theorem BR.drewN {w:World} {b:Nat} {c:Array Value} {T:TypeId} (h:BR w b c T) (n:Nat):BR (w.drewN n) b c T:=h
theorem BR.new (w:World) (c:Array Value) (T:TypeId):BR (w.alloc (.cells c T)) w.heap.size c T:=by
 show(w.heap.push _)[w.heap.size]?=_;simp
theorem BR.set {w:World} {b:Nat} {c:Array Value} {T:TypeId} (h:BR w b c T) (i:Nat) (v:Value):BR (w.setCell ⟨b,i,none⟩ v) b (c.setIfInBounds i v) T:=by
 unfold BR at*;simp[World.setCell,Array.getElem?_modify,h]
theorem BR.DW {w:World} {b:Nat} {c:Array Value} {T:TypeId} (h:BR w b c T) {p:Addr} (hp:b≠p.block) (v:Value):BR (w.setCell p v) b c T:=by
 unfold BR at*;rw[Below.heap_setCell _ _ _ _ hp];exact h
abbrev By:=List UInt8
abbrev bs (s:ByteArray):By:=s.data.toList
theorem Bu (s:ByteArray):(bs s).length=s.size:=Array.length_toList (xs:=s.data)
theorem Lu {s t:ByteArray} (h:bs s=bs t):s=t:=by
 obtain⟨⟨l⟩⟩:=s;obtain⟨⟨m⟩⟩:=t;have h':l=m:=h;rw[h']
theorem Lc {a b:Value} (h:a=b):Ending.returned a= .returned b:=by rw[h]
theorem ZW {k:IntKind} {a b:Int} (h:a=b):Ending.returned (.int k a)= .returned (.int k b):=by rw[h]
theorem CU {a b:Bool} (h:a=b):Ending.returned (.bool a)= .returned (.bool b):=by rw[h]
theorem uD {a b c d:Value} (h:a=c) (k:b=d):Value.tuple #[a,b]= .tuple #[c,d]:=by rw[h,k]
theorem int_eq {k:IntKind} {a b:Int} (h:a=b):Value.int k a= .int k b:=by rw[h]
theorem TC {α:Type} (l:List α) (p:α→Bool) (k:Nat) (hk:k < l.length):(l.take (k+1)).all p=((l.take k).all p && p l[k]):=by
 rw[List.take_succ_eq_append_getElem hk,List.all_append];simp only[List.all_cons,List.all_nil,Bool.and_true]
end Go.Proofs.YtpdfifdlhpmofaaGreatDoor
