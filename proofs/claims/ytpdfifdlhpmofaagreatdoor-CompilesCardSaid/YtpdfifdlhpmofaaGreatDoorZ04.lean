/-
  Part 4 of the proof, packed by program out of Own.
-/
import Derived.Test.YtpdfifdlhpmofaaGreatDoorZ03
import Derived.Deep.RegionHeld3
import Derived.Deep.AppendLies
import Derived.Deep.DeepCutAuto
set_option linter.unusedVariables false
set_option linter.unusedSimpArgs false
set_option maxHeartbeats 3200000
set_option maxRecDepth 100000
namespace Go.Proofs.YtpdfifdlhpmofaaGreatDoor
open Go.RowKit
open Go.Lib (hid)
theorem B5 {M:List Nat} {w w':World} {Ah:Nat} {e:TypeId} {size:Nat} {v:Value} {n:Nat} {xs:List Value} (h:w.ownsRow Ah e size v n xs) (k:Av M w w')
  (hm:∀g,v.ownBlock=some g→g∉M):w'.ownsRow Ah e size v n xs:=by
 obtain⟨hl,h | ⟨g,cap,cur,rfl,h1,h2,h3⟩⟩:=h
 ·exact⟨hl,.inl h⟩
 ·exact⟨hl,.inr ⟨g,cap,cur,rfl,h1,k.heap h2 (hm g rfl),h3⟩⟩
theorem I2 {w:World} {Ah:Nat} {e:TypeId} {size:Nat} {v:Value} {n:Nat} {xs:List Value} (h:w.ownsRow Ah e size v n xs):w.drew.ownsRow Ah e size v n xs:=h
theorem Db (w:World) (Ah:Nat) (e:TypeId) (size:Nat):w.ownsRow Ah e size (.slice none 0 0) 0 []:=⟨by simp,.inl ⟨rfl,rfl⟩⟩
theorem Dm {w:World} {Ah:Nat} {e:TypeId} {size:Nat} {v:Value} {n:Nat} {xs:List Value} (h:w.ownsRow Ah e size v n xs) {g:Nat} (hg:v.ownBlock=some g):Ah≤g∧g < w.heap.size:=by
 obtain⟨hl,⟨rfl,h⟩ | ⟨g',cap,cur,rfl,h1,h2,h3⟩⟩:=h
 ·cases hg
 ·cases hg;exact⟨h1,BA h2⟩
theorem AX {w:World} {Ah:Nat} {e:TypeId} {size:Nat} {v:Value} {n:Nat} {xs:List Value} (h:w.ownsRow Ah e size v n xs) (hn:0 < n):
  ∃g cap,v= .slice (some ⟨g,0,none⟩) n cap∧Ah≤g∧g < w.heap.size∧n≤cap∧cap≤maxLen∧(∀i,(hi:i < xs.length)→w.cell? ⟨g,i,none⟩=some xs[i])∧(∀i,w.frozen? ⟨g,i,none⟩=false):=by
 obtain⟨hl,⟨rfl,h⟩ | ⟨g,cap,cur,rfl,h1,h2,h3,h4,h5,h6⟩⟩:=h
 ·omega
 ·refine⟨g,cap,rfl,h1,BA h2,h3,h4,fun i hi=> ?_,fun i=> ?_⟩
  ·rw[BR.cell (c:=cur) (T:=e) h2];subst h6;rw[List.getElem_take];simp only[List.length_take,Array.length_toList] at hi;rw[Array.getElem?_eq_getElem (by omega)];simp
  ·exact BR.free (c:=cur) (T:=e) h2 i
theorem WI {w:World} {Ah:Nat} {e:TypeId} {size:Nat} {v:Value} {n:Nat} {xs:List Value} (h:w.ownsRow Ah e size v n xs):xs.length=n*size:=h.1
theorem PO {w:World} {Ah:Nat} {e:TypeId} {size:Nat} {g n cap:Nat} {xs:List Value} (h:w.ownsRow Ah e size (.slice (some ⟨g,0,none⟩) n cap) n xs) (i:Nat) (hi:i < xs.length) (u:Value):
  (w.setCell ⟨g,i,none⟩ u).ownsRow Ah e size (.slice (some ⟨g,0,none⟩) n cap) n (xs.set i u):=by
 obtain⟨hl,⟨hv,h⟩ | ⟨g',cap',cur,hv,h1,h2,h3,h4,h5,h6⟩⟩:=h
 ·cases hv
 ·cases hv;refine⟨by rw[List.length_set];exact hl,.inr ⟨g,cap,cur.setIfInBounds i u,rfl,h1,BR.set (c:=cur) (T:=e) h2 i u,h3,h4,by simpa using h5,?_⟩⟩;subst h6;rw[Array.toList_setIfInBounds,List.take_set]
theorem PQ {w:World} {Ah:Nat} {e:TypeId} {size:Nat} {v:Value} {n:Nat} {xs:List Value} (h:w.ownsRow Ah e size v n xs) {p:Addr} (hp:v.ownBlock≠some p.block) (u:Value):
  (w.setCell p u).ownsRow Ah e size v n xs:=
 B5 h ((Av.refl [p.block] w).setCell (.inl (by simp)) u) fun g hg hm=>hp (by rw[hg];simpa using hm)
theorem DJ {w:World} {Ah:Nat} {e:TypeId} {size:Nat} {v:Value} {n:Nat} {xs:List Value} (h:w.ownsRow Ah e size v n xs) (o:Obj):(w.alloc o).ownsRow Ah e size v n xs:=
 B5 h ((Av.refl [] w).alloc o) fun _ _=>by simp
theorem Vn {w:World} {Ah:Nat} {e:TypeId} {size:Nat} {g n cap:Nat} {xs:List Value} (h:w.ownsRow Ah e size (.slice (some ⟨g,0,none⟩) n cap) n xs) (k:Nat) (hk:k≤n):
  w.ownsRow Ah e size (.slice (some ⟨g,0,none⟩) k cap) k (xs.take (k*size)):=by
 obtain⟨hl,⟨hv,h⟩ | ⟨g',cap',cur,hv,h1,h2,h3,h4,h5,h6⟩⟩:=h
 ·cases hv
 ·cases hv;have vG:k*size≤n*size:=Nat.mul_le_mul_right _ hk;refine⟨by rw[List.length_take,hl];omega,.inr ⟨g,cap,cur,rfl,h1,h2,by omega,h4,h5,?_⟩⟩;subst h6;rw[List.take_take,Nat.min_eq_left vG]
theorem Av.grown {M:List Nat} {a w w':World} {row:Option Nat} (h:Av M a w) (hg:w.grownBy w' row) (hr:∀k,row=some k→k∈M∨a.heap.size≤k):Av M a w':=
 ⟨hg.os.trans h.os,hg.tape.trans h.tape,hg.output.trans h.output,Nat.le_trans h.size hg.size,fun k hk hm=>by
   rw[hg.block k (Nat.lt_of_lt_of_le hk h.size) (fun e=>by rcases hr k e.symm with h1 | h1;exact hm h1;omega)];exact h.block k hk hm⟩
theorem Sl.Lg {w:World} {Ah:Nat} {e:TypeId} {v:Value} {n:Nat} {xs:List Value} (h:w.ownsRow Ah e 1 v n xs):Sl w (fun b=>Ah≤b∧v.ownBlock=some b) v xs:=by
 have hl:=WI h;rw[Nat.mul_one] at hl;obtain⟨_,⟨rfl,h0⟩ | ⟨g,cap,cur,rfl,h1,h2,h3,h4,h5,h6⟩⟩:=id h
 ·subst h0;exact⟨by rw[hl];exact Nat.zero_le _,.inl ⟨rfl,List.eq_nil_of_length_eq_zero hl⟩⟩
 ·rcases Nat.eq_zero_or_pos n with h0 | h0
  ·subst h0;obtain rfl:=List.eq_nil_of_length_eq_zero hl;exact⟨Nat.zero_le _,.inr ⟨g,0,cap,rfl,Nat.zero_le _,h4,⟨h1,rfl⟩,BA h2,fun i hi=>absurd hi (by simp)⟩⟩
  ·obtain⟨g',cap',he,a1,a2,a3,a4,a5,a6⟩:=AX h h0;cases he;refine⟨by rw[hl];omega,.inr ⟨g,0,cap,by rw[hl],by rw[hl];exact a3,a4,⟨a1,rfl⟩,a2,fun i hi=> ?_⟩⟩;rw[Nat.zero_add];exact a5 i hi
end Go.Proofs.YtpdfifdlhpmofaaGreatDoor
