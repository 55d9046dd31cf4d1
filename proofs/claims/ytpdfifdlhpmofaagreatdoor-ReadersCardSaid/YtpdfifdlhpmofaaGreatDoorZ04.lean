/-
  Part 4 of the proof.
-/
import Derived.Test.YtpdfifdlhpmofaaGreatDoorZ03
set_option linter.unusedVariables false
set_option linter.unusedSimpArgs false
set_option maxHeartbeats 3200000
set_option maxRecDepth 100000
namespace Go.Proofs.YtpdfifdlhpmofaaGreatDoor
open Go.RowKit
open Go.Lib (hid)
variable {M:List Nat} {w w':World} {Ac size n g cap:Nat} {e:TypeId} {v:Value} {xs:List Value}
theorem Ce (h:w.ownsRow Ac e size v n xs) (k:Av M w w')
  (hm:∀g,v.ownBlock=some g->g∉M):w'.ownsRow Ac e size v n xs:=by
 obtain⟨hl,h | ⟨g,cap,cur,rfl,h1,h2,h3⟩⟩:=h
 ·exact⟨hl,.inl h⟩
 ·exact⟨hl,.inr ⟨g,cap,cur,rfl,h1,k.heap h2 (hm g rfl),h3⟩⟩
theorem J9 (h:w.ownsRow Ac e size v n xs):w.drew.ownsRow Ac e size v n xs:=h
theorem Da (w:World) (Ac:Nat) (e:TypeId) (size:Nat):w.ownsRow Ac e size (.slice none 0 0) 0 []:=⟨EQ,.inl ⟨rfl,rfl⟩⟩
theorem DD (h:w.ownsRow Ac e size v n xs) {g:Nat} (hg:v.ownBlock=some g):Ac<=g/\g < w.heap.size:=by
 obtain⟨hl,⟨rfl,h⟩ | ⟨g',cap,cur,rfl,h1,h2,h3⟩⟩:=h
 ·cases hg
 ·cases hg;exact⟨h1,BA h2⟩
theorem AG (h:w.ownsRow Ac e size v n xs) (hn:0 < n):
  ∃g cap,v= .slice (some ⟨g,0,none⟩) n cap/\Ac<=g/\g < w.heap.size/\n<=cap/\cap<=maxLen/\(∀i,(hi:i < xs.length)->w.cell? ⟨g,i,none⟩=some xs[i])/\(∀i,w.frozen? ⟨g,i,none⟩=false):=by
 obtain⟨hl,⟨rfl,h⟩ | ⟨g,cap,cur,rfl,h1,h2,h3,h4,h5,h6⟩⟩:=h
 ·omega
 ·refine⟨g,cap,rfl,h1,BA h2,h3,h4,fun i hi=> ?_,fun i=> ?_⟩
  ·rw[BM.cell (c:=cur) (T:=e) h2];subst h6;rw[List.getElem_take];simp only[Qcv,Qdk] at hi;rw[Array.getElem?_eq_getElem Y];simp
  ·exact BM.free (c:=cur) (T:=e) h2 i
theorem dr (h:w.ownsRow Ac e size v n xs):xs.length=n*size:=h.1
theorem TY (h:w.ownsRow Ac e size (.slice (some ⟨g,0,none⟩) n cap) n xs) (i:Nat) (hi:i < xs.length) (u:Value):
  (w.setCell ⟨g,i,none⟩ u).ownsRow Ac e size (.slice (some ⟨g,0,none⟩) n cap) n (xs.set i u):=by
 obtain⟨hl,⟨hv,h⟩ | ⟨g',cap',cur,hv,h1,h2,h3,h4,h5,h6⟩⟩:=h
 ·cases hv
 ·cases hv;refine⟨by rw[Qaa];exact hl,.inr ⟨g,cap,cur.setIfInBounds i u,rfl,h1,BM.set (c:=cur) (T:=e) h2 i u,h3,h4,by simpa using h5,?_⟩⟩;subst h6;rw[Array.toList_setIfInBounds,List.take_set]
theorem TZ (h:w.ownsRow Ac e size v n xs) {p:Addr} (hp:v.ownBlock≠some p.block) (u:Value):
  (w.setCell p u).ownsRow Ac e size v n xs:=
 Ce h ((Av.refl [p.block] w).setCell (.inl EQ) u) fun g hg hm=>hp (by rw[hg];simpa using hm)
theorem D7 (h:w.ownsRow Ac e size v n xs) (o:Obj):(w.alloc o).ownsRow Ac e size v n xs:=
 Ce h ((Av.refl [] w).alloc o) fun _ _=>EQ
theorem aC (h:w.ownsRow Ac e size (.slice (some ⟨g,0,none⟩) n cap) n xs) (k:Nat) (hk:k<=n):
  w.ownsRow Ac e size (.slice (some ⟨g,0,none⟩) k cap) k (xs.take (k*size)):=by
 obtain⟨hl,⟨hv,h⟩ | ⟨g',cap',cur,hv,h1,h2,h3,h4,h5,h6⟩⟩:=h
 ·cases hv
 ·cases hv;have hks:k*size<=n*size:=Qbw _ hk;refine⟨by rw[Qcv,hl];omega,.inr ⟨g,cap,cur,rfl,h1,h2,Y,h4,h5,?_⟩⟩;subst h6;rw[List.take_take,Nat.min_eq_left hks]
theorem Av.grown {a:World} {row:Option Nat} (h:Av M a w) (hg:w.grownBy w' row) (hr:∀k,row=some k->k∈M\/a.heap.size<=k):Av M a w':=
 ⟨hg.os.trans h.os,hg.tape.trans h.tape,hg.output.trans h.output,Qb6 h.size hg.size,fun k hk hm=>by
   rw[hg.block k (Qaq hk h.size) (fun e=>by rcases hr k e.symm with h1 | h1;exact hm h1;omega)];exact h.block k hk hm⟩
theorem Sl.M3 (h:w.ownsRow Ac e 1 v n xs):Sl w (fun b=>Ac<=b/\v.ownBlock=some b) v xs:=by
 have hl:=dr h;rw[Nat.mul_one] at hl;obtain⟨_,⟨rfl,h0⟩ | ⟨g,cap,cur,rfl,h1,h2,h3,h4,h5,h6⟩⟩:=id h
 ·subst h0;exact⟨by rw[hl];exact d6 _,.inl ⟨rfl,RK hl⟩⟩
 ·rcases Qc2 n with h0 | h0
  ·subst h0;obtain rfl:=RK hl;exact⟨d6 _,.inr ⟨g,0,cap,rfl,d6 _,h4,⟨h1,rfl⟩,BA h2,fun i hi=>UV hi EQ⟩⟩
  ·obtain⟨g',cap',he,a1,a2,a3,a4,a5,a6⟩:=AG h h0;cases he;refine⟨by rw[hl];omega,.inr ⟨g,0,cap,by rw[hl],by rw[hl];exact a3,a4,⟨a1,rfl⟩,a2,fun i hi=> ?_⟩⟩;rw[Qaw];exact a5 i hi
end Go.Proofs.YtpdfifdlhpmofaaGreatDoor
