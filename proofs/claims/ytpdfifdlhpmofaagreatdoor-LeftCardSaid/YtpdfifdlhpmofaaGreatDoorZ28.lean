/-
  Part 28 of the proof.
-/
import Derived.Test.YtpdfifdlhpmofaaGreatDoorZ27
set_option linter.unusedVariables false
set_option linter.unusedSimpArgs false
set_option maxHeartbeats 3200000
set_option maxRecDepth 100000
namespace Go.Proofs.YtpdfifdlhpmofaaGreatDoor
open Go.RowKit
open Go.Lib (hid)
theorem ma0 {p:Prop} (h:p:=by
 exact⟨i1.trans hs,by show _<=(GS.Dr r _).Ab.length;omega,by show(GS.Dr r _).Ab.length<=_;simp only[Cg];omega⟩):p:=h
theorem mbt {p:Prop} (h:p:=by
 exact⟨i1.trans hs,Y,by simp only[Cg];omega⟩):p:=h
variable {w:World} {A:List Ob}
theorem GS.Y5 (i:Nat) (g:GS):(GS.Om i g).Ab.length=g.Ab.length+16:=by unfold GS.Om GS.LS;simp only[NT]
theorem GS.Y4 (i:Nat) (g:GS):(GS.Ol i g).Ab.length=g.Ab.length+14:=by unfold GS.Ol GS.LS;simp only[NT]
theorem GS.di (i:Nat) (g:GS):(GS.Uw i g).Ab.length=g.Ab.length+4:=by unfold GS.Uw GS.LS;simp only[NT]
theorem GS.Zn (i:Nat) (g:GS):(GS.OH i g).Ab.length=g.Ab.length+3:=by unfold GS.OH GS.LS;simp only[NT]
theorem Az.left {B:List Ob} (h:Az w (A++B)):Az w A:=(Ak.AN h).Am
theorem V5 {o:Ob} (h:Az w A) (ho:o.holds w) (hf:o.fp=[]):Ak w A w (A++[o]):=by
 have e:D4 (A++[o])=D4 A:=by rw[A4,Gd,hf];simp[D4]
 refine⟨⟨fun p hp=> ?_,by rw[e];exact h.KE⟩,Av.refl _ _,fun b hb=> .inl (by rw[e] at hb;exact hb)⟩;rcases Nm.1 hp with hp | hp
 ·exact h.holds p hp
 ·rw[Z] at hp;subst hp;exact ho
def Cg:Bt->Nat
 | .nil=>0
 | .set _ _ _ _ r=>4+Cg r
 | .get _ _ _ _ r=>28+Cg r
 | .put _ _ _ _ r=>12+Cg r
 | .out _ r=>6+Cg r
 | .atomic b r=>296+Cg b+Cg r
 | .EA _ b r=>2+Cg b+Cg r
 | .loop _ b r=>6+Cg b+Cg r
theorem Kl (l:List Ij) (g:GS):(l.foldl GS.Bd g).Ab.length=g.Ab.length:=by
 induction l generalizing g with
 | nil=>rfl
 | cons a r ih=>rw[Qa8,ih,GS.DV]
theorem GS.Ge (g:GS):g.Eu.Ab.length=g.Ab.length+g.cells.toNat*37+3:=by
 unfold GS.Eu;simp only[];rw[J7 GS.Zn,J7 GS.di,J7 GS.Y4,GS.ID,GS.ID,GS.BT,J7 GS.Y5];omega
theorem GS.N0 (g:GS):g.GD.Ab.length=g.Ab.length+8:=by
 unfold GS.GD;simp only[GS.DV,GS.BT,GS.ID,GS.Wm,GS.IZ,GS.Na]
theorem GS.OR (g:GS) (Dw:Nat):(g.Gg Dw).Ab.length=g.Ab.length+g.cells.toNat*4+9:=by
 unfold GS.Gg;simp only[];rw[GS.BT,J7 GS.Y9,J7 GS.ZK]
theorem GS.YG (c:Nat) (g:GS):(GS.NC c g).Ab.length=g.Ab.length+2:=by unfold GS.NC;simp only[GS.JP,GS.Na]
theorem GS.W9 (c:Nat) (g:GS):(GS.Jg c g).Ab.length=g.Ab.length+3:=by unfold GS.Jg;simp only[GS.JP]
theorem O0 (cells:Int) (t:Bt) (hc:0<=cells/\cells<=6):∀(d:Nat) (B4:Bool) (G:GS),WF cells t d B4->G.block=B4->G.cells=cells->
  Aw (GS.Dr t G) G/\G.Ab.length<=(GS.Dr t G).Ab.length/\(GS.Dr t G).Ab.length<=G.Ab.length+Cg t:=by
 induction t with
 | nil=>intro d B4 G _ _ _;exact⟨Aw.refl G,LE _,by simp[GS.Dr,Cg]⟩
 | set v op a b r ih=>
  intro d B4 G hw hb Db;have v1:=GS.DF G a 1;have v1':=GS.Ec G a 1;have v2:=GS.DF (G.Cz a 1) b 2;have v2':=GS.Ec (G.Cz a 1) b 2;by_cases Kj:op.size=0
  ·have e:GS.Dr (.set v op a b r) G=GS.Dr r ((G.Cz a 1).st v (GS.BF a 1)):=by simp[GS.Dr,Kj]
   have hs:Aw ((G.Cz a 1).st v (GS.BF a 1)) G:=((Aw.refl G).Cz a 1).AP _;obtain⟨i1,i2,i3⟩:=ih d B4 _ hw.2.2.2.2 (hs.block.trans hb) (hs.cells.trans Db);rw[e];rw[GS.JP] at i2 i3;exact mbt
  ·have e:GS.Dr (.set v op a b r) G=GS.Dr r ((((G.Cz a 1).Cz b 2).Ix op 1 (GS.BF a 1) (GS.BF b 2)).st v (.r 1)):=by simp[GS.Dr,Kj]
   have hs:Aw ((((G.Cz a 1).Cz b 2).Ix op 1 (GS.BF a 1) (GS.BF b 2)).st v (.r 1)) G:=((((Aw.refl G).Cz a 1).Cz b 2).AP _).AP _;obtain⟨i1,i2,i3⟩:=ih d B4 _ hw.2.2.2.2 (hs.block.trans hb) (hs.cells.trans Db);rw[e];rw[GS.JP,GS.ID] at i2 i3;exact mbt
 | get v f s a r ih=>
  intro d B4 G hw hb Db;have v1:=GS.Mk G f s a;have v0:=GS.DF G a 0;have v0':=GS.Ec G a 0;have hs:Aw (((G.E7 f s a).PK).st v (.r 1)) G:=(((Aw.refl G).E7 f s a).PK).AP _;obtain⟨i1,i2,i3⟩:=ih d B4 _ hw.2.2.2.2 (hs.block.trans hb) (hs.cells.trans Db);rw[GS.JP,GS.eJ] at i2 i3;exact ma0
 | put f s i a r ih=>
  intro d B4 G hw hb Db;have v1:=GS.Mk G f s i;have v0:=GS.DF G i 0;have v0':=GS.Ec G i 0;have v2:=GS.DF (G.E7 f s i) a 1;have v2':=GS.Ec (G.E7 f s i) a 1;have hs:Aw (((((G.E7 f s i).Cz a 1).IL 14 0 (GS.BF a 1)).IL 8 0 (.n 1))) G:=((((Aw.refl G).E7 f s i).Cz a 1).AP _).AP _;obtain⟨i1,i2,i3⟩:=ih d B4 _ hw.2.2.2.2 (hs.block.trans hb) (hs.cells.trans Db);rw[GS.N7,GS.N7] at i2 i3;exact ma0
 | out a r ih=>
  intro d B4 G hw hb Db;have v1:=GS.DF G a 1;have v1':=GS.Ec G a 1;cases Fs:G.block with
  | false=>
   have e:GS.Dr (.out a r) G=GS.Dr r ((G.Cz a 1).AP (.out (GS.BF a 1))):=by simp[GS.Dr,Fs]
   have hs:Aw ((G.Cz a 1).AP (.out (GS.BF a 1))) G:=((Aw.refl G).Cz a 1).AP _;obtain⟨i1,i2,i3⟩:=ih d B4 _ hw.2 (hs.block.trans hb) (hs.cells.trans Db);rw[e];rw[GS.BT] at i2 i3;exact mbt
  | true=>
   have e:GS.Dr (.out a r) G=GS.Dr r (((((G.Cz a 1).lo 2 39).IL 40 2 (GS.BF a 1)).Ix Ja 2 (.r 2) (.n 1)).st 39 (.r 2)):=by simp[GS.Dr,Fs]
   have hs:Aw (((((G.Cz a 1).lo 2 39).IL 40 2 (GS.BF a 1)).Ix Ja 2 (.r 2) (.n 1)).st 39 (.r 2)) G:=(((((Aw.refl G).Cz a 1).AP _).AP _).AP _).AP _;obtain⟨i1,i2,i3⟩:=ih d B4 _ hw.2 (hs.block.trans hb) (hs.cells.trans Db);rw[e];rw[GS.JP,GS.ID,GS.N7,GS.Na] at i2 i3;exact mbt
 | EA a b r ib ih=>
  intro d B4 G hw hb Db;have v1:=GS.DF G a 1;have v1':=GS.Ec G a 1;have h1:Aw ((G.Cz a 1).CV (GS.BF a 1)) G:=((Aw.refl G).Cz a 1).AP _;obtain⟨j1,j2,j3⟩:=ib (d+1) B4 _ hw.2.2.1 (h1.block.trans hb) (h1.cells.trans Db);rw[GS.IZ] at j2 j3;have hs:Aw ((GS.Dr b ((G.Cz a 1).CV (GS.BF a 1))).Bd ((G.Cz a 1).EX (GS.BF a 1))) G:=(j1.trans h1).Bd _;obtain⟨i1,i2,i3⟩:=ih d B4 _ hw.2.2.2 (hs.block.trans hb) (hs.cells.trans Db);rw[GS.DV] at i2 i3;exact ma0
 | loop n b r ib ih=>
  intro d B4 G hw hb Db;have h1:Aw (G.st (48+G.Aj) (.n n)) G:=(Aw.refl G).AP _;obtain⟨j1,j2,j3⟩:=ib (d+1) B4 {(G.st (48+G.Aj) (.n n)) with Aj:=(G.st (48+G.Aj) (.n n)).Aj+1} hw.2.2.1 hb Db;have j2':(G.st (48+G.Aj) (.n n)).Ab.length<=_:=j2;have j3':_<=(G.st (48+G.Aj) (.n n)).Ab.length+Cg b:=j3;rw[GS.JP] at j2' j3';generalize zh:GS.Dr b {(G.st (48+G.Aj) (.n n)) with Aj:=(G.st (48+G.Aj) (.n n)).Aj+1}=g2 at j1 j2' j3';have h3:Aw {g2 with Aj:=g2.Aj - 1} G:=⟨j1.Ac,j1.cells,j1.block,by show g2.Aj - 1=_;rw[j1.Aj];show(G.Aj+1) - 1=G.Aj;omega⟩;have e:GS.Dr (.loop n b r) G=GS.Dr r ((((((({g2 with Aj:=g2.Aj - 1}:GS).lo 1 (48+G.Aj)).Ix I9 1 (.r 1) (.n 1)).st (48+G.Aj) (.r 1)).CV (.r 1)).AP (.Gb (G.st (48+G.Aj) (.n n)).Ab.length)).Bd (((({g2 with Aj:=g2.Aj - 1}:GS).lo 1 (48+G.Aj)).Ix I9 1 (.r 1) (.n 1)).st (48+G.Aj) (.r 1) |>.EX (.r 1))):=by
   rw[<-zh];rfl
  have hs:Aw ((((((({g2 with Aj:=g2.Aj - 1}:GS).lo 1 (48+G.Aj)).Ix I9 1 (.r 1) (.n 1)).st (48+G.Aj) (.r 1)).CV (.r 1)).AP (.Gb (G.st (48+G.Aj) (.n n)).Ab.length)).Bd (((({g2 with Aj:=g2.Aj - 1}:GS).lo 1 (48+G.Aj)).Ix I9 1 (.r 1) (.n 1)).st (48+G.Aj) (.r 1) |>.EX (.r 1))) G:=(((((h3.AP _).AP _).AP _).AP _).AP _).Bd _;obtain⟨i1,i2,i3⟩:=ih d B4 _ hw.2.2.2 (hs.block.trans hb) (hs.cells.trans Db);rw[e];refine⟨i1.trans hs,?_,?_⟩
  ·simp only[GS.DV,GS.BT,GS.IZ,GS.JP,GS.ID,GS.Na] at i2 i3⊢;omega
  ·simp only[Cg,GS.DV,GS.BT,GS.IZ,GS.JP,GS.ID,GS.Na] at i2 i3⊢;omega
 | atomic b r ib ih=>
  intro d B4 G hw hb Db;have hi:B4=false:=hw.1;have h1:Aw G.BX G:=Aw.LW Aw.NC 4 (Aw.refl G);have l1:G.BX.Ab.length=G.Ab.length+8:=J7 GS.YG 4 G;have t1:(G.BX.QP).Ab.length=G.BX.Ab.length+G.BX.cells.toNat*3+3:=by
   unfold GS.QP;simp only[];rw[GS.JP,GS.dO,GS.JP,J7 GS.W9]
  have t2:G.BX.QP.Ac=G.BX.Ac/\G.BX.QP.cells=G.BX.cells/\G.BX.QP.Aj=G.BX.Aj:=by
   have:=((((Aw.LW Aw.Jg G.BX.cells.toNat (Aw.refl G.BX)).AP (.store (.n ((GS.LW GS.Jg G.BX.cells.toNat G.BX).Ac+39)) 0 (.n 0))).AP (.load 1 (.n 16) 0)));exact⟨this.Ac,this.cells,this.Aj⟩
  obtain⟨j1,j2,j3⟩:=ib (d+1) true G.BX.QP hw.2.2.1 rfl (t2.2.1.trans (h1.cells.trans Db));generalize zh:GS.Dr b G.BX.QP=g2 at j1 j2 j3;have UG:G.BX.cells.toNat<=6:=by rw[h1.cells,Db];omega
  have AgV:g2.cells.toNat<=6:=by rw[j1.cells,t2.2.1];exact UG
  have hh:∀p:Bool,Aw (g2.Nu G.BX.Ab.length p) {g2 with block:=false}/\g2.Ab.length<=(g2.Nu G.BX.Ab.length p).Ab.length/\(g2.Nu G.BX.Ab.length p).Ab.length<=g2.Ab.length+g2.cells.toNat*41+21:=by
   intro p;have q:Aw (if p then ({g2 with block:=false}:GS).Eu else {g2 with block:=false}) {g2 with block:=false}:=by
    cases p
    ·exact Aw.refl _
    ·exact(Aw.refl _).Eu
   have ql:g2.Ab.length<=(if p then ({g2 with block:=false}:GS).Eu else {g2 with block:=false}).Ab.length/\(if p then ({g2 with block:=false}:GS).Eu else {g2 with block:=false}).Ab.length<=g2.Ab.length+g2.cells.toNat*37+3:=by
    cases p
    ·exact⟨LE _,by show g2.Ab.length<=_;omega⟩
    ·have:=GS.Ge {g2 with block:=false};have e2:({g2 with block:=false}:GS).Ab.length=g2.Ab.length:=rfl;have e3:({g2 with block:=false}:GS).cells=g2.cells:=rfl;rw[e2,e3] at this;simp only[Qau];omega
   unfold GS.Nu;simp only[];generalize (if p then ({g2 with block:=false}:GS).Eu else {g2 with block:=false})=g3 at q ql;have u:=(((q.GD.AP (.Gb 0)).kQ g3.GD.Dn.BL).Gg G.BX.Ab.length).Bd g3.GD.SU;refine⟨u,?_,?_⟩
   ·rw[GS.DV,GS.OR,Kl,GS.FO,GS.N0];omega
   ·rw[GS.DV,GS.OR,Kl,GS.FO,GS.N0];have:(g3.GD.Dn.BL.foldl GS.Bd g3.GD.Dn).cells=g2.cells:=((q.GD.AP (.Gb 0)).kQ g3.GD.Dn.BL).cells;rw[this];omega
  obtain⟨k1,k2,k3⟩:=hh (Cr b);have hs:Aw (g2.Nu G.BX.Ab.length (Cr b)) G:=⟨k1.Ac.trans (j1.Ac.trans (t2.1.trans h1.Ac)),k1.cells.trans (j1.cells.trans (t2.2.1.trans h1.cells)),k1.block.trans (by rw[hb,hi]),k1.Aj.trans (j1.Aj.trans (t2.2.2.trans h1.Aj))⟩;obtain⟨i1,i2,i3⟩:=ih d B4 _ hw.2.2.2 (hs.block.trans hb) (hs.cells.trans Db);have e:GS.Dr (.atomic b r) G=GS.Dr r (g2.Nu G.BX.Ab.length (Cr b)):=by rw[<-zh];rfl
  rw[e];exact⟨i1.trans hs,Y,by simp only[Cg];omega⟩
end Go.Proofs.YtpdfifdlhpmofaaGreatDoor
