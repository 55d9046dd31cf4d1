/-
  Part 32 of the proof.
-/
import Derived.Test.YtpdfifdlhpmofaaGreatDoorZ29
import Derived.Test.YtpdfifdlhpmofaaGreatDoorZ31
set_option linter.unusedVariables false
set_option linter.unusedSimpArgs false
set_option maxHeartbeats 3200000
set_option maxRecDepth 100000
namespace Go.Proofs.YtpdfifdlhpmofaaGreatDoor
open Go.RowKit Tryz
open Go.Lib (hid)
theorem mae {p:Prop} (h:p:=by
 clear HQ;obtain⟨k,c9,rfl,Sr,hQ⟩:=hrel;by_cases hk:(k:Int) < (AV.length:Int)
 ·have uO:k < AV.length:=Y
  have Jc:k < ls.length:=by rw[<-QT.out.len];exact uO
  have kN:=QT.AW k uO Jc;have WA:=WO ls (GS.Dn G6) k Jc;have zg:=NY.out ls[k] (Qab _);obtain⟨ab,acp,Ach,_,_,_,_,hac,_⟩:=AG (n:=AV.length) (hQ.st.Am.row (i:=2) rfl) Y;cases Ach;have WR:=(Dm (show Az wr (MG.Ar {g with c:=c9,a:=⟨some ⟨ab,0,none⟩,ac⟩,av:=AV} _) from hQ.st.Am)).c 4;have y9:=(Dm (show Az wr (MG.Ar {g with c:=c9,a:=⟨some ⟨ab,0,none⟩,ac⟩,av:=AV} _) from hQ.st.Am)).lt;dsimp only at WR y9;have hce:=hac k uO;have hlen:=Kl (ls.take k) (GS.Dn G6);rw[GS.FO] at hlen zg;obtain⟨Gk,hGk⟩:∃z,z=(ls.take k).foldl GS.Bd (GS.Dn G6):=⟨_,rfl⟩;rw[<-hGk] at WA hlen hQ;obtain⟨⟨lk,la⟩,hl⟩:∃l,l=ls[k]:=⟨_,rfl⟩;rw[<-hl] at kN WA zg;obtain⟨v9,hv9⟩:∃v,v=AV[k]:=⟨_,rfl⟩;rw[<-hv9] at kN hce;have HQ:=hid hQ;have Xm:=hid WA;have uP:lk < Gk.Ab.length:=by rw[hlen];exact zg
  have IU:Gk.Ab.length<=1000000:=Y
  clear hQ WA hGk hl hv9 hac hlen zg Jc;have Ta:k<=1000000:=Y
  have inc:True->wrap64 ((k:Int)+1)=k+1:=fun _=>tY k Ta
  cases la with
  | none=>
   obtain⟨xm,xk,rfl,x1,x2⟩:=kN;go_wp2_with fail;refine(SO xm xk lk _ {g with c:=c9,a:=⟨some ⟨ab,0,none⟩,ac⟩,av:=AV} Gk _ HQ.st.Am HQ.kf (D _ x2) (D _ x1) IU uP).mono ?_;rintro e w25 ⟨rfl,c10,st⟩;have Q2:=HQ.step st rfl rfl (by rw[GS.DV];exact LE _);rw[<-Xm.out] at Q2;clear HQ hce x1 x2 st;go_wp2;go_roundw;case rel=>exact⟨k+1,_,rfl,uO,Q2⟩
   case measure=>simp[intOf];omega
  | some a0=>
   obtain⟨xa,xm,xk,rfl,x0,x1,x2⟩:=kN;go_wp2_with fail;refine(QA a0 xa xm xk lk _ {g with c:=c9,a:=⟨some ⟨ab,0,none⟩,ac⟩,av:=AV} Gk _ HQ.st.Am HQ.kf (D _ x2) (D _ x0) (D _ x1) IU uP).mono ?_;rintro e w25 ⟨rfl,c10,st⟩;have Q2:=HQ.step st rfl rfl (by rw[GS.DV];exact LE _);rw[<-Xm.out] at Q2;clear HQ hce x0 x1 x2 st;go_wp2;go_roundw;case rel=>exact⟨k+1,_,rfl,uO,Q2⟩
   case measure=>simp[intOf];omega
 ·have NS:k=AV.length:=Y
  have PB:ls.take k=ls:=Qbo (by rw[NS,QT.out.len];exact LE _);rw[PB] at hQ;have Vd:Aw (ls.foldl GS.Bd (GS.Dn G6)) G6:=Aw.kQ ((Aw.refl G6).AP _) ls;have hl8:=Kl ls (GS.Dn G6);rw[GS.FO] at hl8;obtain⟨G8,hG8⟩:∃z,z=ls.foldl GS.Bd (GS.Dn G6):=⟨_,rfl⟩;rw[<-hG8] at hQ hl8 Vd;have hc8:=Vd.cells.trans fW;have H:=hid (show CI v0 ⟨g.mb,c1,⟨none,0⟩,[]⟩ (GS.enter G3) G8 _ [(p,#[.slice sp sn sc],255)] [] (some true) wr from⟨_,_,_,hQ⟩);have HG8:=hid hG8;replace hk:=Qal (show¬k < AV.length by omega);clear hQ hG8 PB Sr NS Vd
  revert wr H
  refine MW ?_;have hl9:(GS.Gg G8 G1.Ab.length).Ab.length=G8.Ab.length+cells.toNat*4+9:=by rw[GS.OR,hc8]
  refine MK (fun⦃w v g G F P R i⦄(H:Hid (CI w g G G8 F P R i v))=>Aas G1.Ab.length H Y (by rw[hc8];omega)) ?_;refine MK (qJ bm bk G6.Ab.length) ?_;intro v H
  intros
  go_end0
  have e:=ZM b cells G G1 G2 G4 G5 HG1.out HG2.out (jS.out.cells.trans Mv) (by rw[HG4.out,HG3.out]) HG5.out;rw[<-HG6.out,Hab.out,<-HG8.out] at e;rw[e];obtain⟨c,a,AV,H⟩:=H.out;exact⟨rfl,c,a,AV,S3.out.trans H.st,H.al⟩):p:=h
variable {w:World} {g:MG} {G:GS} {F:List (Nat×Obj)} {mb:Nat} {vs:List Value} {ls:List Ij}
theorem tY (k:Nat) (hk:k<=1000000):wrap64 ((k:Int)+1)=k+1:=IntWalk.wrap64_in _ Y
def GS.Au (g:GS) (b:Bool):GS:={g with block:=b}
def GS.enter (g:GS):GS:={g with block:=true,BL:=[]}
theorem Ak.enter (h:Az w (g.Ar G)):Ak w (g.Ar G) ((w.setCell ⟨g.mb,3,none⟩ (.bool true)).setCell ⟨g.mb,4,none⟩ (.slice none 0 0)) (MG.Ar {g with a:=⟨none,0⟩,av:=[]} G.enter):=by
 have s1:=h.set (i:=0) rfl 3 (.bool true);have s2:=s1.Am.set (i:=0) rfl 4 (.slice none 0 0);have s3:=s2.Am.swap (i:=2) (o':= .row (.slice none 0 0) 1 1 0 []) rfl (Av.refl _ _) (Da _ _ _ _) (by simp[Ob.fp,Value.ownBlock]) (by intro b hb;simp[Ob.fp,Value.ownBlock] at hb);exact(s1.trans s2).trans s3
theorem Ak.Au (h:Az w (g.Ar G)) (b:Bool):Ak w (g.Ar G) (w.setCell ⟨g.mb,3,none⟩ (.bool b)) (MG.Ar g (G.Au b)):=h.set (i:=0) rfl 3 (.bool b)
theorem jW.len (h:jW F mb vs ls):vs.length=ls.length:=by
 induction h with
 | nil=>rfl
 | cons _ _ ih=>simp[ih]
theorem jW.AW (h:jW F mb vs ls):∀(k:Nat) (hv:k < vs.length) (hl:k < ls.length),Tx F vs[k] mb ls[k]:=by
 induction h with
 | nil=>intro k hv;simp at hv
 | cons a _ ih=>
  intro k hv hl;cases k with
  | zero=>exact a
  | succ k=>exact ih k (by simpa using hv) (by simpa using hl)
theorem WO (l:List Ij) (g:GS) (k:Nat) (hk:k < l.length):(l.take (k+1)).foldl GS.Bd g=((l.take k).foldl GS.Bd g).Bd l[k]:=by
 exact mbR
theorem ZM (b:Bt) (cells:Int) (G G1 G2 G4 G5:GS) (h1:G1=GS.LW GS.NC 4 G) (h2:G2=GS.LW GS.Jg cells.toNat G1) (hc:G1.cells=cells) (h4:G4=GS.Dr b (GS.enter (GS.st (GS.NR (GS.st G2 39 (.n 0)) 1 16) 38 (.r 1))))
  (h5:G5=if Cr b then GS.Eu (GS.Au G4 false) else GS.Au G4 false):
  GS.Dr (.atomic b .nil) G=GS.Bd (GS.Gg ((GS.GD G5).BL.foldl GS.Bd (GS.Dn (GS.GD G5))) G1.Ab.length) ⟨(GS.Ab (GS.GD G5)).length,none⟩:=by
 have e1:GS.BX G=G1:=h1.symm;have e2:GS.QP G1=GS.enter (GS.st (GS.NR (GS.st G2 39 (.n 0)) 1 16) 38 (.r 1)):=by
  unfold GS.QP;rw[hc];rw[<-h2];rfl
 show GS.Nu (GS.Dr b (GS.QP (GS.BX G))) (GS.BX G).Ab.length (Cr b)=_;rw[e1,e2,<-h4];unfold GS.Nu;subst h5;rfl
section
variable {w v:World} {g:MG} {G O:GS} {F:List (Nat×Obj)} {P:List QB} {R:List Ob} {i:Option Bool}
theorem CI.Au (b:Bool) (h:CI w g G O F P [] i v):∃v2,v2=v.setCell ⟨g.mb,3,none⟩ (.bool b)/\Hid (CI w g G (O.Au b) F P [] i v2):=by
 obtain⟨c,a,AV,h⟩:=h;exact⟨_,rfl,c,a,AV,h.step (Ak.Au h.st.Am b) rfl rfl (LE _)⟩
theorem CI.enter (h:CI w g G O F P [] i v):∃v2 c1,v2=(v.setCell ⟨g.mb,3,none⟩ (.bool true)).setCell ⟨g.mb,4,none⟩ (.slice none 0 0)/\Hid (Ak w (g.Ar G) v2 (MG.Ar ⟨g.mb,c1,⟨none,0⟩,[]⟩ O.enter))/\Hid (CI v2 ⟨g.mb,c1,⟨none,0⟩,[]⟩ O.enter O.enter F P [] (some true) v2):=by
 obtain⟨c,a,AV,h⟩:=h;have s:=Ak.enter (g:={g with c:=c,a:=a,av:=AV}) h.st.Am;exact⟨_,c,rfl,h.st.trans s,_,_,_,Ak.refl s.Am,h.kf.step s,h.kp.step s,.start,h.hb,d6 _⟩
end
theorem CI.Aef {v:World} {O:GS} {P:List QB} {R:List Ob} {i:Option Bool} (h:CI w g G O F P R i v):∃x,v.cell? ⟨g.mb,4,none⟩=some x:=by
 obtain⟨c,a,AV,h⟩:=h;have m:=Dm (g:={g with c:=c,a:=a,av:=AV}) (Ak.AN h.st.Am).Am;exact⟨_,m.c 4⟩
theorem qJ (bm bk k:Nat)⦃w v:World⦄⦃g:MG⦄⦃G O:GS⦄⦃F:List (Nat×Obj)⦄⦃P:List QB⦄⦃R:List Ob⦄⦃i:Option Bool⦄(H:Hid (CI w g G O F P R i v)) (h1:Gc bk k∈F:=by simp) (h3:Ga bm g.mb∈F:=by simp) (hn:O.Ab.length<=1000000:=by omega) (hk:k < O.Ab.length:=by omega):
  Calls prog 174 #[i6 bm,i6 bk] v (fun e v'=>e= .returned (.tuple #[])/\Hid (CI w g G (O.Bd ⟨k,none⟩) F P R i v')):=qK bm bk k H h1 h3 hn hk
theorem xz⦃w v:World⦄⦃g:MG⦄⦃G O:GS⦄⦃F:List (Nat×Obj)⦄⦃P:List QB⦄⦃i:Bool⦄(H:Hid (CI w g G O F P [] (some i) v)) (hn:O.Ab.length<=999000) (Db:0<=O.cells/\O.cells<=6):
  Calls prog 156 #[i6 g.mb] v (fun e v'=>e= .returned (.tuple #[])/\Hid (CI w g G O.Eu F P [] (some i) v')):=
 CI.ab H (Aw.Eu (Aw.refl O)).Ac fun c1 a1 A1 h hb ha=>dE v {g with c:=c1,a:=a1,av:=A1} O h hn ha hb Db
theorem Aaq⦃w v:World⦄⦃g:MG⦄⦃G O:GS⦄⦃F:List (Nat×Obj)⦄⦃P:List QB⦄⦃R:List Ob⦄⦃i:Option Bool⦄(H:Hid (CI w g G O F P R i v)) (hn:O.Ab.length<=999900:=by (try simp only[NT]);omega):
  Calls prog 157 #[i6 g.mb] v (fun e v'=>e= .returned (.tuple #[])/\Hid (CI w g G O.GD F P R i v')):=
 CI.mk H (by unfold GS.GD;simp only[GS.Ix,GS.lo,GS.Py,GS.CV,GS.Bd,GS.AP]) (Aw.GD (Aw.refl O)).Ac (Mb (GS.N0 _)) fun c1 a1 A1 h hb ha=>gX v {g with c:=c1,a:=a1,av:=A1} O h hn ha hb
theorem GS.Aac (g:GS) (Dw:Nat):(g.Gg Dw).BL=g.BL:=by
 have h1:∀n (x:GS),(GS.LW GS.NL n x).BL=x.BL:=fun n x=>by
  induction n with
  | zero=>rfl
  | succ n ih=>exact ih
 have h2:∀n (x:GS),(GS.LW GS.NF n x).BL=x.BL:=fun n x=>by
  induction n with
  | zero=>rfl
  | succ n ih=>exact ih
 unfold GS.Gg;exact(h2 _ _).trans (h1 _ _)
theorem Aas (Dw:Nat)⦃w v:World⦄⦃g:MG⦄⦃G O:GS⦄⦃F:List (Nat×Obj)⦄⦃P:List QB⦄⦃R:List Ob⦄⦃i:Option Bool⦄(H:Hid (CI w g G O F P R i v)) (hn:O.Ab.length<=999000) (Db:0<=O.cells/\O.cells<=100):
  Calls prog 158 #[i6 g.mb,i5 (Dw:Int)] v (fun e v'=>e= .returned (.tuple #[])/\Hid (CI w g G (O.Gg Dw) F P R i v')):=
 CI.mk H (GS.Aac _ _) (Aw.Gg (Aw.refl O) _).Ac (by rw[GS.OR];omega) fun c1 a1 A1 h hb ha=>ij Dw v {g with c:=c1,a:=a1,av:=A1} O h hn ha hb Db
theorem dF (cells:Int) (b:Bt) (sp:Option Addr) (sn sc:Nat) (ws:List Value) (F:List (Nat×Obj)) (p:Nat) (w:World) (g:MG) (G:GS) (h:Az w (g.Ar G)) (hK:A5 w (g.Ar G) F) (hF:(p,Obj.cells #[.slice sp sn sc] 255 (0,0))∈F) (hn:G.Ab.length+296+Cg b<=998000) (ha:g.av.length<=G.Ab.length) (FT:C2 G.Ac)
  (d:Nat) (Db:0<=cells/\cells<=6) (Fs:G.block=false) (Mv:G.cells=cells) (UF:0<=G.Aj/\G.Aj<=(d:Int)) (hd:d < 3) (P0:WF cells b (d+1) true) (ih:OU F cells true (FH b)) (h3:EE F (.slice sp sn sc) ws) (Ia:FH b<=1000) (h4:Ef F b ws):
  Calls prog 142 #[i6 g.mb,i6 p] w (wK (GS.Dr (.atomic b .nil) G) g G w):=by
 have XB:=hK.Rz hF;have IH:=hid ih;have H3:=hid h3;have H4:=hid h4;have Hwb:=hid P0;refine CI.begin F [(p,#[.slice sp sn sc],255)] (some false) h hK (hK.Xx hF) FT ha ?_;clear h FT hK hF ih h3 h4 P0 ha;intro v H;go_enter func142,ntmps142
 revert v H
 refine MW ?_;intro v H
 intros
 go_loopw [10] (fun iv wr=>LR GS.NC 4 w g G G F [(p,#[.slice sp sn sc],255)] [] (some false) iv wr) (fun iv _=>(4:Int).toNat - (intOf iv).toNat);case atStart=>exact LR.start AC H.out
 case round=>
  clear H;obtain⟨k,Gk,rfl,Sr,hl,HG,HC,H⟩:=LR.open hrel GS.YG (Aw.NC);clear hrel;by_cases hk:(k:Int) < 4
  ·have Vg:Gk.Ab.length+Cg b<=997712:=Y
   have Ta:k<=100:=Y
   obtain⟨z0,z1,z2,z3,z4,z5,z6,z7,y0,y1,y2,y3,zi⟩:=wrs k Ta;clear hl
   revert wr H
   refine MW ?_;refine MK (Kr (k:Int)) ?_;refine MK (xy 1 (k:Int)) ?_;refine MK (Kr (4+(k:Int))) ?_;refine MK (xR 1) ?_;refine MK (jX (4+(k:Int)) (.r 1)) ?_;exact maF
  ·have NS:k=(4:Int).toNat:=Y
   rw[NS] at HG;have Vg:Gk.Ab.length+Cg b<=997712:=Y
   replace hk:=Qal hk;clear hl Sr NS;obtain⟨G1,hG1⟩:∃z,z=Gk:=⟨_,rfl⟩;rw[<-hG1] at HG HC H Vg;have HG1:=HG;have jS:=HC;clear hG1 HG HC;have KM:True->G1.cells=cells:=fun _=>jS.out.cells.trans Mv
   revert wr H
   refine MWL ?_;intro cc;intro v H
   intros
   go_loopw [36] (fun iv wr=>LR GS.Jg cells w g G G1 F [(p,#[.slice sp sn sc],255)] [] (some false) iv wr) (fun iv _=>(cells:Int).toNat - (intOf iv).toNat);case atStart=>exact LR.start Db.1 H.out
   case round=>
    clear H;obtain⟨k,Gk,rfl,Sr,hl,HG,HC,H⟩:=LR.open hrel GS.W9 (Aw.Jg);clear hrel;by_cases hk:(k:Int) < cells
    ·have Vg:Gk.Ab.length+Cg b<=997730:=Y
     have Ta:k<=100:=Y
     obtain⟨z0,z1,z2,z3,z4,z5,z6,z7,y0,y1,y2,y3,zi⟩:=wrs k Ta;clear hl
     revert wr H
     refine MW ?_;refine MK (Kr (8+(k:Int))) ?_;refine MK (xN 0) ?_;refine MK (jX (8+(k:Int)) (.n 0)) ?_;refine MK (Kr (20+(k:Int))) ?_;refine MK (xN 0) ?_;refine MK (jX (20+(k:Int)) (.n 0)) ?_;refine MK (Kr (26+(k:Int))) ?_;refine MK (xN 0) ?_;refine MK (jX (26+(k:Int)) (.n 0)) ?_;exact maF
    ·have NS:k=(cells:Int).toNat:=Y
     rw[NS] at HG;have Vg:Gk.Ab.length+Cg b<=997730:=Y
     replace hk:=Qal hk;clear hl Sr NS;obtain⟨G2,xp⟩:∃z,z=Gk:=⟨_,rfl⟩;rw[<-xp] at HG HC H Vg;have HG2:=HG;have AcJ:=HC;clear xp HG HC;have JC:True->G2.cells=cells:=fun _=>AcJ.out.cells.trans (KM trivial)
     revert wr H
     refine MW ?_;refine MK (Kr 39) ?_;refine MK (xN 0) ?_;refine MK (jX 39 (.n 0)) ?_;refine MK (xN 16) ?_;refine MK (qI 1 16) ?_;refine MK (Kr 38) ?_;refine MK (xR 1) ?_;intro v H
     intros
     refine(jX 38 (.r 1) H).mono ?_;clear H;rintro e v ⟨rfl,H⟩;obtain⟨q1,q2,q3,q4,q5,q6,q7,q8,_⟩:=H.Mf;obtain⟨x4,q10⟩:=H.Aef;go_wp2_with fail;clear q1 q2 q3 q4 q5 q6 q7 q8 q10;obtain⟨v2,c1,uf,S3,H3'⟩:=H.enter;rw[<-uf];obtain⟨G3,zB⟩:∃z,z=((G2.st 39 (.n 0)).NR 1 16).st 38 (.r 1):=⟨_,rfl⟩;have xo:G3.cells=cells:=by rw[zB];exact JC trivial
     have iS:G3.Ab.length+Cg b<=997740:=by rw[zB];simp only[NT];omega
     have iX:0<=G3.Aj/\G3.Aj<=((d+1:Nat):Int):=by
      have:G3.Aj=G.Aj:=by rw[zB];exact AcJ.out.Aj.trans jS.out.Aj
      rw[this];omega
     rw[<-zB] at S3 H3';have HG3:=hid zB;clear H uf zB;obtain⟨v0,hv0⟩:∃z,z=v2:=⟨_,rfl⟩;rw[show CI v2 ⟨g.mb,c1,⟨none,0⟩,[]⟩ (GS.enter G3) (GS.enter G3) F [(p,#[.slice sp sn sc],255)] [] (some true) v2=CI v0 ⟨g.mb,c1,⟨none,0⟩,[]⟩ (GS.enter G3) (GS.enter G3) F [(p,#[.slice sp sn sc],255)] [] (some true) v2 by rw[hv0]] at H3';rw[<-hv0] at S3;clear hv0
     revert v2 H3'
     obtain⟨KJ,WK,hhi⟩:=O0 cells b Db (d+1) true (GS.enter G3) Hwb rfl xo;have hhi:(GS.Dr b (GS.enter G3)).Ab.length<=G3.Ab.length+Cg b:=hhi;refine MK (fZ (G0:=GS.enter G3) IH H3 H4 Hwb Y rfl xo iX (by show G3.Ab.length+_<=_;omega) KJ.Ac) ?_;obtain⟨G4,hG4⟩:∃z,z=GS.Dr b (GS.enter G3):=⟨_,rfl⟩;have WR:G4.cells=cells:=by rw[hG4];exact KJ.cells.trans xo
     rw[<-hG4] at hhi⊢;have hl4:G4.Ab.length<=997740:=Y
     have HG4:=hid hG4;clear hG4 KJ WK hhi iS iX;intro v H
     intros
     obtain⟨v2,uf,H2⟩:=H.Au false;rw[<-uf];clear H uf;obtain⟨_,_,_,hq2⟩:=H2.out;refine(show Calls prog _ _ v2 (fun e w'=>e= .returned (.bool (Cr b))/\Hid (CI v0 ⟨g.mb,c1,⟨none,0⟩,[]⟩ (GS.enter G3) (G4.Au false) F [(p,#[.slice sp sn sc],255)] [] (some true) w')) from(r4 F _ _ hq2.kf 1000 (LE _) b (.slice sp sn sc) ws Ia H3 H4).mono (by rintro e w1 ⟨rfl,rfl⟩;exact⟨rfl,H2⟩)).mono ?_;clear H2 hq2;rintro e v ⟨rfl,H⟩;cases P3:Cr b with
     | true=>
      revert v H
      refine MW ?_;refine MK (fun⦃w v g G F P i⦄(H:Hid (CI w g G (GS.Au G4 false) F P [] (some i) v))=>xz H (by show G4.Ab.length<=_;omega) (by rw[show(GS.Au G4 false).cells=cells from WR];exact Db)) ?_;obtain⟨G5,kV⟩:∃z,z=GS.Eu (GS.Au G4 false):=⟨_,rfl⟩;have uL:G5.Ab.length<=997980:=by rw[kV,GS.Ge];show G4.Ab.length+(GS.cells G4).toNat*37+3<=_;rw[WR];omega
      have iZ:G5.cells=cells:=by rw[kV];exact(Aw.Eu (Aw.refl _)).cells.trans WR
      have HG5:=hid (show G5=if Cr b then GS.Eu (GS.Au G4 false) else GS.Au G4 false by rw[P3,kV];rfl);rw[<-kV];clear kV WR P3;refine MK Aaq ?_;obtain⟨G6,u9⟩:∃z,z=GS.GD G5:=⟨_,rfl⟩;have hl6:G6.Ab.length<=997990:=by rw[u9,GS.N0];omega
      have fW:G6.cells=cells:=by rw[u9];exact(Aw.GD (Aw.refl G5)).cells.trans iZ
      rw[<-u9];have HG6:=hid u9;clear u9 uL iZ;intro v H
      intros
      refine(jZ H Y).mono ?_;clear H;rintro e v ⟨bm,bk,rfl,H⟩;obtain⟨c,⟨ap,ac⟩,AV,HJ⟩:=H.out;clear H;obtain⟨vs,ls,E,e1,e2,kE,an,_⟩:=HJ.ab rfl;obtain rfl:AV=vs:=e1;have Su:G6.BL=ls:=e2;obtain⟨hc,hf,AX⟩:=Dm (show Az v (MG.Ar {g with c:=c,a:=⟨ap,ac⟩,av:=AV} G6.Dn) from HJ.st.Am);have QT:=hid an.all;have NY:=hid an.lt;have Hab:=hid Su;have HQ:=hid (show CJ v0 ⟨g.mb,c1,⟨none,0⟩,[]⟩ (GS.enter G3) ([].foldl GS.Bd G6.Dn) c ⟨ap,ac⟩ AV (E++(Gc bk G6.Ab.length::Ga bm g.mb::F)) [(p,#[.slice sp sn sc],255)] [] (some true) v from⟨HJ.st,HJ.kf.aS kE,HJ.kp,HJ.ab,HJ.hb,HJ.al⟩);have kU:AV.length<=998000:=by have:=HJ.al;rw[GS.FO] at this;omega
      clear HJ kE an e2 Su;dsimp only at hc hf AX;go_wp2;clear hc hf AX;go_loopw [106] (fun i wr=>∃(k:Nat) (c:SG),i= i5 k/\k<=AV.length/\CJ v0 ⟨g.mb,c1,⟨none,0⟩,[]⟩ (GS.enter G3) ((ls.take k).foldl GS.Bd G6.Dn) c ⟨ap,ac⟩ AV (E++(Gc bk G6.Ab.length::Ga bm g.mb::F)) [(p,#[.slice sp sn sc],255)] [] (some true) wr) (fun i _=>AV.length - (intOf i).toNat);case atStart=>exact⟨0,_,rfl,d6 _,HQ⟩
      case round=>
       exact mae
     | false=>
      revert v H
      refine MW ?_;obtain⟨G5,kV⟩:∃z,z=GS.Au G4 false:=⟨_,rfl⟩;have uL:G5.Ab.length<=997980:=by rw[kV];show G4.Ab.length<=_;omega
      have iZ:G5.cells=cells:=by rw[kV];exact WR
      have HG5:=hid (show G5=if Cr b then GS.Eu (GS.Au G4 false) else GS.Au G4 false by rw[P3,kV];rfl);rw[<-kV];clear kV WR P3;refine MK Aaq ?_;obtain⟨G6,u9⟩:∃z,z=GS.GD G5:=⟨_,rfl⟩;have hl6:G6.Ab.length<=997990:=by rw[u9,GS.N0];omega
      have fW:G6.cells=cells:=by rw[u9];exact(Aw.GD (Aw.refl G5)).cells.trans iZ
      rw[<-u9];have HG6:=hid u9;clear u9 uL iZ;intro v H
      intros
      refine(jZ H Y).mono ?_;clear H;rintro e v ⟨bm,bk,rfl,H⟩;obtain⟨c,⟨ap,ac⟩,AV,HJ⟩:=H.out;clear H;obtain⟨vs,ls,E,e1,e2,kE,an,_⟩:=HJ.ab rfl;obtain rfl:AV=vs:=e1;have Su:G6.BL=ls:=e2;obtain⟨hc,hf,AX⟩:=Dm (show Az v (MG.Ar {g with c:=c,a:=⟨ap,ac⟩,av:=AV} G6.Dn) from HJ.st.Am);have QT:=hid an.all;have NY:=hid an.lt;have Hab:=hid Su;have HQ:=hid (show CJ v0 ⟨g.mb,c1,⟨none,0⟩,[]⟩ (GS.enter G3) ([].foldl GS.Bd G6.Dn) c ⟨ap,ac⟩ AV (E++(Gc bk G6.Ab.length::Ga bm g.mb::F)) [(p,#[.slice sp sn sc],255)] [] (some true) v from⟨HJ.st,HJ.kf.aS kE,HJ.kp,HJ.ab,HJ.hb,HJ.al⟩);have kU:AV.length<=998000:=by have:=HJ.al;rw[GS.FO] at this;omega
      clear HJ kE an e2 Su;dsimp only at hc hf AX;go_wp2;clear hc hf AX;go_loopw [106] (fun i wr=>∃(k:Nat) (c:SG),i= i5 k/\k<=AV.length/\CJ v0 ⟨g.mb,c1,⟨none,0⟩,[]⟩ (GS.enter G3) ((ls.take k).foldl GS.Bd G6.Dn) c ⟨ap,ac⟩ AV (E++(Gc bk G6.Ab.length::Ga bm g.mb::F)) [(p,#[.slice sp sn sc],255)] [] (some true) wr) (fun i _=>AV.length - (intOf i).toNat);case atStart=>exact⟨0,_,rfl,d6 _,HQ⟩
      case round=>
       exact mae
def IJ (op:Option Addr) (n oc:Nat) (cs:List SG) (l:List (List GI)):List Ob:= .row (.slice op n oc) 158 1 n (BC cs l)::List.zipWith D2 cs l
theorem Ac2 {α:Type} (b c a o:α) (R:List α):([b,c,a]++o::R).Perm ((o::(R++[c]))++[b,a]):=by
 refine Qb0.trans ?_;have:(o::R)++[c,b,a]=(o::(R++[c]))++[b,a]:=EQ
 rw[<-this];exact Qbr _ (List.Perm.swap _ _ _)
end Go.Proofs.YtpdfifdlhpmofaaGreatDoor
