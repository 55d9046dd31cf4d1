/- Part 7 of the proof. -/
import Derived.Test.YtpdfifdlhpmofaaGreatDoorA06
set_option linter.unusedVariables false
set_option linter.unusedSimpArgs false
set_option maxHeartbeats 0
set_option maxRecDepth 99999
namespace Go.Proofs.YtpdfifdlhpmofaaGreatDoor
open Go.RowKit Tryz
open Value renaming slice->qD,string->qE,bool->qF,tuple->qG,agg->qH,pointer->qI
open Ending renaming returned->qJ
open Obj renaming cells->qK
open Option renaming none->Z,some->U
open Bool renaming true->V,false->I
open Go.Lib renaming hid->D
open List renaming length->J
theorem maz {p:Prop} (h:p:=by
 go_wp2_with fail;refine(AO _ _ _).mono ?_;rintro e w5 ⟨⟨fb,rfl,hb⟩,hm⟩;go_wp2;rw[hr.out];exact⟨rfl,A3 ⟨⟨fb,rfl,hb⟩,oe.Aj hm⟩⟩):p:=h
theorem maM {p:Prop} (h:p:=by
 simp only[jK,Qq,QQ] at GY;clear Wx Hr hx;go_wp2_with fail;refine(AO _ _ _).mono ?_;rintro e w5 ⟨⟨fb,rfl,hb⟩,hm⟩;go_wp2;rw[hr.out];exact⟨rfl,A3 ⟨⟨fb,rfl,hb⟩,(oe.alloc _).Aj hm⟩⟩):p:=h
theorem maV {p:Prop} (h:p:=by
 cases As r n with
 |none=>rfl
 |some p=>obtain⟨x,y⟩:=p;simp[RO];omega):p:=h
theorem maZ {p:Prop} (h:p:=by
 rw[LA] at he;obtain⟨⟨fb,rfl,hb⟩,Dk⟩:=he;have iW:=D (show As t n=Z by rw[aT.out];simp only[As];rw[LA];rfl);clear LA;go_wp2;rw[iW.out];exact⟨rfl,⟨fb,rfl,hb⟩,HM.Aj Dk⟩):p:=h
theorem mbb {p:Prop} (h:p:=by
 split at h
 .cases h
 .split at h
  .cases h
  .rename_i hl;cases h;obtain⟨a1,a2⟩:=Xq hl;exact⟨(Mw _ _).1.trans a1,(Mw _ _).2.trans a2⟩):p:=h
theorem mbc {p:Prop} (h:p:=by
 have Hq:=D (show qF (decide (0<k0))= qF tr by rw[HTR.out];simp[hk]);rw[yB] at r0;clear he yB hk;go_wp2
 go_meet
 exact⟨rfl,Hq⟩):p:=h
theorem mbh {p:Prop} (h:p:=by
 exact Ow Eq Eq h1 h2 hb h3 hr Y):p:=h
theorem mbi {p:Prop} (h:p:=by
 go_wp2_with fail;refine(AO _ _ _).mono ?_;rintro e w5 ⟨⟨fb,rfl,hb⟩,hm⟩;go_wp2;rw[iW.out];exact⟨rfl,⟨fb,rfl,hb⟩,NQ.Aj hm⟩):p:=h
theorem mbk {p:Prop} (h:p:=by
 refine hK _ _ ⟨h2.OA MX 0,_,?_,h2⟩;simp only[Ku.p8,Ku.P9,ot,FL]):p:=h
theorem mbm {p:Prop} (h:p:=by
 exact ho.swap (i:=0) rfl (h.mod.mono (λy hy=> .inl (by simpa[Ob.fp] using hy))) h1 (by simp[Ob.fp]) (λb hb=> .inl hb)):p:=h
theorem mbp {p:Prop} (h:p:=by
 exact ho.swap (i:=0) rfl (hm.mono (λy hy=> .inl (by simpa[Ob.fp] using hy))) h1 (by simp[Ob.fp]) (λb hb=> .inl hb)):p:=h
theorem mbt {p:Prop} (h:p:=by
 unfold Ch at h2;rw[he,h2] at h1;simp only[Option.some.injEq,Obj.cells.injEq] at h1;exact⟨h1.1.symm,h1.2.1.symm⟩):p:=h
theorem mbL {p:Prop} (h:p:=by
 obtain⟨rfl,_⟩:=he;refine hK _ _ ⟨h2.OA MX 0,_,?_,h2⟩;simp only[Ku.p8,Ku.P9,FL]):p:=h
theorem mbS {p:Prop} (h:p:=by
 exact JX.2 ⟨_,Je ..,GE.2 rfl⟩):p:=h
variable {nm:ByteArray} {ws r l:Ws} {mb b i n k pB eB rb:Nat} {w w0 W w5 wr:World} {g:FG} {x y:qL} {wv pv:Value} {Ae v c o b1 o1:Int} {F:List (Nat×Obj)} {L:List Ob} {s:By} {T tp te:TypeId} {xs vs:List Value} {fs:List KG} {os:List Fr} {ts:List Bj} {Post:Ending->World->Prop} {rows:Array Value}
theorem AfI {r:PV} (k:iP nm ws mb w g x wv Ae F r) (hk:bs nm=Fz):aV nm ws w g x wv Ae F:=by
 obtain⟨q0,q1,q2,q3,q4,q5,q6⟩:=Ft hk V I I I I I I rfl;refine r8 ?_;clear k hk;intro H Hz Hg Hb Hk HX Ay hmf hlt bx Hbx E R0 MX;go_upto_region 6 with fail
 have S0:=R0.out.quiet (Aw.refl [] _).drew;refine OI [0,2] [1,3] [4,5,6] [(7,I),(8,I),(9,I)] (λW=>W.cell? ⟨w.heap.size,0,Z⟩=U (iJ g.xb)) 9 (S0.cell MX 0) ?_;refine LJ (v:= ?_) rfl rfl rfl (λW hW=>?_) ?_;rotate_left
 .go_simp;rfl
 simp only[FL];refine LJ (v:= ?_) rfl rfl rfl (λW hW=>?_) ?_;rotate_left
 .go_simp;rfl
 simp only[FL];simp only[W3];have J0:Uu w g.xb r Ae uh W4 ws 1 3 4 5 6 (qK #[qE ⟨#[]⟩] 9 (0,0)) (qK #[qE ⟨#[]⟩,iI 0] 230 (0,0)) (qK #[qE ⟨#[]⟩] 9 (0,0)) [4,5,6] E [1,3] [4,5,6] ⟨undef,undef,Z,Z,Z⟩ _:=⟨⟨E,ws,S0,λ_ h=>h,.inl ⟨rfl,rfl⟩,.inl ⟨Do,rfl⟩,.inl ⟨Do,rfl⟩,.inl ⟨Do,rfl⟩⟩,Do,λ_ h=>h,EQ,EQ,EQ⟩;refine V1 (Ku.p8 25 27 6 7 8) (Uu w g.xb r Ae uh W4 ws 1 3 4 5 6 (qK #[qE ⟨#[]⟩] 9 (0,0)) (qK #[qE ⟨#[]⟩,iI 0] 230 (0,0)) (qK #[qE ⟨#[]⟩] 9 (0,0)) [4,5,6] E) ?_ ?_ ?_ rfl _ (by simp only[Ku.p8,Ku.P9,ot,FL]) J0
 .clear J0 S0;intro c cs al s w1 hJ;rcases hJ.Aaq with⟨rfl,rfl⟩|⟨rfl,rfl⟩
  .refine D4 rfl (λK hK=>?_);simp only[Ku.p8,Ku.P9,FL];go_simp;obtain⟨E1,hR⟩:=hJ.at1;obtain⟨OH,p1,s1⟩:=hR.px;refine(Ou ws _ g.xb r OH Ae _ p1 s1 (λh=>h.1 rfl) Hz.out).mono ?_;intro e w2 he;cases hf:dJ ws with
   |none=>
    rw[hf] at he;obtain⟨⟨fb,rfl,hb⟩,hm⟩:=he;rw[Cb (by rw[Mc Hk.out];unfold Kk;rw[hf])];exact maP
   |some p=>
    obtain⟨n,l1⟩:=p;rw[hf] at he;have h2:=hJ.AdI (v:= qE n) (by unfold uh;rw[hf];rfl) (λE hE=>(hE.Eb he).2);exact mbL
  .refine D4 rfl (λK hK=>?_);simp only[Ku.p8,Ku.P9,FL];go_simp;obtain⟨E1,l1,hR,Ug⟩:=hJ.at2;obtain⟨n,hn,hv⟩:=Mf Ug;obtain⟨OH,p1,s1⟩:=hR.px;refine(Ko mb l1 _ g.xb r OH Ae _ p1 s1 (λh=>h.1 rfl) (λq hq=>Hz.out q (Ni hn q hq)) (Hg.out.mod hR.mod (λb hb hm=>by rw[GE] at hm;rw[hm] at hb;exact HX.out hb)) HX.out).mono ?_;intro e w2 he;cases hf:EV l1 with
   |none=>
    rw[hf] at he;obtain⟨⟨fb,rfl,hb⟩,hm⟩:=he;rw[Cb (by rw[Mc Hk.out];unfold Kk;rw[hn];simp only[];rw[hf])];exact maP
   |some p=>
    obtain⟨a,l2⟩:=p;rw[hf] at he;have h2:=hJ.AdH (v:=a.val) Ug (by unfold W4;rw[hf];rfl) (λE hE=>(hE.Eb he).2);exact mbL
 .clear J0 S0;intro cs al i s w1 hi hJ;have LU:=hJ.sub i hi;simp only[Jl,QY,or_false] at LU;rcases LU with rfl|rfl|rfl
  .refine D4 rfl (λK hK=>?_);simp only[Ku.p8,Ku.P9,FL];go_simp;have h2:=hJ.a1 Do;exact mbk
  .refine D4 rfl (λK hK=>?_);simp only[Ku.p8,Ku.P9,FL];go_simp;have h2:=hJ.a2 Do;exact mbk
  .refine D4 rfl (λK hK=>?_);simp only[Ku.p8,Ku.P9,FL];go_simp;have h2:=hJ.a3 Do;exact mbk
 clear J0 S0;intro s w1 hJ;obtain⟨E1,l,l1,b1,b2,b3,R1,hM,Ug,Z2,e1,e2,e3,m1,m2,m3,Yv,iq,eW⟩:=hJ.done;obtain⟨v1,v2,q1,q2,q3⟩:=s;simp only at Ug Z2 e1 e2 e3;subst e1;subst e2;subst e3;obtain⟨n,hn,rfl⟩:=Mf Ug;obtain⟨a,ha,rfl⟩:=YC Z2;clear hJ Ug Z2;simp only[Ku.p8,Ku.P9,ot,FL];have n1:=R1.ne (hM _ MX) m1 (by intro h;injection h with _ h;exact Jk h Do);have n2:=R1.ne (hM _ MX) m2 (by intro h;injection h with _ h;exact Jk h Do);have n3:=R1.ne (hM _ MX) m3 (by intro h;injection h with _ h;exact Jk h Do);have LV:a.val= qH #[qE a.name,iI a.v]:=rfl;simp only[LV];clear LV;have mX:=hM _ MX.out;have c1:=R1.cell m1;have f1:=R1.free m1;refine AJ rfl (λK hK=>?_);go_simp;clear c1 f1;obtain⟨E2,R2,m1',k2⟩:=R1.Pe m1 0 (qE n);replace mX:=k2 _ mX n1;replace m2:=k2 _ m2 (Ne.symm Yv);replace m3:=k2 _ m3 (Ne.symm iq);refine hK _ _ (λ_=>R2.cell mX 0) ?_;clear hK;have c2:=R2.cell m2;have f2:=R2.free m2;refine AJ rfl (λK hK=>?_);go_simp;clear c2 f2;obtain⟨E3,R3,m2',k3⟩:=R2.Pe m2 0 (qE a.name);obtain⟨E4,R4,m2'',k4⟩:=R3.Pe m2' 1 (iI a.v);replace mX:=k4 _ (k3 _ mX n2) n2;replace m1':=k4 _ (k3 _ m1' Yv) Yv;replace m3:=k4 _ (k3 _ m3 (Ne.symm eW)) (Ne.symm eW);refine hK _ _ (λ_=>R4.cell mX 0) ?_;clear hK;have c3:=R4.cell m3;have f3:=R4.free m3;refine AJ rfl (λK hK=>?_);go_simp;clear c3 f3;obtain⟨E5,R5,m3',k5⟩:=R4.Pe m3 0 (qE ⟨#[]⟩);replace mX:=k5 _ mX n3;replace m1':=k5 _ m1' iq;replace m2'':=k5 _ m2'' eW;refine hK _ _ (λh=>Jk rfl h) ?_;clear hK;simp only[BO];generalize (World.setCell (World.setCell (World.setCell (World.setCell w1 ⟨b1,0,Z⟩ (qE n)) ⟨b2,0,Z⟩ (qE a.name)) ⟨b2,1,Z⟩ (iI a.v)) ⟨b3,0,Z⟩ (qE ⟨#[]⟩))=w4 at R5⊢;have R:=D R5;replace MX:=D mX;have MA:=D m1';have MB:=D m2'';have Hn:=D hn;have Ha:=D ha;have MO:=D m3';have D13:=D iq;have D23:=D eW;have N3:=D n3;clear R1 R2 R3 R4 R5 k3 k5 m2' m3' n3 hM m1 m1' m2 m2'' m3 mX k2 k4 hn ha n1 n2 Yv iq eW R0;cases l with
 |nil=>
  obtain⟨OH,p1,s1⟩:=R.px;obtain⟨sp,sc,rfl,_,_⟩:=s1.Mq;have x0:w4.cell? ⟨g.xb,0,Z⟩=U (qD sp 0 sc):=p1.cell 0;have xl0:=p1.lt;obtain⟨E6,R6,mC,more6⟩:=R.gF (qK #[qE ⟨#[]⟩,iI 0] 230);replace R:=D R6;have MC:=D mC;replace MX:=D (more6 _ MX);replace MA:=D (more6 _ MA);replace MB:=D (more6 _ MB);replace MO:=D (more6 _ MO);clear p1 s1 R6 mC more6;obtain⟨fK,p2,s2⟩:=R.px;have cb:=R.cell MX 0;have NN:=D (DG [] _ g.xb r fK Ae _ p2 s2);clear p2 s2;go_wp2_with fail;refine NN.mono ?_;intro e w3 he;clear cb x0 xl0;obtain⟨rfl,R3⟩:=R.Eb he;have Hr:=D (FE (x:=x) (by rw[Mc Hk.out];unfold Kk;rw[Hn.out];simp only[];rw[Ha.out]));rcases H.out with⟨hS,rfl⟩|⟨hN,hP⟩;rotate_left
  .obtain⟨wvq,p3,_⟩:=R3.px;have x5:=(p3.cell 5).trans (JM U hN.o);have x1:w3.cell? ⟨g.xb,1,Z⟩=U (iI Ae):=p3.cell 1;have cb:=R3.cell MX 0;exact mai
  obtain⟨NO,S3,OO⟩:=R3.GP hS;have M8:=D hS.DU.ne;clear hS;obtain⟨wvq,p3,_⟩:=R3.px;have x5:w3.cell? ⟨g.xb,5,Z⟩=U (qD (U ⟨g.ob,0,Z⟩) (J g.fr+1) g.oc):=p3.cell 5;have cb:=R3.cell MX 0;have IL:((J g.fr:Int)+1==0)=I:=by rw[Jh];omega
  have Ic:=D S3;have Gm:=D OO;clear S3 OO p3 he R3 R NN;have Hp:=D (Hr.trans (Iu Ic.DU (λh=>by cases h) (λh=>by rw[Hk.out] at h;exact Jk h Do)));clear Hr;go_wp2_with fail;refine(mU n ⟨#[]⟩ a .zero _ g x NO Ae _ Ic Hb.out _ _ _ _ _ (IR _ MO) (IR _ MX) (IR _ MB) (IR _ MC) (IR _ MA)).mono ?_;intro e w4 he;clear cb x5 IL;unfold RW at he;cases B0:x.finish (.set n a ⟨#[]⟩ .zero) with
  |error c=>
   exact maj
  |ok y=>
   exact mab
 |cons o l=>
  obtain⟨OH,p1,s1⟩:=R.px;obtain⟨sp,sc,rfl,_,_⟩:=s1.Mq;have x0:w4.cell? ⟨g.xb,0,Z⟩=U (qD sp (J l+1) sc):=(p1.cell 0).trans (by simp[PV.cells,Bp]);have xl0:=p1.lt;have cb0:=R.cell MX 0;have cl0:=R.blt MX.out;have O0:0<(J l:Int)+1:=Y
  obtain⟨bc,AfF⟩:∃b,b=w4.heap.size:=⟨_,rfl⟩;have ne4:∀q:Nat×Obj,q∈_->q.1≠bc:=λq hq e=>by
   have:=R.blt hq;rw[e,AfF] at this;exact d7 _ this
  have HX1:=D (ne4 _ MX);have HA1:=D (ne4 _ MA);have SC:=D (ne4 _ MB);have UB:=D (ne4 _ MO);clear ne4;obtain⟨E6,R6,mC,more6⟩:=R.gF (qK #[qE ⟨#[]⟩,iI 0] 230);rw[<-AfF] at mC;have HBW:=D AfF;have HR6:=D R6;have MC:=D mC;replace MX:=D (more6 _ MX);replace MA:=D (more6 _ MA);replace MB:=D (more6 _ MB);replace MO:=D (more6 _ MO);clear p1 s1 R6 mC more6 R AfF;go_upto_region 9 with fail
  clear x0 xl0 O0;rw[<-HBW.out];have S6:=HR6.quiet (Aw.refl [] _).drew;have G6:=(Hg.out.mod S6.mod (λb hb hm=>by rw[GE] at hm;rw[hm] at hb;exact HX.out hb));obtain⟨om,hom,GY⟩:=G6.opm;refine AG [2] 4 (λW=>W.cell? ⟨1,0,Z⟩=U (.map (U mb))/\W.cell? ⟨w.heap.size,0,Z⟩=U (iJ g.xb)/\W.heap[mb]?=U om) ⟨G6.Bh,S6.cell MX 0,hom⟩ ?_;refine Dr ?_;intro K hK;obtain⟨wv6,p6,s6⟩:=S6.px;refine(Kp (o::l) _ g.xb r wv6 Ae _ p6 s6 (λh=>h.1 rfl)).mono ?_;intro e w5 he;obtain⟨rfl,wv7,h71,h72,h73⟩:=he;obtain⟨_,R7⟩:=S6.Eb (v:= qE o) (l':=l) ⟨rfl,wv7,h71,h72,h73⟩;have G7:=(Hg.out.mod R7.mod (λb hb hm=>by rw[GE] at hm;rw[hm] at hb;exact HX.out hb));have Py:mb∉[g.xb]:=λh=>by rw[GE] at h;exact HX.out (h▸by simp[eI])
  refine hK _ w5 (λ_=>⟨G7.Bh,R7.cell MX 0,h73.heap hom Py⟩) ?_;clear hK;repeat
   refine Kg (v:= ?_) rfl rfl rfl (λW hW=>?_) ?_;rotate_left
   .obtain⟨s1,s2,s3⟩:=hW;have hl:=GY W s3 o;go_simp;rfl
   simp only[FL]
  have c3:=R7.cell MO.out;have f3:=R7.free MO.out;refine AJ rfl (λK hK=>?_);go_simp;refine hK _ _ (λh=>Jk rfl h) ?_;clear hK c3 f3;simp only[BO];obtain⟨E8,R8,mO,k8⟩:=R7.Pe MO 0 (qE ((xh o).getD ⟨#[]⟩));have Ana:=D13.out;replace MX:=D (k8 _ MX N3);replace MA:=D (k8 _ MA D13);replace MB:=D (k8 _ MB D23);replace MC:=D (k8 _ MC (Ne.symm UB));generalize World.setCell w5 ⟨b3,0,Z⟩ (qE ((xh o).getD ⟨#[]⟩))=w6 at R8⊢;replace MO:=D mO;have R:=D R8;clear R8 mO k8 R7 h71 h72 h73 hom GY G7 G6 S6 HR6 p6 s6 Ana Py;have c8:=R.cell MO.out;have cb:=R.cell MX 0;cases I7:xh o with
  |none=>
   rw[I7] at c8;have hr:=D (Cb (x:=x) (by rw[Mc Hk.out];unfold Kk;rw[Hn.out];simp only[];rw[Ha.out];simp only[];rw[I7]));clear I7;obtain⟨OH,p1,s1⟩:=R.px;have Hnn:=D (Fb _ g.xb r _ Ae p1);clear p1 s1;simp only[QZ] at c8;go_wp2_with fail;refine Hnn.mono ?_;rintro e w7 ⟨⟨fb,rfl,hb⟩,hm⟩;go_wp2;rw[hr.out];exact⟨rfl,A3 ⟨⟨fb,rfl,hb⟩,R.mod.Aj hm⟩⟩
  |some op=>
   rw[I7] at c8 MO;have AmE:=ZP (Aar op (AbB I7));have Hop:=D I7;clear I7;simp only[Qq] at c8 MO;obtain⟨OH,p1,s1⟩:=R.px;have nZ:=D (Ko mb l _ g.xb r OH Ae _ p1 s1 (λh=>h.1 rfl) (λq hq=>Hz.out q (Ni Hn q (cL Ha q (Id _ hq)))) (Hg.out.mod R.mod (λb hb hm=>by rw[GE] at hm;rw[hm] at hb;exact HX.out hb)) HX.out);clear p1 s1;go_wp2_with fail;refine nZ.mono ?_;intro e w7 he;clear cb nZ c8 AmE;cases hw:EV l with
   |none=>
    rw[hw] at he;obtain⟨⟨fb,rfl,hb⟩,hm⟩:=he;have hr:=D (Cb (x:=x) (by rw[Mc Hk.out];unfold Kk;rw[Hn.out];simp only[];rw[Ha.out];simp only[];rw[Hop.out];simp only[];rw[hw]));clear hw;exact mam
   |some p=>
    obtain⟨c,l⟩:=p;rw[hw] at he;obtain⟨rfl,R1⟩:=R.Eb he;have LV:c.val= qH #[qE c.name,iI c.v]:=rfl;simp only[LV];have c9:=R1.cell MC.out;have f9:=R1.free MC.out;obtain⟨E9,R9,mC,k9⟩:=R1.Pe MC 0 (qE c.name);obtain⟨Ea,Ra,mCa,ka⟩:=R9.Pe mC 1 (iI c.v);replace MX:=D (ka _ (k9 _ MX HX1) HX1);replace MA:=D (ka _ (k9 _ MA HA1) HA1);replace MB:=D (ka _ (k9 _ MB SC) SC);replace MO:=D (ka _ (k9 _ MO UB) UB);replace MC:=D mCa;have Hw:=D hw;clear R;have R:=D Ra;clear R1 R9 mC k9 Ra mCa ka hw he LV;obtain⟨fK,p2,s2⟩:=R.px;have cb:=R.cell MX 0;have NN:=D (DG l _ g.xb r fK Ae _ p2 s2);clear p2 s2;go_wp2_with fail;refine NN.mono ?_;intro e w3 he;clear cb c9 f9;cases l with
    |cons b l2=>
     obtain⟨⟨fb,rfl,hb⟩,hm⟩:=he;have hr:=D (Cb (x:=x) (by rw[Mc Hk.out];unfold Kk;rw[Hn.out];simp only[];rw[Ha.out];simp only[];rw[Hop.out];simp only[];rw[Hw.out];rfl));exact mam
    |nil=>
     obtain⟨rfl,R3⟩:=R.Eb he;have Hr:=D (FE (x:=x) (by rw[Mc Hk.out];unfold Kk;rw[Hn.out];simp only[];rw[Ha.out];simp only[];rw[Hop.out];simp only[];rw[Hw.out];rfl));rcases H.out with⟨hS,rfl⟩|⟨hN,hP⟩;rotate_left
     .obtain⟨wvq,p3,_⟩:=R3.px;have x5:=(p3.cell 5).trans (JM U hN.o);have x1:w3.cell? ⟨g.xb,1,Z⟩=U (iI Ae):=p3.cell 1;have cb:=R3.cell MX 0;exact mai
     obtain⟨NO,S3,OO⟩:=R3.GP hS;have M8:=D hS.DU.ne;clear hS;obtain⟨wvq,p3,_⟩:=R3.px;have x5:w3.cell? ⟨g.xb,5,Z⟩=U (qD (U ⟨g.ob,0,Z⟩) (J g.fr+1) g.oc):=p3.cell 5;have cb:=R3.cell MX 0;have IL:((J g.fr:Int)+1==0)=I:=by rw[Jh];omega
     have Ic:=D S3;have Gm:=D OO;clear S3 OO p3 he R3 R NN;have Hp:=D (Hr.trans (Iu Ic.DU (λh=>by cases h) (λh=>by rw[Hk.out] at h;exact Jk h Do)));clear Hr;go_wp2_with fail;refine(mU n op a c _ g x NO Ae _ Ic Hb.out _ _ _ _ _ (IR _ MO) (IR _ MX) (IR _ MB) (IR _ MC) (IR _ MA)).mono ?_;intro e w4 he;clear cb x5 IL;unfold RW at he;cases B0:x.finish (.set n a op c) with
     |error c=>
      exact maj
     |ok y=>
      exact mab
theorem AiI {r:PV} (k:iP nm ws mb w g x wv Ae F r) (h0:¬bs nm=Fz) (h1:¬bs nm=DR) (h2:¬bs nm=EF) (h3:¬bs nm=IF) (h4:¬bs nm=A8) (h5:¬bs nm=UD) (h6:¬bs nm=EZ):aV nm ws w g x wv Ae F:=by
 obtain⟨q0,q1,q2,q3,q4,q5,q6⟩:=Ft (x:=nm) rfl I I I I I I I (by simp[h0,h1,h2,h3,h4,h5,h6]);have hr:=D (Cb (x:=x) (w:=nm) (r:=ws) (by unfold IP;rw[In h0,In h1,In h2,In h3,In h4,In h5,In h6]));have R0:=D ((Rd.start (r:=r) k.h.px k.hs).xq (qK #[iJ g.xb] 143));obtain⟨OH,p1,_⟩:=R0.px;have Hn:=D (Fb _ g.xb r _ Ae p1);clear k p1 h0 h1 h2 h3 h4 h5 h6;unfold aV;go_enter func101,ntmps101;go_wp2_with fail;refine Hn.mono ?_;rintro e w1 ⟨⟨fb,rfl,hb⟩,hm⟩;go_wp2;rw[hr.out];exact⟨rfl,A3 ⟨⟨fb,rfl,hb⟩,R0.mod.Aj hm⟩⟩
theorem Z8 (nm:ByteArray) (ws:Ws) (mb:Nat) (w:World) (g:FG) (x:qL) (wv:Value) (Ae:Int) (F:List (Nat×Obj)) (r:PV) (h:PSt F g x wv Ae w r) (hs:Sl w (λb=>b≠g.xb) wv (Bp ws)) (hz:∀a,a∈ws->a.size<=1000000) (hg:Gl mb w) (bp:g.xb∉eI mb) (hb:oC g) (Ay:0<=x.Ai/\x.Ai<=1000):
  Calls prog 101 #[iJ g.xb,qE nm] w (Ad4 (x.Bf nm ws) F g x wv Ae w):=by
 have k:iP nm ws mb w g x wv Ae F r:=⟨h,hs,hz,hg,bp,hb,Ay⟩;show aV nm ws w g x wv Ae F;by_cases h0:bs nm=Fz
 .exact AfI k h0
 by_cases h1:bs nm=DR
 .exact AfL k h1
 by_cases h2:bs nm=EF
 .exact AfJ k h2
 by_cases h3:bs nm=IF
 .exact AfK k h3
 by_cases h4:bs nm=A8
 .exact r7 k h4
 by_cases h5:bs nm=UD
 .exact AiJ k h5
 by_cases h6:bs nm=EZ
 .exact Ac9 k h6
 exact AiI k h0 h1 h2 h3 h4 h5 h6
def FG.UC (g:FG) (x:qL) (wv:Value) (Ae:Int):List Ob:=if x.Aa=[] then g.AeP x wv Ae else g.Az x wv Ae
structure PA (F:List (Nat×Obj)) (g:FG) (x:qL) (wv:Value) (Ae:Int) (w:World):Prop where
 Ak:Aq w (g.UC x wv Ae)
 AK:AY w (g.UC x wv Ae) F
 DU:x.Aa≠[]->aX F g x
 lK:x.Aa=[]->x.Ad=[]/\x.AA=[]/\x.Ai=0
def FG.pv0 (g:FG):PV:=⟨iJ g.pb,.map (U g.sb),.map Z,qD Z 0 0,iI 0⟩
def FG.wV (g:FG) (x:qL):PV:=if x.Aa=[] then g.pv0 else g.pv x
theorem GW (h:x.Aa=[]):g.UC x wv Ae=g.AeP x wv Ae:=Jd h
theorem Gb (h:x.Aa≠[]):g.UC x wv Ae=g.Az x wv Ae:=In h
theorem PA.st (h:PA F g x wv Ae w) (hx:x.Aa≠[]):SY F g x wv Ae w:=
 ⟨Gb hx▸h.Ak,Gb (g:=g) (wv:=wv) (Ae:=Ae) hx▸h.AK,h.DU hx⟩
theorem PA.of (h:SY F g x wv Ae w):PA F g x wv Ae w:=
 ⟨by rw[Gb h.DU.ne];exact h.Ak,by rw[Gb h.DU.ne];exact h.AK,λ_=>h.DU,λe=>Jk e h.DU.ne⟩
theorem PA.pst (h:PA F g x wv Ae w):PSt F g x wv Ae w (g.wV x):=by
 by_cases hx:x.Aa=[]
 .refine .inr ⟨⟨hx,by unfold FG.wV;rw[Jd hx];rfl⟩,?_⟩;have:=h.Ak;rw[GW hx] at this;unfold FG.wV;rw[Jd hx];exact this.Ao (i:=0) rfl
 .refine .inl ⟨h.st hx,?_⟩;unfold FG.wV;rw[In hx]
def fH (res:Except Int qL) (F:List (Nat×Obj)) (g:FG) (x:qL) (wv:Value) (Ae:Int) (w:World) (e:Ending) (w':World):Prop:=match res with
 |.error c=>Kf (PM g x wv Ae) c Ae w e w'
 |.ok y=>e= qJ (qG #[])/\∃g' F' wv',g'.xb=g.xb/\iN F F'/\Af w (g.UC x wv Ae) w' (g'.UC y wv' Ae)/\PA F' g' y wv' Ae w'
theorem AfM {res:Except Int qL} {e:Ending} {w':World} (hx:x.Aa≠[]) (h:Ad4 res F g x wv Ae w e w'):fH res F g x wv Ae w e w':=by
 cases res with
 |error c=>exact h
 |ok y=>
  obtain⟨h1,g',F',wv',h2,h3,h4,h5⟩:=h;refine⟨h1,g',F',wv',h2,h3,?_,.of h5⟩;rw[Gb hx,Gb h5.DU.ne];exact h4
theorem Rd.GB {E:List (Nat×Obj)} (h0:PA F g x wv Ae w0) (h:Rd w0 g.xb (g.wV x) Ae E l w):
  ∃wv',PA F g x wv' Ae w/\Af w0 (g.UC x wv Ae) w (g.UC x wv' Ae):=by
 obtain⟨wv',h1,_⟩:=h.px;have st:Af w0 (g.UC x wv Ae) w (g.UC x wv' Ae):=by
  have ho:=h0.Ak;by_cases hx:x.Aa=[]
  .unfold FG.wV at h1;rw[Jd hx] at h1;rw[GW hx] at ho;rw[GW hx,GW hx];exact mbm
  .unfold FG.wV at h1;rw[In hx] at h1;rw[Gb hx] at ho;rw[Gb hx,Gb hx];exact mbm
 exact⟨wv',⟨st.Ak,h0.AK.step st,h0.DU,h0.lK⟩,st⟩
theorem kV (l:List nU) (s:nU):F5 (l++[s])=F5 l++[(s.name,qH #[iI s.first,iI s.size])]:=by simp[F5]
theorem Ahd {l:List nU} (h:W.heap[b]?=U (I9 (F5 l))) (n:ByteArray) (hp:(l.find? λs=>decide (bs s.name=bs n))=Z) (f z:Int):(Instr.mapUpdate 147 (.map (U b)) (qE n) (qH #[iI f,iI z])).run prog W=.ok () {W with heap:=W.heap.setIfInBounds b (I9 (F5 (l++[⟨n,f,z⟩])))}:=by
 rw[kV];exact Nc (k:=9) (e:=200) Fd Fd h n _ (by rw[um,hp];rfl)
theorem YF {l:List nU} (h:Aq W L) (hi:L[i]?=U (.Xk b (I9 (F5 l)))) (n:ByteArray) (hp:(l.find? λs=>decide (bs s.name=bs n))=Z) (f z:Int):
  ∃w5,(Instr.mapUpdate 147 (.map (U b)) (qE n) (qH #[iI f,iI z])).run prog W=.ok () w5/\Af W L w5 (L.set i (.Xk b (I9 (F5 (l++[⟨n,f,z⟩]))))):=
 ⟨_,Ahd (h.get hi) n hp f z,h.AaZ hi _⟩
theorem pw (h:dJ r=Z):x.Ec r=.error 2:=by unfold qL.Ec;rw[h]
theorem YG {Cd:Int} (h:Iq Cd l=U (v,r)):1<=v/\v<=Cd:=by
 unfold Iq at h;split at h
 .cases h
 .split at h
  .rename_i hc;cases h;exact hc.2
  .cases h
def qL.FO (x:qL) (n:ByteArray) (z:Int):Except Int qL:=
 if x.Aa≠[] then .error 3 else if (x.WE n).isSome then .error 4 else .ok {x with Ax:=x.Ax++[⟨n,x.cells,z⟩],cells:=x.cells+z}
theorem Iy {w:ByteArray} (h:bs w=AQ):x.row (w::r)=x.Ec r:=by
 show(if _ then _ else _)=_;rw[Jd h]
theorem Z9 (nm:ByteArray) (ws:Ws) (mb:Nat) (w:World) (g:FG) (x:qL) (wv:Value) (Ae:Int) (F:List (Nat×Obj)) (h:PA F g x wv Ae w) (hs:Sl w (λb=>b≠g.xb) wv (Bp (nm::ws))) (hz:∀a,a∈ws->a.size<=1000000) (hg:Gl mb w) (bp:g.xb∉eI mb) (Cs:0<=x.cells/\x.cells<=100000) (Ake:J g.tv<=3000) (hk:bs nm=AQ):
  Calls prog 74 #[iJ g.xb] w (fH (x.row (nm::ws)) F g x wv Ae w):=by
 have R00:=D (Rd.start h.pst.px hs);have H:=D h;have Hk:=D hk;have Hz:=D hz;have Hg:=D hg;have HX:=D bp;have q0:=CZ hk;unfold AQ at q0;obtain⟨wv0,p0,s0⟩:=R00.px;have Hn:=D (Kp (nm::ws) _ g.xb _ wv0 Ae _ p0 s0 (λh=>h.1 rfl));clear h hs hk p0 s0;clear hz hg bp;go_enter func74,ntmps74;go_wp2_with fail;refine Hn.mono ?_;intro e w1 he;obtain⟨rfl,R1⟩:=R00.Eb (v:= qE nm) (l':=ws) he;have R:=D R1;clear Hn he R1 R00;obtain⟨OH,p1,s1⟩:=R.px;have Hnm:=D (Ou ws _ g.xb _ OH Ae _ p1 s1 (λh=>h.1 rfl) Hz);clear p1 s1;go_wp2_with fail;refine Hnm.mono ?_;intro e w2 he;clear Hnm;cases hn:dJ ws with
 |none=>
  rw[hn] at he;obtain⟨⟨fb,rfl,hb⟩,hm⟩:=he;have hr:=D (show x.row (nm::ws)=.error 2 by rw[Iy Hk.out];exact pw hn);clear hn;exact mam
 |some p=>
  obtain⟨n,l⟩:=p;rw[hn] at he;obtain⟨rfl,R2⟩:=R.Eb he;have Hn:=D hn;clear R he;have R:=D R2;clear R2 hn;obtain⟨OH,p1,s1⟩:=R.px;obtain⟨sp,sc,rfl,_,_⟩:=s1.Mq;have xl0:g.xb<w2.heap.size:=p1.lt;cases l with
  |nil=>
   have x0:w2.cell? ⟨g.xb,0,Z⟩=U (qD sp 0 sc):=p1.cell 0;have NN:=D (DG [] _ g.xb _ _ Ae _ p1 s1);clear p1 s1;go_wp2_with fail;refine NN.mono ?_;intro e w3 he;clear x0 xl0 NN;obtain⟨rfl,R3⟩:=R.Eb he;have oe:=D R3.mod;have Hr:=D (show x.row (nm::ws)=x.FO n 1 by rw[Iy Hk.out];unfold qL.Ec;rw[Hn.out];rfl);obtain⟨NO,hP,OO⟩:=R3.GB H.out;by_cases hx:x.Aa=[]
   .have ho:=hP.Ak;rw[GW hx] at ho;obtain⟨hc,hf,hlt,Tm,hpf,gS,IK⟩:=aw ho;have GY:=Yl IK n;have Ho:=D ho;have HP:=D hP;have FZ:=D OO;have Hx:=D hx;have Hsh:=D IK;have Amh:True->wrap64 (x.cells+1)=x.cells+1:=λ_=>IntWalk.wrap64_in _ Y
    clear ho hP OO IK R3 he;cases Wx:x.Ax.find? (λs=>decide (bs s.name=bs n)) with
    |some s=>
     rw[Wx] at GY;have hr:=D (Hr.trans (show x.FO n 1=.error 4 by unfold qL.FO;rw[In (λh=>h Hx.out),Jd (by show(x.Ax.find? _).isSome=V;rw[Wx];rfl)]));exact maM
    |none=>
     rw[Wx] at GY;have hr:=D (Hr.trans (show x.FO n 1=.ok {x with Ax:=x.Ax++[⟨n,x.cells,1⟩],cells:=x.cells+1} by unfold qL.FO;rw[In (λh=>h Hx.out),In (by show¬(x.Ax.find? _).isSome=V;rw[Wx];simp)]));simp only[jL,QZ,QD] at GY;have Hfd:=D Wx;clear Wx Hr hx;go_upto_region 13 with fail
     refine AG [] 14 (λW=>W.cell? ⟨g.xb,3,Z⟩=U (.map (U g.sb))/\W.cell? ⟨g.xb,2,Z⟩=U (iJ g.pb)/\W.cell? ⟨g.pb,1,Z⟩=U (iI x.cells)) ⟨by go_simp,by go_simp,by go_simp⟩ ?_;refine Ox ?_;refine AJ rfl (λK hK=>?_);have t1:=Af.alloc Ho (qK #[iI 0,iI 0] 200);have t2:=t1.trans (Af.drew t1.Ak);obtain⟨w5,hup,t3'⟩:=YF t2.Ak (i:=2) rfl n Hfd x.cells 1;go_simp;refine hK _ _ (λh=>Jk rfl h) ?_;clear hK hup;simp only[BO];have t3:=t2.trans t3';clear t1 t2 t3' GY hc hf hlt Tm hpf gS;have SM:=t3.Ak.Ao (i:=0) rfl;have ZU:=t3.Ak.Ao (i:=1) rfl;have hc:=SM.cell;have hlt:=SM.lt;have Tm:=ZU.cell;have hpf:=ZU.free;have hpl:=ZU.lt;have T3:=D t3;clear SM ZU t3;go_wp2
     go_end0
     rw[hr.out];have t4:=T3.trans (T3.Ak.set (i:=1) rfl 1 (iI (x.cells+1)));have hy:({x with Ax:=x.Ax++[⟨n,x.cells,1⟩],cells:=x.cells+1}:qL).Aa=[]:=Hx.out;have t5:Af w3 (g.UC x NO Ae) (World.setCell w5 ⟨g.pb,1,Z⟩ (iI (x.cells+1))) (g.UC {x with Ax:=x.Ax++[⟨n,x.cells,1⟩],cells:=x.cells+1} NO Ae):=by
      rw[GW Hx.out,GW hy];exact t4
     exact⟨rfl,g,F,NO,rfl,λ_ h=>h,FZ.trans t5,⟨t5.Ak,HP.AK.step t5,λh=>Jk hy h,λ_=>HP.lK Hx⟩⟩
   .have hS:=hP.st hx;obtain⟨hc,hf,hlt,Tm,hpf,gS,IK,Ue⟩:=Iz hS.Ak;have Rm:(0:Int)<(J g.tv:Int)+1:=Y
    have hr:=D (Hr.trans (show x.FO n 1=.error 3 by unfold qL.FO;rw[Jd hx]));clear Hr hx hS hP OO R3 he IK Ue;exact maz
  |cons a l=>
   have x0:w2.cell? ⟨g.xb,0,Z⟩=U (qD sp (J l+1) sc):=(p1.cell 0).trans (by simp[PV.cells,Bp]);have O0:(0:Int)<(J l:Int)+1:=Y
   have Le:0<J l+1:=Y
   have Hup:=D (eJ 6 mb (a::l) _ g.xb _ _ Ae _ p1 s1 (λh=>h.1 rfl) (λq hq=>Hz.out q (Ni Hn q hq)) (Hg.mod R.mod (λb hb hm=>by rw[GE] at hm;rw[hm] at hb;exact HX.out hb)) HX Do);clear p1 s1;go_wp2_with fail;refine Hup.mono ?_;intro e w3 he;clear x0 xl0 Hup O0 Le;cases hu:Iq 6 (a::l) with
   |none=>
    rw[hu] at he;obtain⟨⟨fb,rfl,hb⟩,hm⟩:=he;have hr:=D (show x.row (nm::ws)=.error 2 by rw[Iy Hk.out];unfold qL.Ec;rw[Hn.out];simp only[];rw[hu]);clear hu;exact mam
   |some p=>
    obtain⟨z,l2⟩:=p;rw[hu] at he;obtain⟨rfl,R2⟩:=R.Eb he;have hzr:=YG hu;have Hu:=D hu;clear R he hu;have R:=D R2;clear R2;obtain⟨fK,p2,s2⟩:=R.px;have NN:=D (DG l2 _ g.xb _ _ Ae _ p2 s2);clear p2 s2;go_wp2_with fail;refine NN.mono ?_;intro e w3 he;clear NN;cases l2 with
    |cons b l3=>
     obtain⟨⟨fb,rfl,hb⟩,hm⟩:=he;have hr:=D (show x.row (nm::ws)=.error 2 by rw[Iy Hk.out];unfold qL.Ec;rw[Hn.out];simp only[];rw[Hu.out]);exact mam
    |nil=>
     obtain⟨rfl,R3⟩:=R.Eb he;have oe:=D R3.mod;have Hr:=D (show x.row (nm::ws)=x.FO n z by rw[Iy Hk.out];unfold qL.Ec;rw[Hn.out];simp only[];rw[Hu.out];rfl);obtain⟨NO,hP,OO⟩:=R3.GB H.out;by_cases hx:x.Aa=[]
     .have ho:=hP.Ak;rw[GW hx] at ho;obtain⟨hc,hf,hlt,Tm,hpf,gS,IK⟩:=aw ho;have GY:=Yl IK n;have Ho:=D ho;have HP:=D hP;have FZ:=D OO;have Hx:=D hx;have Hsh:=D IK;have Amh:True->wrap64 (x.cells+z)=x.cells+z:=λ_=>IntWalk.wrap64_in _ Y
      clear ho hP OO IK R3 he;cases Wx:x.Ax.find? (λs=>decide (bs s.name=bs n)) with
      |some s=>
       rw[Wx] at GY;have hr:=D (Hr.trans (show x.FO n z=.error 4 by unfold qL.FO;rw[In (λh=>h Hx.out),Jd (by show(x.Ax.find? _).isSome=V;rw[Wx];rfl)]));exact maM
      |none=>
       rw[Wx] at GY;have hr:=D (Hr.trans (show x.FO n z=.ok {x with Ax:=x.Ax++[⟨n,x.cells,z⟩],cells:=x.cells+z} by unfold qL.FO;rw[In (λh=>h Hx.out),In (by show¬(x.Ax.find? _).isSome=V;rw[Wx];simp)]));simp only[jL,QZ,QD] at GY;have Hfd:=D Wx;clear Wx Hr hx;go_upto_region 13 with fail
       refine AG [] 14 (λW=>W.cell? ⟨g.xb,3,Z⟩=U (.map (U g.sb))/\W.cell? ⟨g.xb,2,Z⟩=U (iJ g.pb)/\W.cell? ⟨g.pb,1,Z⟩=U (iI x.cells)) ⟨by go_simp,by go_simp,by go_simp⟩ ?_;refine Ox ?_;refine AJ rfl (λK hK=>?_);have t1:=Af.alloc Ho (qK #[iI 0,iI 0] 200);have t2:=t1.trans (Af.drew t1.Ak);obtain⟨w5,hup,t3'⟩:=YF t2.Ak (i:=2) rfl n Hfd x.cells z;go_simp;refine hK _ _ (λh=>Jk rfl h) ?_;clear hK hup;simp only[BO];have t3:=t2.trans t3';clear t1 t2 t3' GY hc hf hlt Tm hpf gS;have SM:=t3.Ak.Ao (i:=0) rfl;have ZU:=t3.Ak.Ao (i:=1) rfl;have hc:=SM.cell;have hlt:=SM.lt;have Tm:=ZU.cell;have hpf:=ZU.free;have hpl:=ZU.lt;have T3:=D t3;clear SM ZU t3;go_wp2
       go_end0
       rw[hr.out];have t4:=T3.trans (T3.Ak.set (i:=1) rfl 1 (iI (x.cells+z)));have hy:({x with Ax:=x.Ax++[⟨n,x.cells,z⟩],cells:=x.cells+z}:qL).Aa=[]:=Hx.out;have t5:Af w3 (g.UC x NO Ae) (World.setCell w5 ⟨g.pb,1,Z⟩ (iI (x.cells+z))) (g.UC {x with Ax:=x.Ax++[⟨n,x.cells,z⟩],cells:=x.cells+z} NO Ae):=by
        rw[GW Hx.out,GW hy];exact t4
       exact⟨rfl,g,F,NO,rfl,λ_ h=>h,FZ.trans t5,⟨t5.Ak,HP.AK.step t5,λh=>Jk hy h,λ_=>HP.lK Hx⟩⟩
     .have hS:=hP.st hx;obtain⟨hc,hf,hlt,Tm,hpf,gS,IK,Ue⟩:=Iz hS.Ak;have Rm:0<(J g.tv:Int)+1:=Y
      have hr:=D (Hr.trans (show x.FO n z=.error 3 by unfold qL.FO;rw[Jd hx]));clear Hr hx hS hP OO R3 he IK Ue;exact maz
def uU (g:FG) (x:qL) (wv:Value) (Ae:Int) (lv ov sv:Value) (tp:Option Addr) (tc:Nat) (rows:List Value):List Ob:=
 [.Ao g.xb #[wv,iI Ae,iJ g.pb,.map (U g.sb),lv,ov,sv] 151,
  .Ao g.pb #[qD tp (J rows) tc,iI x.cells] 146,
  .Xk g.sb (I9 (F5 x.Ax)),
  .row (qD tp (J rows) tc) 165 1 (J rows) rows]
structure AlU (F:List (Nat×Obj)) (g:FG) (x:qL) (wv:Value) (Ae:Int) (w:World) (lv ov sv:Value) (tp:Option Addr) (tc:Nat) (rows:List Value) (F':List (Nat×Obj)):Prop where
 lO:iN F F'
 st:Af w (g.UC x wv Ae) w (uU g x wv Ae lv ov sv tp tc rows)
 AK:AY w (uU g x wv Ae lv ov sv tp tc rows) F'
 ths:HY F' x.Aa rows
theorem Af.WJ {A C:List Ob} {b:Ob} (h:Aq w (A++b::C)):Af w (A++b::C) w (A++C):=by
 have:=Af.drop (B:=[b]) (by simpa using h);simpa using this
theorem uT (h:PA F g x wv Ae w) (ho:x.Ad=[]):∃lv ov sv tp tc rows F',AlU F g x wv Ae w lv ov sv tp tc rows F':=by
 by_cases hx:x.Aa=[]
 .have hw:=h.Ak;have hk:=h.AK;rw[GW hx] at hw hk;have t:=Af.Ig (by rw[Jr];exact hw) 165 1;rw[Jr] at t;refine⟨.map Z,qD Z 0 0,iI 0,Z,0,[],F,λ_ h=>h,?_,hk.step t,by rw[hx];rfl⟩;rw[GW hx];exact t
 .obtain⟨hw,hk,hf⟩:=h.st hx;have PL:=Jn (by rw[<-hf.frs.len,ho];rfl);rw[OV g x wv Ae PL] at hw hk;have t1:Af w (g.N0 x wv Ae) w _:=Af.WJ (A:=[_,_,_,_]) hw;have t2:=t1.trans (Af.WJ t1.Ak);obtain⟨E,K,hr⟩:=TN t2.Ak (hk.step t2);have t3:=t2.trans (Af.WJ t2.Ak);obtain⟨⟨ts,t,e1,e2,e3⟩,_⟩:=hf;have el:(g.tv++[qD g.c.p (J g.cs) g.c.c]).length=J g.tv+1:=EQ
  have e5:uU g x wv Ae (.map (U g.lb)) (qD (U ⟨g.ob,0,Z⟩) (J g.fr+1) g.oc) (iI x.Ai) (U ⟨g.tb,0,Z⟩) g.tc (g.tv++[qD g.c.p (J g.cs) g.c.c])=[.Ao g.xb #[wv,iI Ae,iJ g.pb,.map (U g.sb),.map (U g.lb),qD (U ⟨g.ob,0,Z⟩) (J g.fr+1) g.oc,iI x.Ai] 151,
    .Ao g.pb #[qD (U ⟨g.tb,0,Z⟩) (J g.tv+1) g.tc,iI x.cells] 146,
    .Xk g.sb (I9 (F5 x.Ax)),
    .row (qD (U ⟨g.tb,0,Z⟩) (J g.tv+1) g.tc) 165 1 (J g.tv+1) (g.tv++[qD g.c.p (J g.cs) g.c.c])]:=by unfold uU;rw[el]
  refine⟨.map (U g.lb),qD (U ⟨g.ob,0,Z⟩) (J g.fr+1) g.oc,iI x.Ai,U ⟨g.tb,0,Z⟩,g.tc,g.tv++[qD g.c.p (J g.cs) g.c.c],E++F,λ_ h=>Jc _ h,?_,?_,?_⟩
  rotate_right
  .rw[e1];exact(e2.sub λ_ h=>Jc _ h).kS hr (e3.sub λ_ h=>Jc _ h)
  .rw[Gb hx,e5,OV g x wv Ae PL];exact t3
  .rw[e5];exact K
theorem AdJ {s:Nat} {c:Array Value} (hc:c.size=n*s) (hn:n<=maxLen) (h1:∀u,u∈c.toList->u.oneCell'=V) (h:Aq w (L++[.Ao b c T])):
  Af w (L++[.Ao b c T]) w (L++[.row (qD (U ⟨b,0,Z⟩) n n) T s n c.toList]):=by
 have k:=h.swap (i:=J L) (o':=.row (qD (U ⟨b,0,Z⟩) n n) T s n c.toList) (o:=.Ao b c T) EQ (Aw.refl _ _) ?_ (by simp[Ob.fp,Value.ownBlock]) (λx hx=> .inl (by simpa[Ob.fp,Value.ownBlock] using hx))
 .simpa using k
 .have hb:=h.Ao (i:=J L) (b:=b) (c:=c) (T:=T) EQ;refine⟨by simp[hc],.inr ⟨b,n,c,rfl,Jo _,hb,Jf _,hn,by simp[hc],by simp[hc,JV]⟩⟩
theorem Acr:(prog.info? 165).map (λi=>(i.zero,i.size,i.bytes))=U (U (qD Z 0 0),1,24):=Fd
theorem Nt {w:ByteArray} (h:bs w=AE):x.row (w::r)=if r≠[] then .error 2 else if x.Ad≠[] then .error 3 else .ok {x with Aa:=x.Aa++[.nil],AA:=[],Ai:=0,Ad:=[]}:=by
 show(if _ then _ else _)=_;rw[In (by rw[h];decide),Jd h]
theorem ua (h:PA F g x wv Ae w) (hl:J g.fr<=100):
  Calls prog 75 #[iJ g.xb] w (Ad3 (if x.Ad=[] then Z else U 3) Ae w):=by
 by_cases hx:x.Aa=[]
 .have:=h.Ak;rw[GW hx] at this;rw[Jd (h.lK hx).1];exact se w g x wv Ae this
 .have hS:=h.st hx;have e:=hS.DU.frs.len;refine(yY w g x wv Ae hS.Ak hl).mono λe' w' he=>?_
  by_cases ho:x.Ad=[]
  .rw[Jd ho];rw[In (by rw[<-e,ho];simp)] at he;exact he
  .rw[In ho];rw[Jd (by rw[<-e];exact JI.2 ho)] at he;exact he
theorem XT (nm:ByteArray) (ws:Ws) (mb:Nat) (w:World) (g:FG) (x:qL) (wv:Value) (Ae:Int) (F:List (Nat×Obj)) (h:PA F g x wv Ae w) (hs:Sl w (λb=>b≠g.xb) wv (Bp (nm::ws))) (hb:J g.fr<=100) (Rm:J x.Aa<=3000) (hk:bs nm=AE):
  Calls prog 74 #[iJ g.xb] w (fH (x.row (nm::ws)) F g x wv Ae w):=by
 have R00:=D (Rd.start h.pst.px hs);have H:=D h;have Hk:=D hk;have q0:=Bz (k:=AQ) (by rw[hk];decide);unfold AQ at q0;have q1:=CZ hk;unfold AE at q1;have hmm:= @run_makeMap prog;obtain⟨j0,hj,LP,KZ,MH⟩:=info_parts Acr;obtain⟨wv0,p0,s0⟩:=R00.px;have Hn:=D (Kp (nm::ws) _ g.xb _ wv0 Ae _ p0 s0 (λh=>h.1 rfl));clear h hs hk p0 s0;go_enter func74,ntmps74;go_wp2_with fail;refine Hn.mono ?_;intro e w1 he;obtain⟨rfl,R1⟩:=R00.Eb (v:= qE nm) (l':=ws) he;have R:=D R1;clear Hn he R1 R00;obtain⟨fK,p2,s2⟩:=R.px;have NN:=D (DG ws _ g.xb _ _ Ae _ p2 s2);clear p2 s2;go_wp2_with fail;refine NN.mono ?_;intro e w3 he;clear NN;cases ws with
 |cons b l3=>
  obtain⟨⟨fb,rfl,hb⟩,hm⟩:=he;have hr:=D (show x.row (nm::b::l3)=.error 2 by rw[Nt Hk.out,Jd EQ]);exact mam
 |nil=>
  obtain⟨rfl,R3⟩:=R.Eb he;have oe:=D R3.mod;obtain⟨NO,hP,OO⟩:=R3.GB H.out;have He:=D (ua hP hb);have HP:=D hP;have FZ:=D OO;clear he R3 R hP OO;go_wp2_with fail;refine He.mono ?_;intro e w4 he;by_cases ho:x.Ad=[];rotate_left
  .rw[In ho] at he;obtain⟨⟨fb,rfl,hb⟩,hm⟩:=he;have hr:=D (show x.row [nm]=.error 3 by rw[Nt Hk.out,In EQ,Jd ho]);clear ho;go_wp2;rw[hr.out];exact⟨rfl,A3 ⟨⟨fb,rfl,hb⟩,oe.Aj hm⟩⟩
  rw[Jd ho] at he;obtain⟨rfl,hm⟩:=he;have hr:=D (show x.row [nm]=.ok {x with Aa:=x.Aa++[.nil],AA:=[],Ai:=0,Ad:=[]} by rw[Nt Hk.out,In EQ,In (λh=>h ho)]);have V7:=Af.quiet HP.Ak hm;have hP4:PA F g x NO Ae w4:=⟨V7.Ak,HP.AK.quiet hm,HP.DU,HP.lK⟩;obtain⟨lv,ov,sv,tp,tc,rows,F',hF⟩:=uT hP4 ho;have FQ:J rows<=3000:=by rw[hF.ths.len];exact Rm
  have HF:=D hF;have AlH:=D (FZ.trans (V7.trans hF.st));have SM:=hF.st.Ak.Ao (i:=0) rfl;have ZU:=hF.st.Ak.Ao (i:=1) rfl;have x2:w4.cell? ⟨g.xb,2,Z⟩=U (iJ g.pb):=SM.cell 2;have p0:w4.cell? ⟨g.pb,0,Z⟩=U (qD tp (J rows) tc):=ZU.cell 0;clear ho hm V7 hP4 hF He SM ZU;go_upto_region 18 with fail
  refine AG [11,12] 15 (λW=>W.cell? ⟨g.xb,2,Z⟩=U (iJ g.pb)/\W.cell? ⟨g.pb,0,Z⟩=U (qD tp (J rows) tc)) ⟨x2,p0⟩ ?_;refine Dr ?_;intro K hK;have Hb0:=HF.st.Ak.Ao (i:=0) rfl;have Hb1:=HF.st.Ak.Ao (i:=1) rfl;have hxl:=Hb0.lt;have hpl:=Hb1.lt;refine hK _ _ (λ_=>⟨by go_simp,by go_simp⟩) ?_;clear hK Hb0 Hb1 hxl hpl x2 p0;refine AJ rfl (λK hK=>?_);refine BW 24 _ _ _ j0 _ #[qD Z 0 0] _ HF.st.Ak (k:=3) rfl Eq Eq underlying144 hj LP KZ MH rfl Y Eq Eq rfl (by simp[Value.oneCell']) (by unfold maxLen;omega) Y ?_;intro g6 AI w6 Ay _;have z1:w6.cell? ⟨g.xb,2,Z⟩=U (iJ g.pb):=(Ay.Ak.Ao (i:=0) rfl).cell 2;have z2:w6.cell? ⟨g.pb,0,Z⟩=U (qD tp (J rows) tc):=(Ay.Ak.Ao (i:=1) rfl).cell 0;have zf:=(Ay.Ak.Ao (i:=1) rfl).free 0;refine hK _ _ (λ_=>⟨z1,z2⟩) (D3 rfl ?_);clear hK;simp only[FL];refine Dr ?_;intro K hK;refine hK _ _ (λh=>Jk rfl h) ?_;clear hK;simp only[BO];have t5:=AlH.trans (Ay.trans (Ay.Ak.set (i:=1) rfl 0 (qD (U ⟨g6,0,Z⟩) (J rows+1) AI)));have k5:=HF.AK.step (Ay.trans (Ay.Ak.set (i:=1) rfl 0 (qD (U ⟨g6,0,Z⟩) (J rows+1) AI)));clear z1 z2 zf Ay AlH;generalize World.setCell w6 ⟨g.pb,0,Z⟩ (qD (U ⟨g6,0,Z⟩) (J rows+1) AI)=w7 at t5 k5⊢;have hxb:=t5.Ak.Ao (i:=0) rfl;have xl:=hxb.lt;have xf:=hxb.free;have xc:=hxb.cell;have t6:=t5.trans (t5.Ak.set (i:=0) rfl 4 (.map (U w7.heap.size)));have t7:=t6.trans (t6.Ak.set (i:=0) rfl 6 (iI 0));have t8:=t7.trans (Af.new t7.Ak (.map #[] 0));have k8:=k5.step ((t5.Ak.set rfl 4 (.map (U w7.heap.size))).trans ((t6.Ak.set rfl 6 (iI 0)).trans (Af.new t7.Ak (.map #[] 0))));have Ib:(World.heap (World.setCell (World.setCell w7 ⟨g.xb,4,Z⟩ (.map (U w7.heap.size))) ⟨g.xb,6,Z⟩ (iI 0))).size=w7.heap.size:=by simp[World.setCell]
  rw[Ib] at t8 k8;have T8:=D t8;have HK:=D k8;clear t5 t6 t7 t8 k5 k8 Ib hxb;go_upto_region 20 with fail
  have t8:=T8.out;have k8:=HK.out;clear T8 HK xl xf xc;obtain⟨lb,MT⟩:∃b,b=w7.heap.size:=⟨_,rfl⟩;rw[<-MT] at t8 k8⊢;generalize World.alloc (World.setCell (World.setCell w7 ⟨g.xb,4,Z⟩ (.map (U lb))) ⟨g.xb,6,Z⟩ (iI 0)) (.map #[] 0)=w8 at t8 k8⊢;have Fu:=t8.Ak.Ao (i:=0) rfl;have Ix:=t8.Ak.Ao (i:=1) rfl;have x2:w8.cell? ⟨g.xb,2,Z⟩=U (iJ g.pb):=Fu.cell 2;have p0:w8.cell? ⟨g.pb,0,Z⟩=U (qD (U ⟨g6,0,Z⟩) (J rows+1) AI):=Ix.cell 0;have xc:=Fu.cell;have xl:=Fu.lt;have xf:=Fu.free;have pl:=Ix.lt;have T8:=D t8;have HK:=D k8;have hw:True->IntKind.i64.wrap (J rows)=J rows:=λ_=>IntWalk.i64_in _ Y
  have h0:0<=(J rows:Int):=Y
  have h1:J rows<(J rows:Int)+1:=Y
  clear t8 k8 Fu Ix MT;refine AG [19] 22 (λW=>W.cell? ⟨g.xb,2,Z⟩=U (iJ g.pb)/\W.cell? ⟨g.pb,0,Z⟩=U (qD (U ⟨g6,0,Z⟩) (J rows+1) AI)) ⟨x2,p0⟩ ?_;refine Dr ?_;intro K hK;refine hK _ _ (λ_=>⟨by go_simp,by go_simp⟩) ?_;clear hK;refine Dr ?_;intro K hK;refine hK _ _ (λh=>Jk rfl h) ?_;clear hK hw h0 h1 x2 p0 xc xf xl pl;simp only[BO];go_wp2
  go_end0
  rw[hr.out];have t8:=T8.out;have s9:=t8.Ak.set (i:=0) rfl 5 (qD (U ⟨w8.heap.size,0,Z⟩) 1 1);have s10:=Af.new s9.Ak (qK #[qI (U ⟨g6,J rows,Z⟩),.nilFunc,qF I] 205);have Ib:(World.heap (World.setCell w8 ⟨g.xb,5,Z⟩ (qD (U ⟨w8.heap.size,0,Z⟩) 1 1))).size=w8.heap.size:=by simp[World.setCell]
  rw[Ib] at s10;have s11:=s9.trans (s10.trans (Af.drew s10.Ak));have s12:=s11.trans (AdJ (s:=3) rfl (by unfold maxLen;omega) (by simp[Value.oneCell']) s11.Ak);have s13:=s12.trans (Af.Ig (by rw[Jr];exact s12.Ak) 208 1 |> λh=>by rw[Jr] at h;exact h);have t13:=t8.trans s13;have el:(x.Aa++[Bj.nil])≠[]:=EQ
  obtain⟨ob,AmH⟩:∃b,b=w8.heap.size:=⟨_,rfl⟩;rw[<-AmH] at t13 s13⊢;have B0:aX F' {g with tb:=g6,tc:=AI,tv:=rows,c:=⟨Z,0⟩,cs:=[],lb:=lb,ob:=ob,oc:=1,fr:=[]} {x with Aa:=x.Aa++[.nil],AA:=[],Ai:=0,Ad:=[]}:=⟨⟨x.Aa,.nil,rfl,HF.ths,rfl⟩,rfl⟩;refine⟨rfl,{g with tb:=g6,tc:=AI,tv:=rows,c:=⟨Z,0⟩,cs:=[],lb:=lb,ob:=ob,oc:=1,fr:=[]},F',NO,rfl,HF.lO,?_,.of ⟨?_,?_,B0⟩⟩
  .rw[Gb (x:={x with Aa:=x.Aa++[.nil],AA:=[],Ai:=0,Ad:=[]}) el,OV _ _ _ _ rfl];exact t13
  .rw[OV _ _ _ _ rfl];exact t13.Ak
  .rw[OV _ _ _ _ rfl];exact HK.step s13
theorem af {w:ByteArray} (h:bs w=EM):x.row (w::r)=if r≠[] then .error 2 else match x.Ad.getLast? with
  |none=> .error 3
  |some f=> .ok ({x with Ad:=x.Ad.dropLast}.add f.done):=by
 show(if _ then _ else _)=_;rw[In (by rw[h];decide),In (by rw[h];decide),Jd h];rfl
theorem sJ {k:KY} {fn:Fn} {cap:Array Value} (h:SD F k fn cap):∃j,fn=.func j/\(∀(args:Array Value) (w:World),(callFunc j args).run prog w=.ok (.enter j args) w)/\∀(b:Bj) (p:Option Addr) (n c:Nat) (w:World),(∀q o,(q,o)∈F->w.heap[q]?=U o)->Calls prog j (#[qD p n c]++cap) w (Yx k b (qD p n c) w):=by
 cases k with
 |atomic=>obtain⟨rfl,rfl⟩:=h;exact⟨_,rfl,λ_ _=>Fd,λb p n c w _=>XW b p n c w⟩
 |Ew a=>obtain⟨rfl,cb,rfl,hm⟩:=h;exact⟨_,rfl,λ_ _=>Fd,λb p n c w hF=>nD a cb b p n c w (hF _ _ hm)⟩
 |loop n=>obtain⟨rfl,cb,rfl,hm⟩:=h;exact⟨_,rfl,λ_ _=>Fd,λb p m c w hF=>cq n cb b p m c w (hF _ _ hm)⟩
theorem gm {e:TypeId} {s cap g:Nat} (h:w.ownsRow 0 e s (qD (U ⟨g,0,Z⟩) n cap) n xs):n<=cap/\cap<=maxLen:=by
 obtain⟨p,c,hv,h1,h2⟩:=UW h;cases hv;exact⟨h1,h2⟩
theorem Oz {v:Value} (h:∀j,(hj:j<J xs)->w.cell? ⟨b,j,Z⟩=U xs[j]) (e:xs[i]?=U v):w.cell? ⟨b,i,Z⟩=U v:=by
 obtain⟨h1,h2⟩:=Jm.1 e;rw[h i h1,h2]
theorem Ads {f:KG} {o:Fr} (hS:SY F g x wv Ae w) (PL:g.fr=fs++[f]) (I7:x.Ad=os++[o]) (w5:World)
  (h5:∃obj,w5=(World.alloc (World.setCell w ⟨g.xb,5,Z⟩ (qD (U ⟨g.ob,0,Z⟩) (J fs+1) g.oc)) obj).drew.drew/\obj=qK #[iJ f.bb,.func f.fn #[] f.cap,qF f.Ao] 205 (0,0)):
  ∃E,Af w (g.Az x wv Ae) w5 (FG.Az {g with fr:=fs} {x with Ad:=os} wv Ae)/\AY w5 (FG.Az {g with fr:=fs} {x with Ad:=os} wv Ae) (E++F)/\Et (E++F) (qD f.s.p (J f.us) f.s.c) f.us/\aX (E++F) {g with fr:=fs} {x with Ad:=os}/\Ch w5 f.bb #[qD f.s.p (J f.us) f.s.c] 165/\Ch w5 w.heap.size #[iJ f.bb,.func f.fn #[] f.cap,qF f.Ao] 205:=by
 obtain⟨obj,rfl,AmI⟩:=h5;obtain⟨hw,hk,hf⟩:=hS;obtain⟨Vw,XN⟩:=hf;have hnl:J g.fr=J fs+1:=by rw[PL];simp
 have eo:g.De.take ((J fs+1)*3)=FG.De {g with fr:=fs}:=by
  have e1:g.De=FG.De {g with fr:=fs}++f.cells:=by unfold FG.De;rw[PL,Nm];simp
  have e2:(FG.De {g with fr:=fs}).length=(J fs+1)*3:=by rw[pP];show 3*(J fs+1)=_;omega
  rw[e1,<-e2,jB]
 rw[PL,I7] at XN;obtain⟨r,o',e,hr,_⟩:=XN.CF;obtain⟨rfl,_⟩:=QN e rfl;rw[N9 g x wv Ae PL] at hw hk⊢;have a1:=hw.set (i:=0) rfl 5 (qD (U ⟨g.ob,0,Z⟩) (J fs+1) g.oc);have a2:=a1.trans (Af.alloc a1.Ak obj);have a3:=(a2.trans (Af.drew a2.Ak)).trans (Af.drew (Af.drew a2.Ak).Ak);have a4:=a3.trans (a3.Ak.take (i:=5) rfl (J fs+1) Y);rw[eo] at a4;have a5:=a4.trans (Af.WJ (A:=[_,_,_,_,_,_,_]) a4.Ak);obtain⟨E,K,hri⟩:=TN a5.Ak (hk.step a5);have a6:=a5.trans (Af.WJ a5.Ak);have B0:aX F {g with fr:=fs} {x with Ad:=os}:=⟨Vw,hr⟩;have Ib:(World.heap (World.setCell w ⟨g.xb,5,Z⟩ (qD (U ⟨g.ob,0,Z⟩) (J fs+1) g.oc))).size=w.heap.size:=by simp[World.setCell]
 have Vz:=Ch.new (World.setCell w ⟨g.xb,5,Z⟩ (qD (U ⟨g.ob,0,Z⟩) (J fs+1) g.oc)) #[iJ f.bb,.func f.fn #[] f.cap,qF f.Ao] 205;rw[Ib] at Vz;exact⟨E,a6,K,hri,B0.sub (λ_ h=>Jc _ h),a4.Ak.Ao (i:=7) rfl,by rw[AmI];exact Vz⟩
theorem gZ (nm:ByteArray) (ws:Ws) (mb:Nat) (w:World) (g:FG) (x:qL) (wv:Value) (Ae:Int) (F:List (Nat×Obj)) (h:PA F g x wv Ae w) (hs:Sl w (λb=>b≠g.xb) wv (Bp (nm::ws))) (hb:oC g) (hk:bs nm=EM):
  Calls prog 74 #[iJ g.xb] w (fH (x.row (nm::ws)) F g x wv Ae w):=by
 have R00:=D (Rd.start h.pst.px hs);have H:=D h;have Hk:=D hk;have q0:=Bz (k:=AQ) (by rw[hk];decide);unfold AQ at q0;have q1:=Bz (k:=AE) (by rw[hk];decide);unfold AE at q1;have q2:=CZ hk;unfold EM at q2;obtain⟨wv0,p0,s0⟩:=R00.px;have Hn:=D (Kp (nm::ws) _ g.xb _ wv0 Ae _ p0 s0 (λh=>h.1 rfl));clear h hs hk p0 s0;go_enter func74,ntmps74;go_wp2_with fail;refine Hn.mono ?_;intro e w1 he;obtain⟨rfl,R1⟩:=R00.Eb (v:= qE nm) (l':=ws) he;have R:=D R1;clear Hn he R1 R00;obtain⟨fK,p2,s2⟩:=R.px;have NN:=D (DG ws _ g.xb _ _ Ae _ p2 s2);clear p2 s2;go_wp2_with fail;refine NN.mono ?_;intro e w3 he;clear NN;cases ws with
 |cons b l3=>
  obtain⟨⟨fb,rfl,hb⟩,hm⟩:=he;have hr:=D (show x.row (nm::b::l3)=.error 2 by rw[af Hk.out,Jd EQ]);exact mam
 |nil=>
  obtain⟨rfl,R3⟩:=R.Eb he;have oe:=D R3.mod;have HR:=D (show x.row [nm]=match x.Ad.getLast? with|none=> .error 3|some f=> .ok ({x with Ad:=x.Ad.dropLast}.add f.done) by rw[af Hk.out,In EQ]);obtain⟨NO,hP,OO⟩:=R3.GB H.out;have HB:=D hb;clear he R3 hb;by_cases hx:x.Aa=[]
  .have ho:=hP.Ak;rw[GW hx] at ho;obtain⟨hc,hf,hlt,Tm,hpf,gS,IK⟩:=aw ho;have hr:=D (HR.trans (show _=Except.error 3 by rw[(hP.lK hx).1];rfl));clear ho hP OO IK hx;exact maz
  have hS:=hP.st hx;rcases Jw g.fr with PL|⟨fs,f,PL⟩
  .obtain⟨hc,hf,hlt,Tm,hpf,gS,IK,Ue⟩:=Iz hS.Ak;have ho:=Jn (by rw[hS.DU.frs.len,PL];rfl);have hr:=D (HR.trans (show _=Except.error 3 by rw[ho];rfl));rw[PL] at hc;simp only[Jx,JU] at hc;clear ho hP OO IK hx Ue hS PL;exact maz
  .rw[Jz] at PL;have XN:=hS.DU.frs;rw[PL] at XN;obtain⟨os,o,I7,hos,hfo⟩:=XN.CF;have hr:=D (HR.trans (show _=Except.ok ({x with Ad:=os}.add o.done) by rw[I7];simp));obtain⟨n,hn⟩:∃n,n=J fs+1:=⟨_,rfl⟩;have hnl:J g.fr=n:=by rw[PL,hn];simp
   have hj:g.fr[J fs]?=U f:=by rw[PL];simp
   obtain⟨tcl,tfr,tlt⟩:=AZ (hS.Ak.row (i:=5) rfl);have hoc:=(gm (hS.Ak.row (i:=5) rfl)).1;have e0:∀i,i<3->g.De[n*3+i]?=f.cells[i]?:=λi hi=>by
    rw[show n*3+i=3*(J fs+1)+i by omega];exact Wg g (J fs) f hj i hi
   have o0:w3.cell? ⟨g.ob,n*3,Z⟩=U (iJ f.bb):=Oz tcl (e0 0 Y);have o1:=Oz tcl (e0 1 Y);have o2:=Oz tcl (e0 2 Y);have x5:w3.cell? ⟨g.xb,5,Z⟩=U (qD (U ⟨g.ob,0,Z⟩) (n+1) g.oc):=by rw[<-hnl];exact(Iz hS.Ak).c 5
   have Co:=hS.Ak;rw[N9 g x NO Ae PL] at Co;have xl:=(Co.Ao (i:=0) rfl).lt;have AnR:n<=100:=by rw[<-hnl];exact HB.fr
   rw[hnl] at hoc;have HS:=D hS;have Hfr:=D PL;have Hop:=D I7;have Hfo:=D hfo;have Hnl:=D hnl;have FZ:=D OO;have Hx:=D hx;have Hn:=D hn;have hw:True->IntKind.i64.wrap n=n:=λ_=>IntWalk.i64_in _ Y
   have h0:0<=(n:Int):=Y
   have h1:n<(n:Int)+1:=Y
   have h2:¬(n:Int)+1<2:=Y
   have h3:n<=g.oc:=Y
   clear hS PL I7 hos hfo hnl hj tcl tfr e0 XN hP OO hx Co hn HR;go_upto_region 25 with fail
   refine AG [12] 13 (λW=>W.cell? ⟨g.xb,5,Z⟩=U (qD (U ⟨g.ob,0,Z⟩) (n+1) g.oc)/\W.cell? ⟨g.ob,n*3,Z⟩=U (iJ f.bb)/\W.cell? ⟨g.ob,n*3+1,Z⟩=U (.func f.fn #[] f.cap)/\W.cell? ⟨g.ob,n*3+2,Z⟩=U (qF f.Ao)) ⟨x5,o0,o1,o2⟩ ?_;refine Dr ?_;intro K hK;refine hK _ _ (λ_=>⟨by go_simp,by go_simp,by go_simp,by go_simp⟩) ?_;clear hK;refine AJ rfl (λK hK=>?_);go_simp;refine hK _ _ (λh=>Jk rfl h) ?_;clear hK o0 o1 o2;simp only[BO];go_upto_region 26 with fail
   refine AG [] 14 (λW=>W.cell? ⟨g.xb,5,Z⟩=U (qD (U ⟨g.ob,0,Z⟩) (n+1) g.oc)) (by go_simp) ?_;refine Ox ?_;have xf:=(Iz HS.Ak).f 5;refine AJ rfl (λK hK=>?_);go_simp;refine hK _ _ (λh=>Jk rfl h) ?_;clear hK hw h0 h1 h2 h3 x5 xf hoc xl tlt;simp only[BO];have hp:=Ads HS Hfr Hop _ ⟨_,rfl,rfl⟩;rw[<-Hn.out] at hp;generalize (World.drew (World.drew (World.alloc (World.setCell w3 ⟨g.xb,5,Z⟩ (qD (U ⟨g.ob,0,Z⟩) n g.oc)) (qK #[iJ f.bb,.func f.fn #[] f.cap,qF f.Ao] 205))))=w5 at hp⊢;obtain⟨E,st5,K5,hri,B0,hbb,hb7⟩:=hp;obtain⟨j,hj,hcf,Cs⟩:=sJ (Hfo.cl.sub (E:=E++F) (λ_ h=>Jc _ h));obtain⟨b7,Ak4⟩:∃b,b=w3.heap.size:=⟨_,rfl⟩;rw[<-Ak4] at hb7⊢;have c0:w5.cell? ⟨b7,0,Z⟩=U (iJ f.bb):=hb7.cell 0;have c1:w5.cell? ⟨b7,1,Z⟩=U (.func (.func j) #[] f.cap):=by rw[<-hj];exact hb7.cell 1
   have c2:w5.cell? ⟨f.bb,0,Z⟩=U (qD f.s.p (J f.us) f.s.c):=hbb.cell 0;have ST5:=D st5;have HK5:=D K5;have HRI:=D hri;have HFI:=D B0;have oa:=D Cs;have HCF:=D hcf;clear st5 K5 hri B0 hbb hb7 Cs hj Ak4 hcf;go_upto_region 27 with fail
   refine AG [7] 8 (λW=>W.cell? ⟨b7,0,Z⟩=U (iJ f.bb)/\W.cell? ⟨b7,1,Z⟩=U (.func (.func j) #[] f.cap)/\W.cell? ⟨f.bb,0,Z⟩=U (qD f.s.p (J f.us) f.s.c)) ⟨c0,c1,c2⟩ ?_;refine Ox ?_;refine AJ rfl (λK hK=>?_);have hcf:=HCF.out;go_simp;clear hcf;have m5:Aw [] w5 w5.drew:=(Aw.refl _ _).drew;refine(oa o.body f.s.p (J f.us) f.s.c w5.drew (λq p hq=>(HK5.quiet m5).heap q p hq)).mono ?_;intro e w6 he;obtain⟨T,nb,o2,rfl,hm6,Px,bX,Ay⟩:=he;have m6:=m5.Aj hm6;refine hK _ w6 (λ_=>⟨AH m6 c0,AH m6 c1,AH m6 c2⟩) ?_;clear hK;have uB:=ST5.Ak.quiet m6;have hk6:AY w6 _ ((nb,o2)::(E++F)):=⟨λq p hq=>by
     rcases Jl.1 hq with h|h
     · cases h;exact Px
     · exact(HK5.quiet m6).heap q p h,λq p hq hl=>by
     rcases Jl.1 hq with h|h
     · cases h;exact Jk (ST5.Ak.lt _ hl) (Nat.not_lt.2 bX)
     · exact HK5.out.out q p h hl⟩
   have AkR:=HFI.sub (E:=(nb,o2)::(E++F)) (λ_ h=>Id _ h);have Akk:=Ay ((nb,o2)::(E++F)) f.us (Je ..) (HRI.sub λ_ h=>Id _ h) (Hfo.st.sub λ_ h=>Id _ (Jc _ h));refine AJ rfl (λK hK=>?_);go_simp;refine(RB o.done T (iJ nb) w6 {g with fr:=fs} {x with Ad:=os} NO Ae _ uB AkR Akk ⟨HB.cs,λf hf=>HB.us f (by rw[Hfr.out];exact IR _ hf),by have:=HB.fr;have:=Hnl.out;have:=Hn.out;show J fs<=100;omega⟩).mono ?_;intro e w7 he;obtain⟨rfl,g',hxb,st7,hf7⟩:=he;refine hK _ w7 (λh=>Jk rfl h) ?_;clear hK;simp only[BO];have Ay:=FZ.out;rw[Gb Hx.out (wv:=NO)] at Ay;have t9:=Ay.trans (ST5.trans ((Af.quiet ST5.Ak m6).trans st7));have k9:=hk6.step st7;have T9:=D t9;have K9:=D k9;have F9:=D hf7;have HXB:=D hxb;clear t9 k9 hf7 hxb st7 Akk AkR hk6 uB Ay bX Px hm6 m6 m5 c0 c1 c2;go_wp2
   go_end0
   rw[hr.out];refine⟨rfl,g',_,NO,HXB,λ_ h=>Id _ (Jc _ h),?_,.of ⟨T9.Ak,K9,F9⟩⟩;rw[Gb F9.out.ne];exact T9.out
theorem ae {w:ByteArray} (h0:¬bs w=AQ) (h1:¬bs w=AE) (h2:¬bs w=EM):x.row (w::r)=x.Bf w r:=by
 show(if _ then _ else _)=_;rw[In h0,In h1,In h2]
theorem Aes {w:ByteArray} (h:x.Bf w r=.ok y):x.Aa≠[]:=by
 intro hx;cases hr:IP w r with
 |none=>rw[Cb hr] at h;cases h
 |some s=>rw[FE hr,EC hx] at h;cases h
theorem AgB {y:Nat} (hy:y∈[g.xb]):y∈PM g x wv Ae:=by
 unfold PM;split
 .exact hy
 .rw[GE] at hy;rw[hy];exact mbS
theorem PA.re {wv':Value} {line':Int} (h0:PA F g x wv Ae w0) (h1:km w g.xb (g.wV x) wv' line') (hm:Aw [g.xb] w0 w):
  PA F g x wv' line' w/\Af w0 (g.UC x wv Ae) w (g.UC x wv' line'):=by
 have st:Af w0 (g.UC x wv Ae) w (g.UC x wv' line'):=by
  have ho:=h0.Ak;by_cases hx:x.Aa=[]
  .unfold FG.wV at h1;rw[Jd hx] at h1;rw[GW hx] at ho;rw[GW hx,GW hx];exact mbp
  .unfold FG.wV at h1;rw[In hx] at h1;rw[Gb hx] at ho;rw[Gb hx,Gb hx];exact mbp
 exact⟨⟨st.Ak,h0.AK.step st,h0.DU,h0.lK⟩,st⟩
theorem ad (nm:ByteArray) (ws:Ws) (mb:Nat) (w:World) (g:FG) (x:qL) (wv:Value) (Ae:Int) (F:List (Nat×Obj)) (h:PA F g x wv Ae w) (hs:Sl w (λb=>b≠g.xb) wv (Bp (nm::ws))) (hz:∀a,a∈ws->a.size<=1000000) (hg:Gl mb w) (bp:g.xb∉eI mb) (hb:oC g) (Ay:0<=x.Ai/\x.Ai<=1000) (hk:¬bs nm=AQ) (GZ:¬bs nm=AE) (MU:¬bs nm=EM):
  Calls prog 74 #[iJ g.xb] w (fH (x.row (nm::ws)) F g x wv Ae w):=by
 have R00:=D (Rd.start h.pst.px hs);have H:=D h;have q0:=Bz (x:=nm) (k:=AQ) hk;unfold AQ at q0;have q1:=Bz (x:=nm) (k:=AE) GZ;unfold AE at q1;have q2:=Bz (x:=nm) (k:=EM) MU;unfold EM at q2;have Hro:=D (ae (x:=x) (r:=ws) hk GZ MU);have Hz:=D hz;have Hg:=D hg;have HX:=D bp;have HB:=D hb;have HT:=D Ay;obtain⟨wv0,p0,s0⟩:=R00.px;have Hn:=D (Kp (nm::ws) _ g.xb _ wv0 Ae _ p0 s0 (λh=>h.1 rfl));clear h hs hk p0 s0;clear hz hg bp hb Ay GZ MU;go_enter func74,ntmps74;go_wp2_with fail;refine Hn.mono ?_;intro e w1 he;obtain⟨rfl,R1⟩:=R00.Eb (v:= qE nm) (l':=ws) he;have R:=D R1;clear Hn he R1 R00;obtain⟨OH,p1,s1⟩:=R.px;obtain⟨hP,st1⟩:=H.re p1 R.mod;have Hs:=D (Z8 nm ws mb w1 g x OH Ae F _ hP.pst (s1.mono λb _ hb=>hb.1) Hz (Hg.mod R.mod (λb hb hm=>by rw[GE] at hm;rw[hm] at hb;exact HX.out hb)) HX HB HT);have FZ:=D st1;have hpm:PM g x OH Ae=PM g x wv Ae:=rfl;have HPM:=D hpm;have NQ:=D R.mod;clear p1 s1 hP st1 hpm;go_wp2_with fail;refine Hs.mono ?_;intro e w2 he;cases hr:x.Bf nm ws with
 |error c=>
  rw[hr] at he;obtain⟨⟨fb,rfl,hb⟩,hm⟩:=he;have Hr:=D (Hro.trans hr);clear hr;go_wp2;rw[Hr.out];refine⟨rfl,⟨fb,rfl,hb⟩,?_⟩;exact(NQ.mono (λy hy=> .inl (AgB hy))).trans (HPM.out▸hm) (λy hy=> .inl hy)
 |ok y=>
  rw[hr] at he;have hne:=Aes hr;have BG:=AfM hne he;obtain⟨rfl,_⟩:=he;obtain⟨_,g',F',wv',h1,h2,h3,h4⟩:=BG;have Hr:=D (Hro.trans hr);have H1:=D h1;have H2:=D h2;have H3:=D (FZ.trans h3);have H4:=D h4;clear hr hne h1 h2 h3 h4;go_wp2
  go_end0
  rw[Hr.out];exact⟨rfl,g',F',wv',H1,H2,H3,H4⟩
theorem Ada (l:Ws) (hl:l≠[]) (mb:Nat) (w:World) (g:FG) (x:qL) (wv:Value) (Ae:Int) (F:List (Nat×Obj)) (h:PA F g x wv Ae w) (hs:Sl w (λb=>b≠g.xb) wv (Bp l)) (hz:∀a,a∈l->a.size<=1000000) (hg:Gl mb w) (bp:g.xb∉eI mb) (hb:oC g) (Ay:0<=x.Ai/\x.Ai<=1000) (Cs:0<=x.cells/\x.cells<=100000) (Rm:J x.Aa<=3000) (Ake:J g.tv<=3000):
  Calls prog 74 #[iJ g.xb] w (fH (x.row l) F g x wv Ae w):=by
 cases l with
 |nil=>exact Jk rfl hl
 |cons nm ws=>
  have hz':=λa ha=>hz a (Id _ ha)
  by_cases h0:bs nm=AQ
  .exact Z9 nm ws mb w g x wv Ae F h hs hz' hg bp Cs Ake h0
  by_cases h1:bs nm=AE
  .exact XT nm ws mb w g x wv Ae F h hs hb.fr Rm h1
  by_cases h2:bs nm=EM
  .exact gZ nm ws mb w g x wv Ae F h hs hb h2
  exact ad nm ws mb w g x wv Ae F h hs hz' hg bp hb Ay h0 h1 h2
def SJ:Nat->Int
 |0=>1
 |n+1=>4*SJ n
theorem Sd {d:Nat} (h:d<=3):SJ d<=64/\1<=SJ d:=by
 have:d=0\/d=1\/d=2\/d=3:=Y
 rcases this with rfl|rfl|rfl|rfl<;>decide
theorem RJ (t:Bj):∀(d:Nat) (i:Bool) (n b o:Int),WF c t d i->d<=3->0<=n->n<=SJ d->As t n=U (b,o)->(0<=b/\b<=64*Fx t)/\(0<=o/\o<=64*Fx t):=by
 induction t with
 |nil=>intro d i n b o _ _ _ _ h;simp only[As,Option.some.injEq,Prod.mk.injEq] at h;obtain⟨rfl,rfl⟩:=h;simp[Fx]
 |set v op x y r ih=>intro d i n b o hw hd h0 h1 h;have:=ih d i n b o hw.2.2.2.2 hd h0 h1 h;simp only[Fx];omega
 |get v f s a r ih=>intro d i n b o hw hd h0 h1 h;have:=ih d i n b o hw.2.2.2.2 hd h0 h1 h;simp only[Fx];omega
 |put f s a x r ih=>intro d i n b o hw hd h0 h1 h;have:=ih d i n b o hw.2.2.2.2 hd h0 h1 h;simp only[Fx];omega
 |out a r ih=>
  intro d i n b o hw hd h0 h1 h;have hp:=Sd hd;simp only[As] at h;cases hr:As r n with
  |none=>rw[hr] at h;cases h
  |some q=>obtain⟨b2,o2⟩:=q;rw[hr] at h;simp only[Option.some.injEq,Prod.mk.injEq] at h;obtain⟨rfl,rfl⟩:=h;have:=ih d i n b2 o2 hw.2 hd h0 h1 hr;simp only[Fx];omega
 |atomic bd r ib ih=>
  intro d i n b o hw hd h0 h1 h;have hp:=Sd hd;simp only[As] at h;cases hb:As bd 1 with
  |none=>rw[hb] at h;cases h
  |some q=>
   obtain⟨b1,o1⟩:=q;rw[hb] at h;simp only at h;by_cases h8:8<o1
   .rw[Jd h8] at h;cases h
   .rw[In h8] at h;cases hr:As r n with
    |none=>rw[hr] at h;cases h
    |some q=>obtain⟨b2,o2⟩:=q;rw[hr] at h;simp only[Option.some.injEq,Prod.mk.injEq] at h;obtain⟨rfl,rfl⟩:=h;have:=ih d i n b2 o2 hw.2.2.2 hd h0 h1 hr;simp only[Fx];omega
 |Ew a bd r ib ih=>
  intro d i n b o hw hd h0 h1 h;simp only[As] at h;have eD:=hw.2.1;have hp:n<=SJ (d+1):=by have:=Sd hd;show n<=4*SJ d;omega
  cases hb:As bd n with
  |none=>rw[hb] at h;cases h
  |some q=>
   obtain⟨b1,o1⟩:=q;rw[hb] at h;simp only at h;cases hr:As r n with
   |none=>rw[hr] at h;cases h
   |some q=>
    obtain⟨b2,o2⟩:=q;rw[hr] at h;simp only[Option.some.injEq,Prod.mk.injEq] at h;obtain⟨rfl,rfl⟩:=h;have k1:=ib (d+1) i n b1 o1 hw.2.2.1 Y h0 hp hb;have:=ih d i n b2 o2 hw.2.2.2 hd h0 h1 hr;simp only[Fx];omega
 |loop k bd r ib ih=>
  intro d i n b o hw hd h0 h1 h;simp only[As] at h;have eD:=hw.2.1;obtain⟨Uf,hk4⟩:=hw.1;have ZY:0<=n*k:=jU h0 Y;have hp:n*k<=SJ (d+1):=by
   show n*k<=4*SJ d
   calc n*k<=n*4:=Q0 hk4 h0
    _<=4*SJ d:=Y
  cases hb:As bd (n*k) with
  |none=>rw[hb] at h;cases h
  |some q=>
   obtain⟨b1,o1⟩:=q;rw[hb] at h;simp only at h;cases hr:As r n with
   |none=>rw[hr] at h;cases h
   |some q=>
    obtain⟨b2,o2⟩:=q;rw[hr] at h;simp only[Option.some.injEq,Prod.mk.injEq] at h;obtain⟨rfl,rfl⟩:=h;have k1:=ib (d+1) i (n*k) b1 o1 hw.2.2.1 Y ZY hp hb;have:=ih d i n b2 o2 hw.2.2.2 hd h0 h1 hr;simp only[Fx];omega
def RO (b o:Int):Option (Int×Int)->Option (Int×Int)
 |none=>Z
 |some (x,y)=>U (b+x,o+y)
def AnN (r:Option (Int×Int)) (w:World) (e:Ending) (w':World):Prop:=match r with
 |none=>Kf [] 5 0 w e w'
 |some (b,o)=>e= qJ (qG #[iI b,iI o])/\Aw [] w w'
theorem AdZ (b o:Int):RO b o (U (0,0))=U (b,o):=by simp[RO]
theorem zP (c:Option (Int×Int)):RO 0 0 c=c:=by
 cases c with
 |none=>rfl
 |some p=>obtain⟨x,y⟩:=p;simp[RO]
theorem AdE (a:At) (r:Bj) (n b o:Int):RO b o (As (.out a r) n)=RO b (o+n) (As r n):=by
 simp only[As];exact maV
theorem Af5 {a:At} {bd r:Bj} {n b:Int} (h:As bd n=U (b1,o1)):RO b o (As (.Ew a bd r) n)=RO (b+b1) (o+o1) (As r n):=by
 simp only[As,h];exact maV
theorem AdF {k:Int} {bd r:Bj} {n b:Int} (h:As bd (n*k)=U (b1,o1)):RO b o (As (.loop k bd r) n)=RO (b+b1) (o+o1) (As r n):=by
 simp only[As,h];exact maV
theorem sH {bd r:Bj} {n b:Int} (h:As bd 1=U (b1,o1)) (h8:¬8<o1):RO b o (As (.atomic bd r) n)=RO (b+n) o (As r n):=by
 simp only[As,h,In h8];exact maV
theorem Ajm {a:Int} (h0:0<=a) (h1:a<=1000000):True->wrap64 a=a:=λ_=>IntWalk.wrap64_in _ Y
theorem sg (F:List (Nat×Obj)) (cl:Int) (N:Nat) (hn9:N<=1000):∀(t:Bj) (sl:Value) (vs:List Value) (n:Int) (d:Nat) (BY:Bool) (w:World),AY w [] F->Fx t<=N->Et F sl vs->D8 F t vs->WF cl t d BY->d<=3->0<=n->n<=SJ d->
  Calls prog 102 #[sl,iI n] w (AnN (As t n) w):=by
 induction N using Nat.strongRecOn with
 |_ N ih=>
 intro t sl vs n d BY w hK hn hr hs hw hd IL Ud;have hlen:J vs<=1000:=by have:=hs.len;omega
 have hp:=(Sd hd).1;have Aoe:n<=64:=Y
 obtain⟨p,c,rfl⟩:=hr.Mq;have Hr:=D hr;have Hs:=D hs;have HK:=D hK;have IH:=D ih;have HW:=D hw;have Hn1:=D Ud;clear hr hs hK ih hw Ud hp;go_enter func102,ntmps102;go_wp2;go_loopw [4,5,18] (λb o i wr=>∃(k:Nat) (t':Bj) (b0 o0:Int),i= iI k/\b= iI b0/\o= iI o0/\k<=J vs/\D8 F t' (vs.drop k)/\WF cl t' d BY/\As t n=RO b0 o0 (As t' n)/\Fx t'<=N/\0<=b0/\b0+64*Fx t'<=64*Fx t/\0<=o0/\o0+64*Fx t'<=64*Fx t/\Aw [] w wr) (λ_ _ i _=>J vs-(intOf i).toNat);case atStart=>exact⟨0,t,0,0,rfl,rfl,rfl,Jo _,Hs,HW,(zP _).symm,hn,Y,Y,Y,Y,Aw.refl _ _⟩
 case round=>
  obtain⟨k,t',b0,o0,rfl,rfl,rfl,hk,Ay,hw,hpt,Ib,Fu,Ix,ho0,Vy,hm⟩:=hrel;have aT:=D hpt;have HM:=D hm;have Aig:=hn;clear hpt hm;cases eE:vs.drop k with
  |nil=>
   rw[eE] at Ay;have Lo:¬k<(J vs:Int):=by have:=RK.1 eE;omega
   have ht:As t' n=U (0,0):=by
    exact man
   have Ht:=D (aT.trans (by rw[ht,AdZ]));clear ht Ay eE;go_wp2;go_ret2;rw[Ht.out];exact⟨rfl,HM⟩
  |cons v us=>
   have K:=HK.quiet HM.out;obtain⟨_,VX,b,hp,KT⟩:=Hr.AN K eE;subst hp;have Lo:k<(J vs:Int):=Y
   have Uf:0<=(k:Int):=Y
   have bY:us=vs.drop (k+1):=by rw[<-i7,eE];rfl
   rw[eE] at Ay;have vD:=D bY;clear eE bY;cases t' with
   |nil=>cases Ay
   |set v0 op a b1 r=>
    obtain⟨q,us',h1,h2,h3⟩:=Ay;cases h1;have ta0:=oT;have ta1:=cQ;have ta2:=W7;have ta3:=bB;have H3:=D h3;have Hw:=D hw.2.2.2.2;simp only[Fx] at Ib Ix Vy;clear h3 h2 hw K;go_wp2_with fail;go_roundw;case rel=>exact⟨k+1,r,b0,o0,by (try rw[inc trivial]);rfl,rfl,rfl,Y,vD.out▸H3.out,Hw,by rw[aT.out];exact rfl,Y,Y,Y,Y,Y,HM⟩
    case measure=>(try rw[inc trivial]);simp[intOf];omega
   |get v0 f s a r=>
    obtain⟨q,us',h1,h2,h3⟩:=Ay;cases h1;have ta0:=o4;have ta1:=cT;have ta2:=Xa;have ta3:=bD;have H3:=D h3;have Hw:=D hw.2.2.2.2;simp only[Fx] at Ib Ix Vy;clear h3 h2 hw K;go_wp2_with fail;go_roundw;case rel=>exact⟨k+1,r,b0,o0,by (try rw[inc trivial]);rfl,rfl,rfl,Y,vD.out▸H3.out,Hw,by rw[aT.out];exact rfl,Y,Y,Y,Y,Y,HM⟩
    case measure=>(try rw[inc trivial]);simp[intOf];omega
   |put f s i a r=>
    obtain⟨q,us',h1,h2,h3⟩:=Ay;cases h1;have ta0:=oW;have ta1:=wh;have ta2:=kI;have ta3:=bC;have H3:=D h3;have Hw:=D hw.2.2.2.2;simp only[Fx] at Ib Ix Vy;clear h3 h2 hw K;go_wp2_with fail;go_roundw;case rel=>exact⟨k+1,r,b0,o0,by (try rw[inc trivial]);rfl,rfl,rfl,Y,vD.out▸H3.out,Hw,by rw[aT.out];exact rfl,Y,Y,Y,Y,Y,HM⟩
    case measure=>(try rw[inc trivial]);simp[intOf];omega
   |out a r=>
    obtain⟨q,us',h1,h2,h3⟩:=Ay;cases h1;have ta0:=TC;have H3:=D h3;have Hw:=D hw.2;simp only[Fx] at Ib Ix Vy;clear h3 h2 hw K;go_wp2_with fail;go_roundw;case rel=>exact⟨k+1,r,b0,(o0+n),by (try rw[inc trivial]);rfl,rfl,rfl,Y,vD.out▸H3.out,Hw,by rw[aT.out];exact AdE ..,Y,Y,Y,Y,Y,HM⟩
    case measure=>(try rw[inc trivial]);simp[intOf];omega
   |Ew a bd r=>
    obtain⟨q,us',sl',ws,h1,h2,h3,h4,h5⟩:=Ay;cases h1;have ta0:=cS;have ta1:=YP;have H3:=D h3;have H4:=D h4;have H5:=D h5;have kq:=K.cell h2;have Hw:=D hw.2.2.2;simp only[Fx] at Ib Ix Vy Aig;have eD:=hw.2.1;have Yq:n<=SJ (d+1):=by have:=Hn1.out;have:=(Sd hd).2;show n<=4*SJ d;omega
    have SM:=IL;obtain⟨p',c',rfl⟩:=H3.Mq;have Hc:=D (λW hW=>IH.out (Fx bd) Y Y bd _ ws n (d+1) BY W (HK.quiet hW) (Jf _) H3 H4 hw.2.2.1 Y SM Yq);have Hbd:=D (λ(b1 o1)=>RJ bd (d+1) BY n b1 o1 hw.2.2.1 Y SM Yq);clear h3 h4 h5 h2 hw K Yq SM;go_wp2_with fail;refine(Hc _ HM).mono ?_;intro e w1 he;clear kq;cases LA:As bd n with
    |none=>
     exact maZ
    |some q9=>
     obtain⟨b1,o1⟩:=q9;rw[LA] at he;obtain⟨rfl,Dk⟩:=he;obtain⟨⟨g1,g2⟩,g3,g4⟩:=Hbd.out b1 o1 LA;have zZ:=D LA;have NQ:=D (HM.Aj Dk);clear LA Dk;go_wp2_with fail;go_roundw;case rel=>exact⟨k+1,r,(b0+b1),(o0+o1),by (try rw[inc trivial]);rfl,rfl,rfl,Y,vD.out▸H5.out,Hw,by rw[aT.out];exact Af5 zZ,Y,Y,Y,Y,Y,NQ⟩
     case measure=>(try rw[inc trivial]);simp[intOf];omega
   |loop m bd r=>
    obtain⟨q,us',sl',ws,h1,h2,h3,h4,h5⟩:=Ay;cases h1;have ta0:=W9;have ta1:=TD;have ta2:=OL;have H3:=D h3;have H4:=D h4;have H5:=D h5;have kq:=K.cell h2;have Hw:=D hw.2.2.2;simp only[Fx] at Ib Ix Vy Aig;have eD:=hw.2.1;obtain⟨Dk,XM⟩:=hw.1;have SM:0<=n*m:=jU IL Y;have bV:=Q0 XM IL;have Yq:n*m<=SJ (d+1):=by have:=Hn1.out;show n*m<=4*SJ d;omega
    have hwm:True->IntKind.i64.wrap (n*m)=n*m:=λ_=>IntWalk.i64_in _ Y
    obtain⟨p',c',rfl⟩:=H3.Mq;have Hc:=D (λW hW=>IH.out (Fx bd) Y Y bd _ ws (n*m) (d+1) BY W (HK.quiet hW) (Jf _) H3 H4 hw.2.2.1 Y SM Yq);have Hbd:=D (λ(b1 o1)=>RJ bd (d+1) BY (n*m) b1 o1 hw.2.2.1 Y SM Yq);clear h3 h4 h5 h2 hw K Yq SM bV Dk XM;have H2:=D kq;go_upto_region 14 with fail
    refine AG [10] 15 (λW=>W.cell? ⟨q,0,Z⟩=U (iI m)/\W.cell? ⟨q,1,Z⟩=U (qD p' (J ws) c')) ⟨kq 0,kq 1⟩ ?_;refine Dr ?_;intro K hK;refine(Hc _ HM.drew).mono ?_;intro e w1 he;cases LA:As bd (n*m) with
    |none=>
     rw[LA] at he;obtain⟨⟨fb,rfl,hb⟩,Dk⟩:=he;have iW:=D (show As t n=Z by rw[aT.out];simp only[As];rw[LA];rfl);clear LA hK;go_wp2;rw[iW.out];exact⟨rfl,⟨fb,rfl,hb⟩,HM.drew.Aj Dk⟩
    |some q9=>
     obtain⟨b1,o1⟩:=q9;rw[LA] at he;obtain⟨rfl,Dk⟩:=he;obtain⟨⟨g1,g2⟩,g3,g4⟩:=Hbd.out b1 o1 LA;have zZ:=D LA;have NQ:=D (HM.drew.Aj Dk);have Fa:=((Aw.refl [] wr).drew).Aj Dk;refine hK _ w1 (λ_=>⟨AH Fa (H2 0),AH Fa (H2 1)⟩) ?_;clear hK;refine Dr ?_;intro K hK;refine hK _ _ (λh=>Jk rfl h) ?_;clear hK LA Dk Fa kq hwm;simp only[BO];have Fi:=Ajm (a:=b0+b1) Y Y;go_wp2_with fail;go_roundw;case rel=>exact⟨k+1,r,(b0+b1),(o0+o1),by (try rw[inc trivial]);rfl,rfl,rfl,Y,vD.out▸H5.out,Hw,by rw[aT.out];exact AdF zZ,Y,Y,Y,Y,Y,NQ⟩
     case measure=>(try rw[inc trivial]);simp[intOf];omega
   |atomic bd r=>
    obtain⟨q,us',sl',ws,h1,h2,h3,h4,h5⟩:=Ay;cases h1;have ta0:=Tc;have ta1:=OM;have ta2:=L6;have ta3:=NX;have H3:=D h3;have H4:=D h4;have H5:=D h5;have kq:=K.cell h2;have Hw:=D hw.2.2.2;simp only[Fx] at Ib Ix Vy Aig;have eD:=hw.2.1;have Yq:1<=SJ (d+1):=by have:=(Sd hd).2;show(1:Int)<=4*SJ d;omega
    have SM:(0:Int)<=1:=Do
    obtain⟨p',c',rfl⟩:=H3.Mq;have Hc:=D (λW hW=>IH.out (Fx bd) Y Y bd _ ws 1 (d+1) V W (HK.quiet hW) (Jf _) H3 H4 hw.2.2.1 Y SM Yq);have Hbd:=D (λ(b1 o1)=>RJ bd (d+1) V 1 b1 o1 hw.2.2.1 Y SM Yq);clear h3 h4 h5 h2 hw K Yq SM;go_wp2_with fail;refine(Hc _ HM).mono ?_;intro e w1 he;clear kq;cases LA:As bd 1 with
    |none=>
     exact maZ
    |some q9=>
     obtain⟨b1,o1⟩:=q9;rw[LA] at he;obtain⟨rfl,Dk⟩:=he;obtain⟨⟨g1,g2⟩,g3,g4⟩:=Hbd.out b1 o1 LA;have zZ:=D LA;have NQ:=D (HM.Aj Dk);clear LA Dk;by_cases h8:8<o1
     .have iW:=D (show As t n=Z by rw[aT.out];simp only[As];rw[zZ.out];simp only[];rw[Jd h8];rfl);exact mbi
     .go_wp2_with fail;go_roundw;case rel=>exact⟨k+1,r,(b0+n),o0,by (try rw[inc trivial]);rfl,rfl,rfl,Y,vD.out▸H5.out,Hw,by rw[aT.out];exact sH zZ Y,Y,Y,Y,Y,Y,NQ⟩
      case measure=>(try rw[inc trivial]);simp[intOf];omega
def Kj (t:Bj):Bool:=match As t 1 with|none=>V|some (b,_)=>decide (3<b)
theorem rA (x:qL):Ei x=(decide (x.cells<=6) && (decide (J x.Aa<=3) && !(x.Aa.any Kj))):=by
 unfold Ei;congr 2;rw[List.not_any_eq_all_not];congr 1;funext t;unfold Kj;cases As t 1 with
 |none=>rfl
 |some p=>
  obtain⟨b,o⟩:=p;by_cases h:b<=3
  .have h2:¬3<b:=Y
   simp[h,h2]
  .have h2:3<b:=Y
   simp[h,h2]
def AlF (ok:Bool) (w:World) (e:Ending) (w':World):Prop:=if ok=V then e= qJ (qG #[])/\Aw [] w w' else Kf [] 5 0 w e w'
theorem AaE (hk:k<J ts) (h:((ts.take k).any Kj)=I) (h2:Kj (ts.getD k .nil)=I):((ts.take (k+1)).any Kj)=I:=by
 rw[JN hk,m9,h];rw[Ja,Jb hk] at h2;simp only[Qq] at h2;simp[h2]
theorem AdU (hk:k<J ts) (h2:Kj (ts.getD k .nil)=V):(ts.any Kj)=V:=by
 rw[Ja,Jb hk] at h2;exact Qp.2 ⟨_,JO hk,h2⟩
theorem mY (F:List (Nat×Obj)) (x:qL) (w:World) (L:List Ob) (pb:Nat) (tp:Option Addr) (tc:Nat) (rows:List Value) (h:Aq w L) (h1:L[1]?=U (.Ao pb #[qD tp (J rows) tc,iI x.cells] 146)) (h3:L[3]?=U (.row (qD tp (J rows) tc) 165 1 (J rows) rows)) (hK:AY w L F) (ht:HY F x.Aa rows) (hw:FW x) (Ib:∀t,t∈x.Aa->Fx t<=1000):
  Calls prog 76 #[iJ pb] w (AlF (Ei x) w):=by
 have hb:=h.Ao h1;have Tm:=hb.cell;have hpl:=hb.lt;have hlen:=ht.len;have H3:=D (h.row h3);have HT:=D ht;have HW:=D hw;have HZ:=D Ib;have HL:=D hlen;have HKe:=D (hK.sub (λ_ hx=>hx));have HK0:Hid (AY w [] F):=D ⟨hK.heap,λb o _ hl=>by simp[Er] at hl⟩;have Em:=rA x;have Ad9:=D Em;clear h hb h1 h3 hK ht hw Ib Em hlen;by_cases c6:6<x.cells
 .have hr:=D (show Ei x=I by
     rw[Ad9.out];have:¬x.cells<=6:=Y
     simp[this])
  go_enter func76,ntmps76;go_wp2_with fail;refine(AO _ _ _).mono ?_;rintro e w5 ⟨⟨fb,rfl,hb⟩,hm⟩;go_wp2;rw[hr.out];exact ma3
 by_cases c3:3<(J rows:Int)
 .have hr:=D (show Ei x=I by
     rw[Ad9.out];have:¬J x.Aa<=3:=by rw[<-HL.out];omega
     simp[this])
  go_enter func76,ntmps76;go_wp2_with fail;refine(AO _ _ _).mono ?_;rintro e w5 ⟨⟨fb,rfl,hb⟩,hm⟩;go_wp2;rw[hr.out];exact ma3
 have Hr:=D (show Ei x= !(x.Aa.any Kj) by
   rw[Ad9.out];have e1:x.cells<=6:=Y
   have e2:J x.Aa<=3:=by rw[<-HL.out];omega
   simp[e1,e2])
 go_enter func76,ntmps76;go_wp2;go_loopw [25] (λi wr=>∃k:Nat,i= iI k/\k<=J rows/\((x.Aa.take k).any Kj)=I/\Aw [] w wr) (λi _=>J rows-(intOf i).toNat);case atStart=>exact⟨0,rfl,Jo _,rfl,Aw.refl _ _⟩
 case round=>
  clear Tm hpl c6;obtain⟨k,rfl,hk,Da,hm⟩:=hrel;have HM:=D hm;have HA:=D Da;clear hm Da;by_cases Lo:(k:Int)<(J rows:Int)
  .have LS:k<J x.Aa:=by rw[<-HL.out];omega
   obtain⟨sl,ws,us,hd,hri,hsi⟩:=HT.AN k LS;have hv:rows[k]?=U sl:=by
    have:=JM List.head? hd;rwa[List.head?_drop,j9] at this
   have DH:=B9 H3 HM (λg hg=>EQ);obtain⟨tb,tcap,Rm,_,tlt,tcc,tcm,tcel,tfr⟩:=Av DH Y;simp only[Value.slice.injEq] at Rm;obtain⟨rfl,_,rfl⟩:=Rm;have KT:wr.cell? ⟨tb,k,Z⟩=U sl:=Oz tcel hv;have Uf:(0:Int)<=(k:Int):=Y
   have NJ:x.Aa.getD k .nil∈x.Aa:=by
    rw[Ja,Jb LS];exact JO LS
   have inc:True->wrap64 ((k:Int)+1)=k+1:=λ_=>gM k Y
   have Hc:=D (sg F x.cells 1000 (Jf _) (x.Aa.getD k .nil) sl ws 1 0 I wr (HK0.quiet HM) (HZ _ NJ) hri hsi (HW.th _ NJ) Y Do Do);obtain⟨p',c',rfl⟩:=hri.Mq;have Hk':=D LS;clear hd hri hsi hv DH tcel tfr NJ LS tcc tcm;go_wp2_with fail;refine Hc.mono ?_;intro e w1 he;clear KT;cases LA:As (x.Aa.getD k .nil) 1 with
   |none=>
    rw[LA] at he;obtain⟨⟨fb,rfl,hb⟩,Dk⟩:=he;have iW:=D (show Ei x=I by rw[Hr.out,AdU Hk'.out (by unfold Kj;rw[LA])];rfl);clear LA;go_wp2;rw[iW.out];exact⟨rfl,⟨fb,rfl,hb⟩,HM.Aj Dk⟩
   |some q9=>
    obtain⟨b1,o1⟩:=q9;rw[LA] at he;obtain⟨rfl,Dk⟩:=he;have NQ:=D (HM.Aj Dk);have zZ:=D LA;clear LA Dk;by_cases h3:3<b1
    .have iW:=D (show Ei x=I by rw[Hr.out,AdU Hk'.out (by unfold Kj;rw[zZ.out];simpa using h3)];rfl);exact mbi
    .have hb9:Kj (x.Aa.getD k .nil)=I:=by unfold Kj;rw[zZ.out];simpa using h3
     have Hb9:=D (AaE Hk' HA hb9);clear hb9;go_wp2_with fail;go_roundw;case rel=>exact⟨k+1,by (try rw[inc trivial]);rfl,Y,Hb9,NQ⟩
     case measure=>(try rw[inc trivial]);simp[intOf];omega
  .have iW:=D (show Ei x=V by
      rw[Hr.out];have e:x.Aa.take k=x.Aa:=JV (by rw[<-HL.out];omega);have h:=HA.out;rw[e] at h;rw[h];rfl)
   go_wp2
   go_end0
   rw[iW.out];exact⟨rfl,HM⟩
theorem Ai1 {l:List ByteArray} {ok:Nat->Prop} (h:Ch w b (l.map Value.string).toArray T) (hl:J l<=maxLen) (hb:ok b) (n c:Nat) (hn:n=J l) (hc:n<=c/\c<=maxLen):Sl w ok (qD (U ⟨b,0,Z⟩) n c) (Bp l):=by
 have e:(Bp l).length=J l:=by simp[Bp]
 refine⟨by rw[e];exact hl,.inr ⟨b,0,c,by rw[e,hn],by rw[e];omega,hc.2,hb,h.lt,λi hi=>?_⟩⟩;rw[JU,h.cell i];simp only[Bp] at hi⊢;simp[LE,hi]
theorem kz (p:By):(Bu p).length=Lib.count p [32]+1:=by
 unfold Bu;rw[JY];exact GU 32 _ p (Jf _)
theorem wC (mb:Nat) (p:ByteArray) (w:World) (hg:Gl mb w) (hp:p.size<=1000000):
  Calls prog 72 #[qE p,qE ⟨#[32]⟩] w λe w'=>∃v,e= qJ v/\Aw [] w w'/\Sl w' (λb=>w.heap.size<=b) v (Bp (Bu (bs p))):=by
 obtain⟨m,hm⟩:=hg.Cd;refine(strings_Split p ⟨#[32]⟩ m w Y hm Do).mono ?_;rintro e w' ⟨rfl,rfl⟩;have h1:=cZ 32 p 0 (.inl rfl);rw[Jd rfl] at h1;have h2:Lib.countB p ⟨#[32]⟩+1=(Bu (bs p)).length:=(kz (bs p)).symm;have h3:=Lib.count_le (bs p) [32];have h4:Lib.countB p ⟨#[32]⟩<=p.size+1:=by have:=Bt p;show Lib.count (bs p) [32]<=_;omega
 refine⟨_,rfl,(Aw.refl _ _).alloc _,Ai1 (l:=Bu (bs p)) (T:=9) ?_ (by rw[<-h2];unfold maxLen;omega) (Jf _) _ _ h2 ⟨Jf _,by unfold maxLen;omega⟩⟩;rw[h1];exact Ch.new _ _ _
theorem YW (mb:Nat) (s:ByteArray) (w:World) (hg:Gl mb w) (hs:s.size<=1000000):
  Calls prog 70 #[qE s,qE ⟨#[10]⟩] w λe w'=>∃b n,e= qJ (qD (U ⟨b,0,Z⟩) n n)/\n=(AD 10 (bs s)).length/\Aw [] w w'/\w.heap.size<=b/\Ch w' b (Bp ((RD 10 (AD 10 (bs s))).map AR)).toArray 9:=by
 obtain⟨m,hm⟩:=hg.Cd;have h1:=cZ 10 s 1 (.inr rfl);rw[In Do] at h1;have h2:=GU 10 _ (bs s) (Jf _);have h4:Lib.countB s ⟨#[10]⟩<=s.size:=by
  have:=Lib.countB_mul_le ⟨#[10]⟩ Do s.size s (Jf _);have e:(⟨#[10]⟩:ByteArray).size=1:=rfl;rw[e] at this;omega
 have Hc:=D (strings_genSplit s ⟨#[10]⟩ 1 (-1) (Lib.countB s ⟨#[10]⟩+1) m w Y hm Do Do Do Do (by rw[Jd Do];omega));have H1:=D h1;have H2:=D h2;clear h1 h2 h4 hm hg;go_enter func70,ntmps70;go_wp2_with fail;refine Hc.mono ?_;rintro e w1 ⟨rfl,rfl⟩;have h1:=H1.out;have h2:=H2.out;rw[f8,h1];have hl:(List.map AR (RD 10 (AD 10 (bs s)))).length=Lib.countB s ⟨#[10]⟩+1:=by rw[JY,y9,h2]
 rw[hl];have he:Lib.cellsOf (List.map AR (RD 10 (AD 10 (bs s)))) (Lib.countB s ⟨#[10]⟩+1)=(Bp ((RD 10 (AD 10 (bs s))).map AR)).toArray:=by
  unfold Lib.cellsOf Bp;rw[hl];simp
 rw[he];have H3:=D h2;clear h1 h2 hl he;go_wp2;go_ret;exact⟨_,_,rfl,H3.symm,(Aw.refl _ _).alloc _,Jf _,Ch.new _ _ _⟩
theorem Ahl (p:Value) (w:World):(Instr.typeAssert (.iface 123 p) 20 123 V).run prog w=.ok (qG #[p,qF V]) w:=Fd
theorem Aeq (w:World):(Instr.typeAssert .nilIface 20 123 V).run prog w=.ok (qG #[qI Z,qF I]) w:=Fd
theorem XX (pB eB:Nat) (pv v0 v1:Value) (older:List PanicEntry) (w:World) (hc:w.cell? ⟨pB,0,Z⟩=U v0) (hz:w.frozen? ⟨pB,0,Z⟩=I) (hd:w.cell? ⟨eB,0,Z⟩=U v1) (hy:w.frozen? ⟨eB,0,Z⟩=I) (hne:eB≠pB):
  CallsD prog 68 #[iJ pB,iJ eB] (.panicking ({v:=.iface 123 pv,recovered:=I}::older)) w λe u' w'=>
   e= qJ (qG #[])/\u'=.panicking ({v:=.iface 123 pv,recovered:=V}::older)/\w'=(w.setCell ⟨pB,0,Z⟩ (qI Z)).setCell ⟨eB,0,Z⟩ (.iface 123 pv):=by
 have ta:=Ahl pv;refine callsD_of_wpS func68 rfl λc₀ cs hu=>?_
 apply wpS_seq;apply wpS_region;simp[wpOpsS,go_sem,recoverD,hu,ntmps68,Exit.thenS,ta];apply wpS_seq;apply wpS_region;simp[wpOpsS,go_sem,ntmps68,Exit.thenS];refine wpS_cond (t:=V) (by simp[Act.eval,Array.replicate]) ?_;simp only[Qf];apply wpS_region;simp[wpOpsS,go_sem,hc,hz,hd,hy,hne,bodyPostS,results,results68]
theorem sO (pB eB:Nat) (w:World):
  CallsD prog 68 #[iJ pB,iJ eB] .returning w λe u' w'=>e= qJ (qG #[])/\u'=.returning/\w'=w:=by
 have ta:=Aeq;refine callsD_of_wpS func68 rfl λc₀ cs hu=>?_
 apply wpS_seq;apply wpS_region;simp[wpOpsS,go_sem,recoverD,hu,ntmps68,Exit.thenS,ta];apply wpS_seq;apply wpS_region;simp[wpOpsS,go_sem,ntmps68,Exit.thenS];refine wpS_cond (t:=I) (by simp[Act.eval,Array.replicate]) ?_;simp only[Qd,J7];refine wpS_of_wp (wp_skip ?_);cases c₀;simp_all[bodyPostS,results,results68]
theorem Xg {v0 v:Value} (h:Ch w b #[v0] T):Ch (w.setCell ⟨b,0,Z⟩ v) b #[v] T:=h.set 0 v
theorem sy {T:Array Value} (h2:T[2]?=U (iJ pB)) (h3:T[3]?=U (iJ eB))
  (hp:Ch w5 pB #[qI Z] tp) (he:Ch w5 eB #[.nilIface] te) (hne:eB≠pB) (UF:te=85) (htp:tp=117)
  (h:Post (qJ (qG #[qI Z,.iface 123 pv])) ((w5.setCell ⟨pB,0,Z⟩ (qI Z)).setCell ⟨eB,0,Z⟩ (.iface 123 pv))):
  bodyPostD prog f50 Post (Exit.panic [{v:=.iface 123 pv,recovered:=I}]) {tmps:=T,defers:=[{target:=Target.fn (Fn.func 68) #[iJ pB,iJ eB],args:= #[]}]} w5:=by
 subst UF;subst htp;have c1:=hp.cell 0;have c2:=he.cell 0;have B1:Ch ((w5.setCell ⟨pB,0,Z⟩ (qI Z)).setCell ⟨eB,0,Z⟩ (.iface 123 pv)) pB #[qI Z] 117:=(Xg hp).F8 (λe=>hne e.symm) _;have B2:Ch ((w5.setCell ⟨pB,0,Z⟩ (qI Z)).setCell ⟨eB,0,Z⟩ (.iface 123 pv)) eB #[.iface 123 pv] 85:=Xg (he.F8 hne _);have d1:=B1.cell 0;have d2:=B2.cell 0;refine leaves_cons (f:=68) (args:= #[iJ pB,iJ eB]) EQ (by simp[go_sem]) ?_;refine(XX pB eB pv _ _ [] w5 c1 (hp.free 0) c2 (he.free 0) hne).mono ?_;rintro e u' w'' ⟨rfl,rfl,rfl⟩;generalize (w5.setCell ⟨pB,0,Z⟩ (qI Z)).setCell ⟨eB,0,Z⟩ (.iface 123 pv)=w6 at*;simp[Leaves,settle,results,results50,go_sem,h2,h3,d1,d2];exact h
theorem AfW {T:Array Value} (h2:T[2]?=U (iJ pB)) (h3:T[3]?=U (iJ eB))
  (hp:Ch w5 pB #[pv] tp) (he:Ch w5 eB #[.nilIface] te) (UF:te=85) (htp:tp=117)
  (h:Post (qJ (qG #[pv,.nilIface])) w5):
  bodyPostD prog f50 Post Exit.ret {tmps:=T,defers:=[{target:=Target.fn (Fn.func 68) #[iJ pB,iJ eB],args:= #[]}]} w5:=by
 subst UF;subst htp;have c1:=hp.cell 0;have c2:=he.cell 0;refine leaves_cons (f:=68) (args:= #[iJ pB,iJ eB]) EQ (by simp[go_sem]) ?_;refine(sO pB eB w5).mono ?_;rintro e u' w'' ⟨rfl,rfl,rfl⟩;simp[Leaves,settle,results,results50,go_sem,h2,h3,c1,c2];exact h
def sZ (res:Except (Int×Nat) qL) (w:World) (e:Ending) (w':World):Prop:=match res with
 |.error c=>∃fb,e= qJ (qG #[qI Z,.iface 123 (iJ fb)])/\Ch w' fb #[iI c.1,iI c.2] 127/\Aw [] w w'
 |.ok y=>∃F pb tp tc rows,e= qJ (qG #[iJ pb,.nilIface])/\Aw [] w w'/\AY w' [] F/\(pb,qK #[qD tp (J y.Aa) tc,iI y.cells] 146 (0,0))∈F/\Et F (qD tp (J y.Aa) tc) rows/\HY F y.Aa rows
def lD (w0:World) (rb:Nat) (rows:Array Value):List (Nat×Obj):=
 [(w0.heap.size,qK #[qI Z] 117 (0,0)),(w0.heap.size+1,qK #[.nilIface] 85 (0,0)),(rb,qK rows 9 (0,0))]
structure PIx (w0:World) (mb rb:Nat) (rows:Array Value) (s:By) (k:Nat) (g:FG) (F:List (Nat×Obj)) (wv:Value) (Ae:Int) (x:qL) (wr:World):Prop where
 pa:PA F g x wv Ae wr
 AK:AY wr (g.UC x wv Ae) (lD w0 rb rows)
 gl:GlK mb wr (g.UC x wv Ae)
 new:∀b,b∈Er (g.UC x wv Ae)->w0.heap.size<=b
 mod:Aw [] w0 wr
 fw:FW x
 fn:FN x
 cl:x.cells<=6*k
 tl:J x.Aa<=k
 go:Fs s=IS ((AD 10 s).drop k) k x
 bd:oC g
 tv:J g.tv<=3000
def PI (w0:World) (mb rb:Nat) (rows:Array Value) (s:By) (xb:Nat) (k:Nat) (wr:World):Prop:=∃g F wv Ae x,g.xb=xb/\PIx w0 mb rb rows s k g F wv Ae x wr
theorem gv (h:b∈PM g x wv Ae):b∈Er (g.UC x wv Ae):=by
 unfold PM at h;by_cases hx:x.Aa=[]
 .rw[Jd hx] at h;rw[GW hx];rw[GE] at h;rw[h];exact mbS
 .rw[In hx] at h;rw[Gb hx];exact h
theorem fX (t:Bj):(Fx t:Int)=IN t:=by
 induction t<;>simp only[Fx,IN]<;>omega
theorem AaL {o:Fr} (h:o∈os):IN o.body<=MN os:=by
 induction os with
 |nil=>cases h
 |cons f fs ih=>
  have h1:=TE f.body;have h2:=fZ fs;simp only[MN];rcases Jl.1 h with rfl|h
  .omega
  .have:=ih h;omega
theorem AaM (os:List Fr):(J os:Int)<=MN os:=by
 induction os with
 |nil=>simp[MN]
 |cons f fs ih=>have:=TE f.body;simp only[MN,Jg];omega
theorem KX.us (h:KX F fs os):∀f,f∈fs->∃o,o∈os/\J f.us<=Fx o.body:=by
 induction fs generalizing os with
 |nil=>intro f hf;cases hf
 |cons f fs ih=>
  obtain⟨o,r,rfl,h2,h3⟩:=h;intro f' hf;rcases Jl.1 hf with rfl|hf
  .exact⟨o,Je ..,h2.st.len⟩
  .obtain⟨o',h4,h5⟩:=ih h3 f' hf;exact⟨o',Id _ h4,h5⟩
theorem PA.bd (h:PA F g x wv Ae w) (hn:FN x) (ht:J x.Aa<=2500):
  ∃g',g'.xb=g.xb/\PA F g' x wv Ae w/\g'.UC x wv Ae=g.UC x wv Ae/\oC g'/\J g'.tv<=3000:=by
 by_cases hx:x.Aa=[]
 .have e:FG.UC {g with cs:=[],fr:=[],tv:=[]} x wv Ae=g.UC x wv Ae:=by rw[GW hx,GW hx];rfl
  exact⟨{g with cs:=[],fr:=[],tv:=[]},rfl,⟨by rw[e];exact h.Ak,by rw[e];exact h.AK,λhy=>Jk hx hy,h.lK⟩,e,⟨EQ,EQ,EQ⟩,EQ⟩
 .have hf:=h.DU hx;obtain⟨⟨ts,t,h1,h2,h3⟩,h4⟩:=hf;have gO:=hn.tot ts t h1;have hs:=hn.s1;have e1:=TE t;have e2:=fZ x.Ad;refine⟨g,rfl,h,rfl,⟨?_,λf hf=>?_,?_⟩,?_⟩
  .have:=h3.len;have:=fX t;omega
  .obtain⟨o,h5,h6⟩:=h4.us f hf;have:=AaL h5;have:=fX o.body;omega
  .have:=AaM x.Ad;have:=h4.len;omega
  .have:=h2.len;rw[h1] at ht;simp at ht;omega
theorem Mw (x:qL) (s:Bj->Bj):(x.add s).cells=x.cells/\(x.add s).Aa.length=J x.Aa:=by
 unfold qL.add;split
 .exact⟨rfl,rfl⟩
 .split
  .rename_i t ht;obtain⟨ts,h⟩:=List.getLast?_eq_some_iff.1 ht;simp[h]
  .exact⟨rfl,rfl⟩
theorem Xq {n:ByteArray} (h:x.Df n=.ok (v,y)):y.cells=x.cells/\J y.Aa=J x.Aa:=by
 exact mbf
theorem ie {s:VP} (h:x.finish s=.ok y):y.cells=x.cells/\J y.Aa=J x.Aa:=by
 cases s with
 |set n a op b=>
  simp only[qL.finish] at h;split at h
  .cases h
  .exact mbb
 |get n s i=>
  simp only[qL.finish] at h;exact mbb
 |put n a i=>
  simp only[qL.finish] at h;split at h
  .cases h
  .split at h
   .cases h
   .cases h;exact Mw _ _
 |out a=>
  simp only[qL.finish] at h;split at h
  .cases h
  .cases h;exact Mw _ _
 |atomic=>simp only[qL.finish] at h;cases h;exact⟨rfl,rfl⟩
 |Ew a=>
  simp only[qL.finish] at h;split at h
  .cases h
  .cases h;exact⟨rfl,rfl⟩
 |loop n=>simp only[qL.finish] at h;cases h;exact⟨rfl,rfl⟩
theorem Abd (h:x.row l=.ok y):y.cells<=x.cells+6/\J y.Aa<=J x.Aa+1:=by
 cases l with
 |nil=>cases h
 |cons w r=>
  by_cases h0:bs w=AQ
  .rw[Iy h0] at h;unfold qL.Ec at h;split at h
   .cases h
   .split at h
    .cases h
    .cases h
    .rename_i sz hz;split at h
     .cases h
     .split at h
      .cases h
      .cases h;refine⟨?_,EQ⟩;show x.cells+_<=x.cells+6;split at hz
       .cases hz;omega
       .have:=YG hz;omega
  by_cases h1:bs w=AE
  .rw[Nt h1] at h;split at h
   .cases h
   .split at h
    .cases h
    .cases h;simp;omega
  by_cases h2:bs w=EM
  .rw[af h2] at h;split at h
   .cases h
   .split at h
    .cases h
    .cases h;obtain⟨a1,a2⟩:=Mw {x with Ad:=x.Ad.dropLast} (Fr.done _);rw[a1,a2];simp;omega
  .rw[ae h0 h1 h2] at h;cases hr:IP w r with
   |none=>rw[Cb hr] at h;cases h
   |some s=>
    rw[FE hr] at h;unfold qL.P4 at h;split at h
    .cases h
    .split at h
     .cases h
     .rename_i y' hf;split at h
      .cases h
      .cases h;obtain⟨a1,a2⟩:=ie hf;show y'.cells<=_/\J y'.Aa<=_;omega
theorem si (c:UInt8) (l:List By) (p:By):RD c (l++[p])=l.map (· ++[c])++[p]:=by
 induction l with
 |nil=>rfl
 |cons a l ih=>
  cases l with
  |nil=>rfl
  |cons b q=>simp only[Jy,RD,Jt] at ih⊢;rw[ih]
theorem o9 (c:UInt8) (s:By):∀p,p∈AD c s->c∉p:=by
 induction s with
 |nil=>intro p hp;simp[AD] at hp;subst hp;simp
 |cons x r ih=>
  intro p hp;by_cases h:x=c
  .simp only[AD,Jd h] at hp;rcases Jl.1 hp with rfl|hp
   .simp
   .exact ih p hp
  .rw[Ie c x r h] at hp;cases hs:AD c r with
   |nil=>exact Jk hs (Cc _ _)
   |cons q qs=>
    rw[hs] at hp;rcases Jl.1 hp with rfl|hp
    .intro hm;rcases Jq.1 hm with hm|hm
     .rw[GE] at hm;exact h hm.symm
     .exact ih q (by rw[hs];exact Je ..) hm
    .exact ih p (by rw[hs];exact Id _ hp)
theorem OQ (c:UInt8) (s:By):∀p,p∈AD c s->J p<=J s:=by
 induction s with
 |nil=>intro p hp;simp[AD] at hp;subst hp;exact Jf _
 |cons x r ih=>
  intro p hp;by_cases h:x=c
  .exact mbd
  .rw[Ie c x r h] at hp;cases hs:AD c r with
   |nil=>exact Jk hs (Cc _ _)
   |cons q qs=>
    rw[hs] at hp;rcases Jl.1 hp with rfl|hp
    .have:=ih q (by rw[hs];exact Je ..);simp;omega
    .have:=ih p (by rw[hs];exact Id _ hp);simp only[Jg];omega
theorem AfY (p:By):Lib.hasSuffix (p++[10]) [10]=V/\Lib.trimSuffix (p++[10]) [10]=p:=by
 have h:Lib.hasSuffix (p++[10]) [10]=V:=by unfold Lib.hasSuffix;rw[List.isSuffixOf_iff_suffix];exact⟨p,rfl⟩
 refine⟨h,?_⟩;unfold Lib.trimSuffix;rw[Jd h];simp
theorem AiT {p:By} (hp:(10:UInt8)∉p):Lib.hasSuffix p [10]=I/\Lib.trimSuffix p [10]=p:=by
 have h:Lib.hasSuffix p [10]=I:=by
  rw[<-j5];unfold Lib.hasSuffix;rw[List.isSuffixOf_iff_suffix];rintro⟨q,rfl⟩;exact hp EQ
 refine⟨h,?_⟩;unfold Lib.trimSuffix;rw[h];rfl
theorem Ow {T:Array Value} {res:Except (Int×Nat) qL} {fb:Nat} (h2:T[2]?=U (iJ w0.heap.size)) (h3:T[3]?=U (iJ (w0.heap.size+1)))
  (hp:Ch W w0.heap.size #[qI Z] 117) (he:Ch W (w0.heap.size+1) #[.nilIface] 85) (hfb:W.heap[fb]?=U (qK #[iI c,iI Ae] 127 (0,0))) (hm:Aw [] w0 W) (AF:res=.error (c,n)) (hl:Ae=n):
  bodyPostD prog f50 (sZ res w0) (Exit.panic [{v:=.iface 123 (iJ fb),recovered:=I}]) {tmps:=T,defers:=[{target:=Target.fn (Fn.func 68) #[iJ w0.heap.size,iJ (w0.heap.size+1)],args:= #[]}]} W:=by
 refine sy h2 h3 hp he Y rfl rfl ?_;subst hl;subst AF;have n1:fb≠w0.heap.size:=by rintro rfl;unfold Ch at hp;rw[hp] at hfb;simp at hfb
 have n2:fb≠w0.heap.size+1:=by rintro rfl;unfold Ch at he;rw[he] at hfb;simp at hfb
 exact⟨fb,rfl,Ch.F8 (Ch.F8 hfb n1 _) n2 _,(hm.setCell (.inr (Jf _)) _).setCell (.inr (JJ _)) _⟩
theorem Zi (K:AY W L (lD w0 rb rows)):Ch W w0.heap.size #[qI Z] 117/\Ch W (w0.heap.size+1) #[.nilIface] 85/\Ch W rb rows 9:=
 ⟨K.heap _ _ (by simp[lD]),K.heap _ _ (by simp[lD]),K.heap _ _ (by simp[lD])⟩
theorem Abu {wc:World} (K:AY wc [] (lD w rb rows)) (hm:Aw [] w wc) (hg:Gl mb wc) (hl:¬2000<J s):
  PI w mb rb rows s (wc.heap.size+2) 0 (((wc.alloc (qK #[qD Z 0 0,iI 0] 146)).alloc (.map #[] 0)).alloc (qK #[qD Z 0 0,iI 0,iJ wc.heap.size,.map (U (wc.heap.size+1)),.map Z,qD Z 0 0,iI 0] 151)):=by
 have a1:=Af.new (Aq.nil wc) (qK #[qD Z 0 0,iI 0] 146);have a2:=a1.trans (Af.new a1.Ak (.map #[] 0));have a3:=a2.trans (Af.Mg a2.Ak (qK #[qD Z 0 0,iI 0,iJ wc.heap.size,.map (U (wc.heap.size+1)),.map Z,qD Z 0 0,iI 0] 151));rw[Ks,Ks] at a3;have e:FG.UC ⟨wc.heap.size+1+1,wc.heap.size,wc.heap.size+1,0,0,0,[],⟨Z,0⟩,[],0,0,[]⟩ .Dq (qD Z 0 0) 0=[.Ao (wc.heap.size+1+1) #[qD Z 0 0,iI 0,iJ wc.heap.size,.map (U (wc.heap.size+1)),.map Z,qD Z 0 0,iI 0] 151,.Ao wc.heap.size #[qD Z 0 0,iI 0] 146,.Xk (wc.heap.size+1) (.map #[] 0)]:=rfl;have hg3:GlK mb wc []:=⟨hg,λb _ h=>by simp[Er] at h⟩;refine⟨⟨wc.heap.size+1+1,wc.heap.size,wc.heap.size+1,0,0,0,[],⟨Z,0⟩,[],0,0,[]⟩,[],qD Z 0 0,0,.Dq,rfl,⟨⟨?_,AY.nil _ _,λh=>Jk rfl h,λ_=>⟨rfl,rfl,rfl⟩⟩,?_,?_,?_,?_,.Dq,.Dq,?_,?_,?_,⟨EQ,EQ,EQ⟩,EQ⟩⟩
 .rw[e];exact a3.Ak
 .rw[e];exact K.step a3
 .rw[e];exact hg3.step a3
 .intro b hb;rw[e] at hb;have:=hm.size;rcases a3.fp b hb with h|h
  .simp[Er] at h
  .omega
 .exact hm.Aj (a3.mod.mono λx hx=>by simp[Er] at hx)
 .simp[qL.Dq]
 .simp[qL.Dq]
 .unfold Fs;rw[In hl];rfl
theorem PIx.row (h:PIx w0 mb rb rows s k g F wv Ae x wr) {wv':Value} {line':Int} (hW:km W g.xb (g.wV x) wv' line') (hm:Aw [g.xb] wr W):
  PIx w0 mb rb rows s k g F wv' line' x W:=by
 obtain⟨h1,h2⟩:=h.pa.re hW hm;refine⟨h1,h.AK.step h2,h.gl.step h2,λb hb=>?_,h.mod.trans h2.mod λb hb=> .inr (h.new b hb),h.fw,h.fn,h.cl,h.tl,h.go,h.bd,h.tv⟩;rcases h2.fp b hb with h3|h3
 .exact h.new b h3
 .have:=h.mod.size;omega
theorem PIx.quiet (h:PIx w0 mb rb rows s k g F wv Ae x wr) (hm:Aw [] wr W):PIx w0 mb rb rows s k g F wv Ae x W:=
 h.row (h.pa.pst.px.mod hm EQ) hm.nil
theorem PIx.fail (h:PIx w0 mb rb rows s k g F wv Ae x wr) (hm:Aw (PM g x wv Ae) wr W):
  Ch W w0.heap.size #[qI Z] 117/\Ch W (w0.heap.size+1) #[.nilIface] 85/\Aw [] w0 W:=
 ⟨hm.heap (Zi h.AK).1 (λhb=>h.AK.out _ _ (Je ..) (gv hb)),hm.heap (Zi h.AK).2.1 (λhb=>h.AK.out _ _ (Id _ (Je ..)) (gv hb)),h.mod.trans hm λb hb=> .inr (h.new b (gv hb))⟩
theorem PIx.next (h:PIx w0 mb rb rows s k g F wv Ae x wr) {l:Ws} (hr:x.row l=.ok y) (uG:Fs s=IS ((AD 10 s).drop (k+1)) (k+1) y) (hk:k<=2400)
  {g':FG} {F':List (Nat×Obj)} {wv':Value} (hxb:g'.xb=g.xb) (st:Af wr (g.UC x wv Ae) W (g'.UC y wv' Ae)) (hp:PA F' g' y wv' Ae W):PI w0 mb rb rows s g.xb (k+1) W:=by
 obtain⟨hw,hn⟩:=qL.pG h.fw h.fn hr;obtain⟨c1,c2⟩:=Abd hr;have ep:=h.tl;have Cs:=h.cl;obtain⟨g2,e1,p2,e2,b2,t2⟩:=hp.bd hn Y;rw[<-e2] at st;refine⟨g2,F',wv',Ae,y,by rw[e1,hxb],⟨p2,h.AK.step st,h.gl.step st,λb hb=>?_,h.mod.trans st.mod λb hb=> .inr (h.new b hb),hw,hn,Y,Y,uG,b2,t2⟩⟩;rcases st.fp b hb with h3|h3
 .exact h.new b h3
 .have:=h.mod.size;omega
theorem Afj {ini:List By} {pl:By} {m:Nat} (hP:AD 10 s=ini++[pl]) (hk:k<m) (hm:m<=J ini+1) (hl:J ini<m->¬(pl=[]/\0<J ini)):
  ∃(q p:By) (en:Bool),(Bp (List.map AR (List.map (λx=>x++[10]) ini++[pl])))[k]?=U (qE (AR q))/\Lib.hasSuffix q [10]=en/\Lib.trimSuffix q [10]=p/\J q<=J s+1/\J p<=J s/\
   (en=V->∀x,IS ((AD 10 s).drop k) k x=match x.row (Bu p) with|.error c=> .error (c,k+1)|.ok y=>IS ((AD 10 s).drop (k+1)) (k+1) y)/\(en=I->∀x,IS ((AD 10 s).drop k) k x=.error (2,k+1)):=by
 have hlen:=OQ 10 s;by_cases h:k<J ini
 .obtain⟨c1,c2⟩:=AfY ini[k];have hpm:ini[k]∈AD 10 s:=by rw[hP];exact IR _ (JO h)
  refine⟨ini[k]++[10],ini[k],V,?_,c1,c2,?_,hlen _ hpm,λ_ x=>?_,(λh=>by cases h)⟩
  .simp only[Bp,jS,JH,Jt,QJ];rw[JT (by simpa using h),JR,Jb h];rfl
  .have:=hlen _ hpm;simp;omega
  .rw[hP];have e1:(ini++[pl]).drop k=ini[k]::(ini++[pl]).drop (k+1):=by
    rw[JS (by simp;omega),List.getElem_append_left h]
   rw[e1];cases hd:(ini++[pl]).drop (k+1) with
   |nil=>have:=JM List.length hd;simp at this;omega
   |cons a r=>rfl
 .have LS:k=J ini:=Y
  subst LS;have SN:=o9 10 s pl (by rw[hP];simp);obtain⟨c1,c2⟩:=AiT SN;have hpm:pl∈AD 10 s:=by rw[hP];simp
  refine⟨pl,pl,I,?_,c1,c2,?_,hlen _ hpm,(λh=>by cases h),λ_ x=>?_⟩
  .simp[Bp]
  .have:=hlen _ hpm;omega
  .rw[hP,List.drop_left];show(if _ then _ else _)=_;rw[In (hl Y)]
def yX (p e:Nat) (F:List (Nat×Obj)):List (Nat×Obj):=F.filter λq=>decide (q.1≠p/\q.1≠e)
structure Flt (p e:Nat) (F:List (Nat×Obj)) (w:World):Prop where
 k:∀b o,(b,o)∈F->w.heap[b]?=U o
 p:Ch w p #[qI Z] 117
 e:Ch w e #[.nilIface] 85
section
variable {p e:Nat} {F:List (Nat×Obj)} {w:World}
theorem Flt.mem (h:Flt p e F w) {b:Nat} {c:Array Value} {T:TypeId} (hb:(b,qK c T (0,0))∈F) (n1:¬(c= #[qI Z]/\T=117)) (n2:¬(c= #[.nilIface]/\T=85)):(b,qK c T (0,0))∈yX p e F:=by
 refine jM.2 ⟨hb,?_⟩;rw[JD];refine⟨λ(he:b=p)=>n1 ?_,λ(he:b=e)=>n2 ?_⟩
 .have h1:=h.k _ _ hb;have h2:=h.p;exact mbt
 .have h1:=h.k _ _ hb;have h2:=h.e;exact mbt
theorem Flt.lQ (h:Flt p e F w) {b:Nat} {c:Array Value} {T:TypeId} (hb:(b,qK c T (0,0))∈F) (n1:T≠117) (n2:T≠85):(b,qK c T (0,0))∈yX p e F:=h.mem hb (λh=>n1 h.2) (λh=>n2 h.2)
theorem Flt.row (h:Flt p e F w) {sl:Value} {ws:List Value} (hr:Et F sl ws) (hw:∀v,v∈ws->v≠ qI Z/\v≠ .nilIface):Et (yX p e F) sl ws:=by
 rcases hr with hr|⟨b,c,T,IZ,h1,h2,h3⟩
 .exact .inl hr
 .cases ws with
  |nil=>exact .inl ⟨rfl,_,c,h1⟩
  |cons v us=>
   have hv:v∈IZ.toList:=by
    have:v∈IZ.toList.take (v::us).length:=by rw[<-h3];exact Je ..
    exact List.take_subset _ _ this
   refine .inr ⟨b,c,T,IZ,h1,h.mem h2 ?_ ?_,h3⟩
   .rintro⟨rfl,_⟩;simp at hv;exact(hw v (Je ..)).1 hv
   .rintro⟨rfl,_⟩;simp at hv;exact(hw v (Je ..)).2 hv
theorem D8.ifc {t:Bj} (h:D8 F t vs):∀v,v∈vs->v≠ qI Z/\v≠ .nilIface:=by
 induction t generalizing vs with
 |nil=>rw[h];intro v hv;cases hv
 |set _ _ _ _ r ih=>obtain⟨q,us,rfl,_,h3⟩:=h;intro v hv;rcases Jl.1 hv with rfl|hv;exact⟨EQ,EQ⟩;exact ih h3 v hv
 |get _ _ _ _ r ih=>obtain⟨q,us,rfl,_,h3⟩:=h;intro v hv;rcases Jl.1 hv with rfl|hv;exact⟨EQ,EQ⟩;exact ih h3 v hv
 |put _ _ _ _ r ih=>obtain⟨q,us,rfl,_,h3⟩:=h;intro v hv;rcases Jl.1 hv with rfl|hv;exact⟨EQ,EQ⟩;exact ih h3 v hv
 |out _ r ih=>obtain⟨q,us,rfl,_,h3⟩:=h;intro v hv;rcases Jl.1 hv with rfl|hv;exact⟨EQ,EQ⟩;exact ih h3 v hv
 |atomic _ r _ ih=>obtain⟨q,us,_,_,rfl,_,_,_,h3⟩:=h;intro v hv;rcases Jl.1 hv with rfl|hv;exact⟨EQ,EQ⟩;exact ih h3 v hv
 |Ew _ _ r _ ih=>obtain⟨q,us,_,_,rfl,_,_,_,h3⟩:=h;intro v hv;rcases Jl.1 hv with rfl|hv;exact⟨EQ,EQ⟩;exact ih h3 v hv
 |loop _ _ r _ ih=>obtain⟨q,us,_,_,rfl,_,_,_,h3⟩:=h;intro v hv;rcases Jl.1 hv with rfl|hv;exact⟨EQ,EQ⟩;exact ih h3 v hv
theorem Flt.st (h:Flt p e F w) {t:Bj} {vs:List Value} (hs:D8 F t vs):D8 (yX p e F) t vs:=by
 induction t generalizing vs with
 |nil=>exact hs
 |set v op a b r ih=>obtain⟨q,us,h1,h2,h3⟩:=hs;exact⟨q,us,h1,h.lQ h2 Do Do,ih h3⟩
 |get v f s a r ih=>obtain⟨q,us,h1,h2,h3⟩:=hs;exact⟨q,us,h1,h.lQ h2 Do Do,ih h3⟩
 |put f s i a r ih=>obtain⟨q,us,h1,h2,h3⟩:=hs;exact⟨q,us,h1,h.lQ h2 Do Do,ih h3⟩
 |out a r ih=>obtain⟨q,us,h1,h2,h3⟩:=hs;exact⟨q,us,h1,h.lQ h2 Do Do,ih h3⟩
 |atomic b r ib ih=>obtain⟨q,us,sl,ws,h1,h2,h3,h4,h5⟩:=hs;exact⟨q,us,sl,ws,h1,h.lQ h2 Do Do,h.row h3 h4.ifc,ib h4,ih h5⟩
 |Ew a b r ib ih=>obtain⟨q,us,sl,ws,h1,h2,h3,h4,h5⟩:=hs;exact⟨q,us,sl,ws,h1,h.lQ h2 Do Do,h.row h3 h4.ifc,ib h4,ih h5⟩
 |loop n b r ib ih=>obtain⟨q,us,sl,ws,h1,h2,h3,h4,h5⟩:=hs;exact⟨q,us,sl,ws,h1,h.lQ h2 Do Do,h.row h3 h4.ifc,ib h4,ih h5⟩
theorem Flt.ths (h:Flt p e F w) {ts:List Bj} {vs:List Value} (hs:HY F ts vs):HY (yX p e F) ts vs:=by
 induction ts generalizing vs with
 |nil=>exact hs
 |cons t r ih=>obtain⟨sl,ws,us,h1,h2,h3,h4⟩:=hs;exact⟨sl,ws,us,h1,h.row h2 h3.ifc,h.st h3,ih h4⟩
theorem HY.sls (h:HY F ts vs):∀v,v∈vs->v≠ qI Z/\v≠ .nilIface:=by
 induction ts generalizing vs with
 |nil=>rw[h];intro v hv;cases hv
 |cons t r ih=>
  obtain⟨sl,ws,us,rfl,h2,_,h4⟩:=h;intro v hv;rcases Jl.1 hv with rfl|hv
  .obtain⟨p,c,rfl⟩:=h2.Mq;exact⟨EQ,EQ⟩
  .exact ih h4 v hv
end
theorem xe {w6:World} {F':List (Nat×Obj)} {lv ov sv:Value} {tp:Option Addr} {tc:Nat} {rs:List Value}
  (hI:PIx w0 mb rb rows s k g F wv Ae x w5) (hF:AlU F g x wv Ae w5 lv ov sv tp tc rs F') (hm:Aw [] w5 w6):
  sZ (.ok x) w0 (qJ (qG #[iJ g.pb,.nilIface])) ((w6.setCell ⟨w0.heap.size,0,Z⟩ (iJ g.pb)).setCell ⟨w0.heap.size+1,0,Z⟩ .nilIface):=by
 obtain⟨E,K,hr⟩:=TN (A:=[_,_,_]) hF.st.Ak hF.AK;have MS:=hF.st.Ak.Ao (i:=1) rfl;obtain⟨kp,ke,_⟩:=Zi hI.AK;have hfl:Flt w0.heap.size (w0.heap.size+1) ((g.pb,qK #[qD tp (J rs) tc,iI x.cells] 146 (0,0))::(E++F')) w6:=by
  refine⟨λb o hb=>?_,kp.mod hm EQ,ke.mod hm EQ⟩;rcases Jl.1 hb with hb|hb
  .cases hb;exact hm.heap MS EQ
  .exact hm.heap (K.heap b o hb) EQ
 have hlen:=hF.ths.len;have Amn:=hF.ths.sub (E:=(g.pb,qK #[qD tp (J rs) tc,iI x.cells] 146 (0,0))::(E++F')) (λ_ h=>Id _ (Jc _ h));have DH:=hr.sub (E:=(g.pb,qK #[qD tp (J rs) tc,iI x.cells] 146 (0,0))::(E++F')) (λ_ h=>Id _ h);refine⟨yX w0.heap.size (w0.heap.size+1) ((g.pb,qK #[qD tp (J rs) tc,iI x.cells] 146 (0,0))::(E++F')),g.pb,tp,tc,rs,rfl,?_,⟨λb o hb=>?_,λb o _ h=>by simp[Er] at h⟩,?_,?_,hfl.ths Amn⟩
 .exact((hI.mod.Aj hm).setCell (.inr (Jf _)) _).setCell (.inr (JJ _)) _
 .obtain⟨h1,h2⟩:=jM.1 hb;rw[JD] at h2;rw[Below.heap_setCell _ _ _ _ h2.2,Below.heap_setCell _ _ _ _ h2.1];exact hfl.k b o h1
 .rw[<-hlen];exact hfl.lQ (Je ..) Do Do
 .rw[<-hlen];exact hfl.row DH hF.ths.sls
theorem sa (mb:Nat) (s:ByteArray) (w:World) (hg:Gl mb w) (hs:s.size<=1000000):
  Calls prog 50 #[qE s] w (sZ (Fs (bs s)) w):=by
 have hmf:∀(fn:Fn) (first cap:Array Value) (w:World),(Instr.makeFunc fn first cap).run prog w=.ok (.func fn first cap) w:=λ_ _ _ _=>rfl
 have hmm:= @run_makeMap prog;have K0:AY ((w.alloc (qK #[qI Z] 117)).alloc (qK #[.nilIface] 85)) [] [(w.heap.size,qK #[qI Z] 117 (0,0)),(w.heap.size+1,qK #[.nilIface] 85 (0,0))]:=by
  have a:=(AY.new (AY.new (AY.nil w []) (Aq.nil w) (qK #[qI Z] 117)) (Aq.nil _) (qK #[.nilIface] 85));rw[Ks] at a;exact a.sub (λx hx=>by simp only[Jl,QY,or_false] at hx⊢;exact hx.symm)
 have m0:Aw [] w ((w.alloc (qK #[qI Z] 117)).alloc (qK #[.nilIface] 85)):=((Aw.refl [] w).alloc _).alloc _;have HK0:=D K0;have HM0:=D m0;have HG:=D hg;clear K0 m0 hg;by_cases hl:2000<s.size
 .have uF:2000<(s.size:Int):=Y
  have Hr:=D (show Fs (bs s)=.error (1,0) by unfold Fs;rw[Jd (by rw[Bt];exact hl)]);clear hl;go_enter_defers func50,ntmps50;go_wp2_with fail;refine(AO _ _ _).mono ?_;rintro e w5 ⟨⟨fb,rfl,hb⟩,hm⟩;go_wp2;have K:=HK0.quiet hm;exact Ow Eq Eq (K.heap _ _ (Je ..)) (K.heap _ _ (Id _ (Je ..))) hb (HM0.Aj hm) Hr rfl
 have uF:¬2000<(s.size:Int):=Y
 go_enter_defers func50,ntmps50;go_wp2_with fail;refine(YW mb s _ (HG.quiet HM0) hs).mono ?_;intro e w1 he;obtain⟨rb,n,rfl,hn,Dk,bu,hB⟩:=he;obtain⟨ini,pl,hP⟩:∃ini pl,AD 10 (bs s)=ini++[pl]:=by
  exact mbg
 obtain⟨k0,Uf⟩:∃k,k=J ini:=⟨_,rfl⟩;have Ud:n=k0+1:=by rw[hn,hP,Uf];simp
 subst Ud;have bw:k0<=2001:=by
  have:=GU 10 _ (bs s) (Jf _);have h3:=Lib.count_le (bs s) [10];rw[Bt] at h3;omega
 rw[hP,si] at hB;have K1:AY w1 [] (lD w rb (Bp (List.map AR (List.map (λx=>x++[10]) ini++[pl]))).toArray):=by
  have a:=HK0.quiet Dk;refine⟨λb o hb=>?_,λb o _ h=>by simp[Er] at h⟩;simp only[lD,Jl,QY,or_false] at hb;rcases hb with hb|hb|hb
  .cases hb;exact a.heap _ _ EQ
  .cases hb;exact a.heap _ _ EQ
  .cases hb;exact hB
 have FQ:(Bp (List.map AR (List.map (λx=>x++[10]) ini++[pl]))).length=k0+1:=by simp[Bp,Uf]
 have FR:(Bp (List.map AR (List.map (λx=>x++[10]) ini++[pl])))[k0]?=U (qE (AR pl)):=by simp[Bp,Uf]
 have r0:w1.cell? ⟨rb,k0,Z⟩=U (qE (AR pl)):=by rw[hB.cell,LE];exact FR
 have HP:=D hP;have HK:=D Uf;have HK1:=D K1;have NQ:=D (HM0.Aj Dk);have HRL:=D FQ;clear hn hP Uf hB Dk bu K1 FQ FR;have Aix:0<=(k0:Int):=Y
 have AmS:k0<(k0:Int)+1:=Y
 obtain⟨tr,htr⟩:∃b,b=decide (pl=[]/\0<k0):=⟨_,rfl⟩;have HTR:=D htr;clear htr;go_upto_region 6 with fail
 go_cut [29] from 18 to 29 (λq w'=>w'=w1/\q= qF tr)
 case first=>
  by_cases hpl:pl=[]
  .subst hpl;have he:(AR []).toList=[]:=by rw[ByteArray.toList_eq];rfl
   have yB:(AR [])=⟨#[]⟩:=rfl;by_cases hk:0<k0
   .exact mbc
   .exact mbc
  .have he:¬(AR pl).toList=[]:=by rw[ByteArray.toList_eq];exact hpl
   have yB:(AR pl).toList.isEmpty=I:=by rw[<-j5,List.isEmpty_iff];exact he
   have Hq:=D (show tr=I by rw[HTR.out];simp[hpl]);clear hpl;go_wp2
   go_meet
   rw[Hq.out];exact⟨rfl,rfl⟩
 case rest=>
  obtain⟨Fi,hq⟩:=hcut;subst Fi;subst hq;clear r0
  go_upto_if 29 with(fail)
  go_cut [4] from 30 to 32 (λq w'=>w'=wc/\q= qD (U ⟨rb,0,Z⟩) (if tr=V then k0 else k0+1) (k0+1))
  case first=>
   have Aon:k0<=k0+1:=Y
   cases tr with
   |true=>
    go_wp2
    go_meet
    exact⟨rfl,rfl⟩
   |false=>
    go_wp2
    go_meet
    exact⟨rfl,rfl⟩
  case rest=>
   obtain⟨Fi,hq⟩:=hcut;subst Fi;subst hq;obtain⟨m,hm⟩:∃m,m=(if tr=V then k0 else k0+1):=⟨_,rfl⟩;rw[<-hm];have gV:m<=k0+1:=by rw[hm];split<;>omega
   have hex:∀x,IS ((ini++[pl]).drop m) m x=IT m x:=λx=>by
    by_cases ht:tr=V
    .rw[Jd ht] at hm;rw[HTR.out,JD] at ht;obtain⟨rfl,h0⟩:=ht;rw[hm,HK.out,List.drop_left];show(if _ then _ else _)=_;rw[Jd ⟨rfl,by rw[<-HK.out];exact h0⟩]
    .rw[In ht] at hm;rw[hm,HK.out,Qc EQ];rfl
   have AcR:k0<m->¬(pl=[]/\0<k0):=λh hc=>by
    have ht:tr=V:=by rw[HTR.out,JD];exact hc
    rw[Jd ht] at hm;omega
   have HEX:=D hex;have HLK:=D AcR;clear hm hex AcR;have ZY:0<=(m:Int):=Y
   go_wp2;go_loopw [39] (λi wr=>∃k:Nat,i= iI k/\k<=m/\PI w mb rb (Bp (List.map AR (List.map (λx=>x++[10]) ini++[pl]))).toArray (bs s) (wc.heap.size+2) k wr) (λi _=>m-(intOf i).toNat);case atStart=>exact⟨0,rfl,Jo _,Abu HK1 NQ (HG.quiet NQ) (by rw[Bt];exact hl)⟩
   case round=>
    clear HK0 HM0 HK1 NQ hmm Aix AmS;obtain⟨k,rfl,hk,g,F,wv,Ae,x,hxb,hI⟩:=hrel;have HI:=D hI;have Aoo:0<=(k:Int):=Y
    rw[<-hxb];clear hxb hI;by_cases hkm:(k:Int)<(m:Int)
    .have AkJ:k<m:=Y
     obtain⟨q,p,en,DH,hsf,htr,hql,hpl,AkO,AkN⟩:=Afj HP AkJ (by rw[<-HK.out];exact gV) (by rw[<-HK.out];exact HLK.out);rw[Bt] at hql hpl;have hqs:(AR q).size<=1000001:=by rw[<-Bt,Di];omega
     have VW:(AR p).size<=1000000:=by rw[<-Bt,Di];omega
     have r0:wr.cell? ⟨rb,k,Z⟩=U (qE (AR q)):=by rw[(Zi HI.out.AK).2.2.cell,LE];exact DH
     have hcut:Calls prog 71 #[qE (AR q),qE ⟨#[10]⟩] wr λe w'=>e= qJ (qG #[qE (AR p),qF en])/\w'=wr:=by
      refine(strings_CutSuffix (AR q) ⟨#[10]⟩ wr Y).mono ?_;rintro e w' ⟨rfl,rfl⟩;refine⟨?_,rfl⟩;show qJ (qG #[qE ⟨(Lib.trimSuffix (bs (AR q)) [10]).toArray⟩,qF (Lib.hasSuffix (bs (AR q)) [10])])=_;rw[Di,hsf,htr];rfl
     have HPL:=D hpl;have zY:=D hcut;have HG1:=D AkO;have HG2:=D AkN;have Hsp:=D (wC mb (AR p) wr HI.gl.gl VW);clear DH hsf htr hql hpl AkO AkN hqs VW hcut AkJ;go_wp2_with fail;refine zY.mono ?_;intro e w2 he;obtain⟨FA,yB⟩:=he;replace yB:=yB.symm;subst FA;subst yB;go_wp2_with fail;refine Hsp.mono ?_;intro e w3 he;obtain⟨v,FA,iY,Yp⟩:=he;obtain⟨sp,sc,hv,_,_⟩:=Yp.Mq;obtain⟨sn,hsn⟩:∃n,n=(Bp (Bu (bs (AR p)))).length:=⟨_,rfl⟩;rw[<-hsn] at hv;subst FA;subst hv;clear hsn;have I3:=HI.quiet iY;have hpx:=I3.pa.pst.px;obtain⟨hc,hf,hlt⟩:=N6 hpx;have hB4:km (World.setCell (World.setCell w3 ⟨g.xb,0,Z⟩ (qD sp sn sc)) ⟨g.xb,1,Z⟩ (iI (k+1))) g.xb (g.wV x) (qD sp sn sc) (k+1):=(hpx.set 0 (qD sp sn sc)).set 1 (iI (k+1));have XM:Aw [g.xb] w3 (World.setCell (World.setCell w3 ⟨g.xb,0,Z⟩ (qD sp sn sc)) ⟨g.xb,1,Z⟩ (iI (k+1))):=((Aw.refl _ _).setCell (.inl EQ) _).setCell (.inl EQ) _;have I4:=I3.row hB4 XM;have HB4:=D hB4;have vH:=D I4;have hxr:=Dp HI.pa.pst.px;have bp:g.xb∉eI mb:=λh=>HI.gl.out _ h (gv (AgB EQ))
     have Akq:Sl (World.setCell (World.setCell w3 ⟨g.xb,0,Z⟩ (qD sp sn sc)) ⟨g.xb,1,Z⟩ (iI (k+1))) (λb=>b≠g.xb) (qD sp sn sc) (Bp (Bu p)):=by
      rw[Di] at Yp;exact(Yp.mono (λb _ hb=>Y)).mod XM (λb hb hm=>by rw[GE] at hm;exact hb hm)
     have Anw:=D Akq;have Hxg:=D bp;clear I3 hpx hB4 XM I4 Yp Akq iY hxr bp r0 Hsp zY;cases en with
     |false=>
      have hr:=D (show Fs (bs s)=.error (2,k+1) by rw[HI.out.go];exact HG2.out rfl x);have Hnn:=D (Fb _ g.xb (g.wV x) (qD sp sn sc) (k+1) HB4);go_wp2_with fail;refine Hnn.mono ?_;intro e w5 he;obtain⟨⟨fb,FA,hb⟩,hm⟩:=he;subst FA;clear hc hf hlt;go_wp2;obtain⟨h1,h2,h3⟩:=vH.fail (hm.mono (λy hy=>by cases hy));exact mbh
     |true=>
      have Akb:Bu p≠[]:=λh=>Cc 32 p (List.map_eq_nil_iff.1 h)
      have hwz:∀a,a∈Bu p->a.size<=1000000:=λa ha=>by
       obtain⟨y,hy,rfl⟩:=Qe.1 ha;have:=OQ 32 p y hy;have h2:=HPL.out;rw[<-Bt,Di];omega
      have zV:=D (Ada (Bu p) Akb mb _ g x (qD sp sn sc) (k+1) F vH.pa Anw hwz vH.gl.gl Hxg vH.bd (by have:=vH.fn;exact⟨this.s0,by have:=this.s1;omega⟩) (by have:=vH.cl;have:=vH.fw.c0;omega) (by have:=vH.tl;omega) vH.tv);clear Akb hwz;have HG3:=D (HG1 rfl x);clear HG1 HG2;go_wp2_with fail;refine zV.mono ?_;intro e w5 he;clear hc hf hlt;cases hr:x.row (Bu p) with
      |error c=>
       rw[hr] at he;obtain⟨⟨fb,FA,hb⟩,hm⟩:=he;subst FA;have hr:=D (show Fs (bs s)=.error (c,k+1) by rw[HI.out.go,HG3.out,hr]);go_wp2;obtain⟨h1,h2,h3⟩:=vH.fail hm;exact mbh
      |ok y=>
       rw[hr] at he;obtain⟨FA,g',F',wv',Aka,_,st,hp⟩:=he;subst FA;have hN:=D (vH.next hr (by rw[HI.out.go,HG3.out,hr]) Y Aka st hp);clear hr st hp Aka;go_wp2;go_roundw;case rel=>exact⟨k+1,by (try rw[PB trivial]);rfl,Y,hN⟩
       case measure=>(try rw[PB trivial]);simp[intOf];omega
    .have hke:k=m:=Y
     subst hke;have uG:Fs (bs s)=IT k x:=by rw[HI.out.go,HP.out];exact HEX.out x
     have HGO:=D uG;have hpx:=HI.pa.pst.px;obtain⟨hc,hf,hlt⟩:=N6 hpx;have I4:=HI.row (hpx.set 1 (iI (k+1))) ((Aw.refl _ _).setCell (.inl EQ) _);have He:=D (ua I4.pa I4.bd.fr);have vH:=D I4;clear uG hpx I4;go_wp2_with fail;refine He.mono ?_;intro e w5 he;clear hc hf hlt He;by_cases ho:x.Ad=[];rotate_left
     .rw[In ho] at he;obtain⟨⟨fb,FA,hb⟩,hm⟩:=he;subst FA;have hr:=D (show Fs (bs s)=.error (3,k+1) by rw[HGO.out];unfold IT;rw[Jd (.inl ho)]);clear ho;go_wp2;obtain⟨h1,h2,h3⟩:=vH.fail (hm.mono (λy hy=>by cases hy));exact mbh
     rw[Jd ho] at he;obtain⟨FA,hm⟩:=he;subst FA;have I5:=vH.quiet hm;by_cases hx:x.Aa=[]
     .have Co:=I5.pa.Ak;rw[GW hx] at Co;obtain⟨hc,hf,hlt,Tm,hpf,gS,IK⟩:=aw Co;have hr:=D (show Fs (bs s)=.error (3,k+1) by rw[HGO.out];unfold IT;rw[Jd (.inr hx)]);have HI5:=D I5;clear Co IK hx ho I5 hm;go_wp2_with fail;refine(AO _ _ _).mono ?_;intro e w6 he;obtain⟨⟨fb,FA,hb⟩,hm⟩:=he;subst FA;clear hc hf hlt Tm hpf gS;go_wp2;obtain⟨h1,h2,h3⟩:=HI5.fail (hm.mono (λy hy=>by cases hy));exact mbh
     .obtain⟨lv,ov,sv,tp,tc,rows,F',hF⟩:=uT I5.pa ho;have hF1:=hF.st.Ak.Ao (i:=0) rfl;have oz:=hF.st.Ak.Ao (i:=1) rfl;have hxc:=hF1.cell;have Tm:=oz.cell;have Amw:0<J rows:=by rw[hF.ths.len];exact JI.2 hx
      have FQ:((J rows:Int)==0)=I:=by rw[Jh];omega
      have Ad9:=D (mY F' x w5 _ g.pb tp tc rows hF.st.Ak rfl rfl hF.AK hF.ths I5.fw (λt ht=>by have:=I5.fn.all t ht;have:=fX t;omega));have HF:=D hF;have HI5:=D I5;have Hno:=D (show Fs (bs s)=if Ei x then .ok x else .error (5,0) by rw[HGO.out];unfold IT;rw[In (λh=>h.elim (λh=>h ho) hx)]);clear hF1 oz hF I5 hx ho hm Amw;go_wp2_with fail;refine Ad9.mono ?_;intro e w6 he;clear hxc Tm FQ;unfold AlF at he;cases hlm:Ei x with
      |false=>
       rw[hlm,In EQ] at he;obtain⟨⟨fb,FA,hb⟩,hm⟩:=he;subst FA;have hr:=D (Hno.trans (by rw[hlm]));go_wp2;obtain⟨h1,h2,h3⟩:=HI5.fail (hm.mono (λy hy=>by cases hy));exact Ow Eq Eq h1 h2 hb h3 hr rfl
      |true=>
       rw[hlm,Jd rfl] at he;obtain⟨FA,hm⟩:=he;subst FA;have hr:=D (Hno.trans (by rw[hlm]));have ou:=xe HI5 HF hm;have Fu:=(HF.st.Ak.quiet hm).Ao (i:=0) rfl;have xc:=Fu.cell;obtain⟨kp,ke,_⟩:=Zi (HI5.AK.quiet hm);have pc:=kp.cell 0;have pf:=kp.free 0;have ec:=ke.cell 0;have ef:=ke.free 0;have hB1:Ch (World.setCell (World.setCell w6 ⟨w.heap.size,0,Z⟩ (iJ g.pb)) ⟨w.heap.size+1,0,Z⟩ .nilIface) w.heap.size #[iJ g.pb] 117:=Ch.F8 (kp.set 0 _) EQ _;have hB2:Ch (World.setCell (World.setCell w6 ⟨w.heap.size,0,Z⟩ (iJ g.pb)) ⟨w.heap.size+1,0,Z⟩ .nilIface) (w.heap.size+1) #[.nilIface] 85:=(ke.F8 EQ _).set 0 _;have HPE:=D ou;have SC:=D hB1;have HB2:=D hB2;clear ou Fu kp ke hB1 hB2 hm hlm;go_wp2;refine AfW Eq Eq SC HB2 rfl rfl ?_;rw[hr.out];exact HPE.out
