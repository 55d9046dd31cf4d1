/- Part 7 of the proof. -/
import Derived.Test.YtpdfifdlhpmofaaGreatDoorC06
set_option linter.unusedVariables false
set_option linter.unusedSimpArgs false
set_option maxHeartbeats 0
set_option maxRecDepth 99999
namespace Go.Proofs.YtpdfifdlhpmofaaGreatDoor
open Go.RowKit Tryz
open Value renaming slice->m9,string->qA,bool->qB,tuple->qC,agg->qD,pointer->qE
open Ending renaming returned->qF
open Obj renaming cells->qG
open Option renaming none->Z,some->U
open Bool renaming true->V,false->I
open Go.Lib renaming hid->D
open List renaming length->J
theorem maw {p:Prop} (h:p:=by
 go_wp2_with fail;refine(AP _ _ _).mono ?_;rintro e w5 ⟨⟨fb,rfl,hb⟩,hm⟩;go_wp2;rw[hr.out];exact⟨rfl,AZ ⟨⟨fb,rfl,hb⟩,mT.Aj hm⟩⟩):p:=h
theorem maK {p:Prop} (h:p:=by
 simp only[jF,Qr,QK] at Gq;clear We Hr hx;go_wp2_with fail;refine(AP _ _ _).mono ?_;rintro e w5 ⟨⟨fb,rfl,hb⟩,hm⟩;go_wp2;rw[hr.out];exact⟨rfl,AZ ⟨⟨fb,rfl,hb⟩,(mT.alloc _).Aj hm⟩⟩):p:=h
theorem maT {p:Prop} (h:p:=by
 cases As r n with
 |none=>rfl
 |some p=>obtain⟨x,y⟩:=p;simp[RM];omega):p:=h
theorem maW {p:Prop} (h:p:=by
 rw[Ln] at he;obtain⟨⟨fb,rfl,hb⟩,Dg⟩:=he;have gU:=D (show As t n=Z by rw[Z6.out];simp only[As];rw[Ln];rfl);clear Ln;go_wp2;rw[gU.out];exact⟨rfl,⟨fb,rfl,hb⟩,HM.Aj Dg⟩):p:=h
theorem ma7 {p:Prop} (h:p:=by
 have Hq:=D (show qB (decide (0<k0))= qB tr by rw[HTR.out];simp[hk]);rw[he2] at r0;clear he he2 hk;go_wp2
 go_meet
 exact⟨rfl,Hq⟩):p:=h
theorem ma8 {p:Prop} (h:p:=by
 split at h
 .cases h
 .split at h
  .cases h
  .rename_i hl;cases h;obtain⟨a1,a2⟩:=W8 hl;exact⟨(Md _ _).1.trans a1,(Md _ _).2.trans a2⟩):p:=h
theorem mbd {p:Prop} (h:p:=by
 exact Oc Eq Eq h1 h2 hb h3 hr Y):p:=h
theorem mbe {p:Prop} (h:p:=by
 go_wp2_with fail;refine(AP _ _ _).mono ?_;rintro e w5 ⟨⟨fb,rfl,hb⟩,hm⟩;go_wp2;rw[gU.out];exact⟨rfl,⟨fb,rfl,hb⟩,Nt.Aj hm⟩):p:=h
theorem mbg {p:Prop} (h:p:=by
 refine hK _ _ ⟨h2.Oi MX 0,_,?_,h2⟩;simp only[Km.oN,Km.P2,mZ,FH]):p:=h
theorem mbi {p:Prop} (h:p:=by
 exact ho.swap (i:=0) rfl (h.mod.mono (λy hy=> .inl (by simpa[Ob.fp] using hy))) h1 (by simp[Ob.fp]) (λb hb=> .inl hb)):p:=h
theorem mbl {p:Prop} (h:p:=by
 exact ho.swap (i:=0) rfl (hm.mono (λy hy=> .inl (by simpa[Ob.fp] using hy))) h1 (by simp[Ob.fp]) (λb hb=> .inl hb)):p:=h
theorem mbp {p:Prop} (h:p:=by
 unfold Ci at h2;rw[he,h2] at h1;simp only[Option.some.injEq,Obj.cells.injEq] at h1;exact⟨h1.1.symm,h1.2.1.symm⟩):p:=h
theorem mbG {p:Prop} (h:p:=by
 obtain⟨rfl,_⟩:=he;refine hK _ _ ⟨h2.Oi MX 0,_,?_,h2⟩;simp only[Km.oN,Km.P2,FH]):p:=h
theorem mbN {p:Prop} (h:p:=by
 exact JT.2 ⟨_,Jd ..,GE.2 rfl⟩):p:=h
variable {nm:ByteArray} {ws r l:Ws} {mb b i n k pB eB rb:Nat} {w w0 W w5 wr:World} {g:FG} {x y:qH} {wv pv:Value} {Ae v c o b1 o1:Int} {F:List (Nat×Obj)} {L:List Ob} {s:By} {T tp te:TypeId} {xs vs:List Value} {fs:List Kz} {os:List Fr} {ts:List Bj} {Post:Ending->World->Prop} {rows:Array Value}
theorem Afl {r:PV} (k:gP nm ws mb w g x wv Ae F r) (hk:bs nm=Fw):Z8 nm ws w g x wv Ae F:=by
 obtain⟨q0,q1,q2,q3,q4,q5,q6⟩:=Fm hk V I I I I I I rfl;refine pT ?_;clear k hk;intro H Hz Hg Hb Hk HX Aw hmf hlt bx Hbx E R0 MX;go_upto_region 6 with fail
 have S0:=R0.out.quiet (Az.refl [] _).drew;refine Ov [0,2] [1,3] [4,5,6] [(7,I),(8,I),(9,I)] (λW=>W.cell? ⟨w.heap.size,0,Z⟩=U (iJ g.xb)) 9 (S0.cell MX 0) ?_;refine Lw (v:= ?_) rfl rfl rfl (λW hW=>?_) ?_;rotate_left
 .go_simp;rfl
 simp only[FH];refine Lw (v:= ?_) rfl rfl rfl (λW hW=>?_) ?_;rotate_left
 .go_simp;rfl
 simp only[FH];simp only[WH];have J0:Ua w g.xb r Ae sP WJ ws 1 3 4 5 6 (qG #[qA ⟨#[]⟩] 9 (0,0)) (qG #[qA ⟨#[]⟩,iI 0] 230 (0,0)) (qG #[qA ⟨#[]⟩] 9 (0,0)) [4,5,6] E [1,3] [4,5,6] ⟨undef,undef,Z,Z,Z⟩ _:=⟨⟨E,ws,S0,λ_ h=>h,.inl ⟨rfl,rfl⟩,.inl ⟨Do,rfl⟩,.inl ⟨Do,rfl⟩,.inl ⟨Do,rfl⟩⟩,Do,λ_ h=>h,EQ,EQ,EQ⟩;refine VK (Km.oN 25 27 6 7 8) (Ua w g.xb r Ae sP WJ ws 1 3 4 5 6 (qG #[qA ⟨#[]⟩] 9 (0,0)) (qG #[qA ⟨#[]⟩,iI 0] 230 (0,0)) (qG #[qA ⟨#[]⟩] 9 (0,0)) [4,5,6] E) ?_ ?_ ?_ rfl _ (by simp only[Km.oN,Km.P2,mZ,FH]) J0
 .clear J0 S0;intro c cs al s w1 hJ;rcases hJ.zA with⟨rfl,rfl⟩|⟨rfl,rfl⟩
  .refine D4 rfl (λK hK=>?_);simp only[Km.oN,Km.P2,FH];go_simp;obtain⟨E1,hR⟩:=hJ.at1;obtain⟨Ou,p1,s1⟩:=hR.px;refine(N9 ws _ g.xb r Ou Ae _ p1 s1 (λh=>h.1 rfl) Hz.out).mono ?_;intro e w2 he;cases hf:cN ws with
   |none=>
    rw[hf] at he;obtain⟨⟨fb,rfl,hb⟩,hm⟩:=he;rw[Cb (by rw[LX Hk.out];unfold Kd;rw[hf])];exact maN
   |some p=>
    obtain⟨n,l1⟩:=p;rw[hf] at he;have h2:=hJ.Adg (v:= qA n) (by unfold sP;rw[hf];rfl) (λE hE=>(hE.Eb he).2);exact mbG
  .refine D4 rfl (λK hK=>?_);simp only[Km.oN,Km.P2,FH];go_simp;obtain⟨E1,l1,hR,TP⟩:=hJ.at2;obtain⟨n,hn,hv⟩:=L2 TP;obtain⟨Ou,p1,s1⟩:=hR.px;refine(Kh mb l1 _ g.xb r Ou Ae _ p1 s1 (λh=>h.1 rfl) (λq hq=>Hz.out q (MJ hn q hq)) (Hg.out.mod hR.mod (λb hb hm=>by rw[GE] at hm;rw[hm] at hb;exact HX.out hb)) HX.out).mono ?_;intro e w2 he;cases hf:ES l1 with
   |none=>
    rw[hf] at he;obtain⟨⟨fb,rfl,hb⟩,hm⟩:=he;rw[Cb (by rw[LX Hk.out];unfold Kd;rw[hn];simp only[];rw[hf])];exact maN
   |some p=>
    obtain⟨a,l2⟩:=p;rw[hf] at he;have h2:=hJ.Adf (v:=a.val) TP (by unfold WJ;rw[hf];rfl) (λE hE=>(hE.Eb he).2);exact mbG
 .clear J0 S0;intro cs al i s w1 hi hJ;have Pv:=hJ.sub i hi;simp only[Jl,QV,or_false] at Pv;rcases Pv with rfl|rfl|rfl
  .refine D4 rfl (λK hK=>?_);simp only[Km.oN,Km.P2,FH];go_simp;have h2:=hJ.a1 Do;exact mbg
  .refine D4 rfl (λK hK=>?_);simp only[Km.oN,Km.P2,FH];go_simp;have h2:=hJ.a2 Do;exact mbg
  .refine D4 rfl (λK hK=>?_);simp only[Km.oN,Km.P2,FH];go_simp;have h2:=hJ.a3 Do;exact mbg
 clear J0 S0;intro s w1 hJ;obtain⟨E1,l,l1,b1,b2,b3,R1,hM,TP,Zx,e1,e2,e3,m1,m2,m3,X7,gw,dQ⟩:=hJ.done;obtain⟨v1,v2,q1,q2,q3⟩:=s;simp only at TP Zx e1 e2 e3;subst e1;subst e2;subst e3;obtain⟨n,hn,rfl⟩:=L2 TP;obtain⟨a,ha,rfl⟩:=Yf Zx;clear hJ TP Zx;simp only[Km.oN,Km.P2,mZ,FH];have n1:=R1.ne (hM _ MX) m1 (by intro h;injection h with _ h;exact Jk h Do);have n2:=R1.ne (hM _ MX) m2 (by intro h;injection h with _ h;exact Jk h Do);have n3:=R1.ne (hM _ MX) m3 (by intro h;injection h with _ h;exact Jk h Do);have LC:a.val= qD #[qA a.name,iI a.v]:=rfl;simp only[LC];clear LC;have mX:=hM _ MX.out;have c1:=R1.cell m1;have f1:=R1.free m1;refine AI rfl (λK hK=>?_);go_simp;clear c1 f1;obtain⟨E2,R2,m1',k2⟩:=R1.O4 m1 0 (qA n);replace mX:=k2 _ mX n1;replace m2:=k2 _ m2 (Ne.symm X7);replace m3:=k2 _ m3 (Ne.symm gw);refine hK _ _ (λ_=>R2.cell mX 0) ?_;clear hK;have c2:=R2.cell m2;have f2:=R2.free m2;refine AI rfl (λK hK=>?_);go_simp;clear c2 f2;obtain⟨E3,R3,m2',k3⟩:=R2.O4 m2 0 (qA a.name);obtain⟨E4,R4,m2'',k4⟩:=R3.O4 m2' 1 (iI a.v);replace mX:=k4 _ (k3 _ mX n2) n2;replace m1':=k4 _ (k3 _ m1' X7) X7;replace m3:=k4 _ (k3 _ m3 (Ne.symm dQ)) (Ne.symm dQ);refine hK _ _ (λ_=>R4.cell mX 0) ?_;clear hK;have c3:=R4.cell m3;have f3:=R4.free m3;refine AI rfl (λK hK=>?_);go_simp;clear c3 f3;obtain⟨E5,R5,m3',k5⟩:=R4.O4 m3 0 (qA ⟨#[]⟩);replace mX:=k5 _ mX n3;replace m1':=k5 _ m1' gw;replace m2'':=k5 _ m2'' dQ;refine hK _ _ (λh=>Jk rfl h) ?_;clear hK;simp only[BN];generalize (World.setCell (World.setCell (World.setCell (World.setCell w1 ⟨b1,0,Z⟩ (qA n)) ⟨b2,0,Z⟩ (qA a.name)) ⟨b2,1,Z⟩ (iI a.v)) ⟨b3,0,Z⟩ (qA ⟨#[]⟩))=w4 at R5⊢;have R:=D R5;replace MX:=D mX;have MA:=D m1';have MB:=D m2'';have Hn:=D hn;have Ha:=D ha;have MO:=D m3';have D13:=D gw;have D23:=D dQ;have N3:=D n3;clear R1 R2 R3 R4 R5 k3 k5 m2' m3' n3 hM m1 m1' m2 m2'' m3 mX k2 k4 hn ha n1 n2 X7 gw dQ R0;cases l with
 |nil=>
  obtain⟨Ou,p1,s1⟩:=R.px;obtain⟨sp,sc,rfl,_,_⟩:=s1.L9;have x0:w4.cell? ⟨g.xb,0,Z⟩=U (m9 sp 0 sc):=p1.cell 0;have xl0:=p1.lt;obtain⟨E6,R6,mC,more6⟩:=R.fJ (qG #[qA ⟨#[]⟩,iI 0] 230);replace R:=D R6;have MC:=D mC;replace MX:=D (more6 _ MX);replace MA:=D (more6 _ MA);replace MB:=D (more6 _ MB);replace MO:=D (more6 _ MO);clear p1 s1 R6 mC more6;obtain⟨eO,p2,s2⟩:=R.px;have cb:=R.cell MX 0;have No:=D (DH [] _ g.xb r eO Ae _ p2 s2);clear p2 s2;go_wp2_with fail;refine No.mono ?_;intro e w3 he;clear cb x0 xl0;obtain⟨rfl,R3⟩:=R.Eb he;have Hr:=D (FB (x:=x) (by rw[LX Hk.out];unfold Kd;rw[Hn.out];simp only[];rw[Ha.out]));rcases H.out with⟨hS,rfl⟩|⟨hN,hP⟩;rotate_left
  .obtain⟨wvq,p3,_⟩:=R3.px;have x5:=(p3.cell 5).trans (JM U hN.o);have x1:w3.cell? ⟨g.xb,1,Z⟩=U (iI Ae):=p3.cell 1;have cb:=R3.cell MX 0;exact mai
  obtain⟨Ns,S3,OB⟩:=R3.GM hS;have Np:=D hS.D1.ne;clear hS;obtain⟨wvq,p3,_⟩:=R3.px;have x5:w3.cell? ⟨g.xb,5,Z⟩=U (m9 (U ⟨g.ob,0,Z⟩) (J g.fr+1) g.oc):=p3.cell 5;have cb:=R3.cell MX 0;have IN:((J g.fr:Int)+1==0)=I:=by rw[Jh];omega
  have GL:=D S3;have Ge:=D OB;clear S3 OB p3 he R3 R No;have Hp:=D (Hr.trans (Ip GL.D1 (λh=>by cases h) (λh=>by rw[Hk.out] at h;exact Jk h Do)));clear Hr;go_wp2_with fail;refine(lL n ⟨#[]⟩ a .zero _ g x Ns Ae _ GL Hb.out _ _ _ _ _ (IR _ MO) (IR _ MX) (IR _ MB) (IR _ MC) (IR _ MA)).mono ?_;intro e w4 he;clear cb x5 IN;unfold RU at he;cases BZ:x.finish (.set n a ⟨#[]⟩ .zero) with
  |error c=>
   exact maj
  |ok y=>
   exact mab
 |cons o l=>
  obtain⟨Ou,p1,s1⟩:=R.px;obtain⟨sp,sc,rfl,_,_⟩:=s1.L9;have x0:w4.cell? ⟨g.xb,0,Z⟩=U (m9 sp (J l+1) sc):=(p1.cell 0).trans (by simp[PV.cells,Bq]);have xl0:=p1.lt;have cb0:=R.cell MX 0;have cl0:=R.blt MX.out;have Le:0<(J l:Int)+1:=Y
  obtain⟨bc,Afh⟩:∃b,b=w4.heap.size:=⟨_,rfl⟩;have ne4:∀q:Nat×Obj,q∈_->q.1≠bc:=λq hq e=>by
   have:=R.blt hq;rw[e,Afh] at this;exact RK _ this
  have HX1:=D (ne4 _ MX);have HA1:=D (ne4 _ MA);have Sz:=D (ne4 _ MB);have Uf:=D (ne4 _ MO);clear ne4;obtain⟨E6,R6,mC,more6⟩:=R.fJ (qG #[qA ⟨#[]⟩,iI 0] 230);rw[<-Afh] at mC;have HBW:=D Afh;have HR6:=D R6;have MC:=D mC;replace MX:=D (more6 _ MX);replace MA:=D (more6 _ MA);replace MB:=D (more6 _ MB);replace MO:=D (more6 _ MO);clear p1 s1 R6 mC more6 R Afh;go_upto_region 9 with fail
  clear x0 xl0 Le;rw[<-HBW.out];have S6:=HR6.quiet (Az.refl [] _).drew;have G6:=(Hg.out.mod S6.mod (λb hb hm=>by rw[GE] at hm;rw[hm] at hb;exact HX.out hb));obtain⟨om,hom,Gq⟩:=G6.opm;refine AF [2] 4 (λW=>W.cell? ⟨1,0,Z⟩=U (.map (U mb))/\W.cell? ⟨w.heap.size,0,Z⟩=U (iJ g.xb)/\W.heap[mb]?=U om) ⟨G6.Bf,S6.cell MX 0,hom⟩ ?_;refine Ds ?_;intro K hK;obtain⟨wv6,p6,s6⟩:=S6.px;refine(Ki (o::l) _ g.xb r wv6 Ae _ p6 s6 (λh=>h.1 rfl)).mono ?_;intro e w5 he;obtain⟨rfl,wv7,h71,h72,h73⟩:=he;obtain⟨_,R7⟩:=S6.Eb (v:= qA o) (l':=l) ⟨rfl,wv7,h71,h72,h73⟩;have G7:=(Hg.out.mod R7.mod (λb hb hm=>by rw[GE] at hm;rw[hm] at hb;exact HX.out hb));have Ps:mb∉[g.xb]:=λh=>by rw[GE] at h;exact HX.out (h▸by simp[dz])
  refine hK _ w5 (λ_=>⟨G7.Bf,R7.cell MX 0,h73.heap hom Ps⟩) ?_;clear hK;repeat
   refine I9 (v:= ?_) rfl rfl rfl (λW hW=>?_) ?_;rotate_left
   .obtain⟨s1,s2,s3⟩:=hW;have hl:=Gq W s3 o;go_simp;rfl
   simp only[FH]
  have c3:=R7.cell MO.out;have f3:=R7.free MO.out;refine AI rfl (λK hK=>?_);go_simp;refine hK _ _ (λh=>Jk rfl h) ?_;clear hK c3 f3;simp only[BN];obtain⟨E8,R8,mO,k8⟩:=R7.O4 MO 0 (qA ((vF o).getD ⟨#[]⟩));have AmF:=D13.out;replace MX:=D (k8 _ MX N3);replace MA:=D (k8 _ MA D13);replace MB:=D (k8 _ MB D23);replace MC:=D (k8 _ MC (Ne.symm Uf));generalize World.setCell w5 ⟨b3,0,Z⟩ (qA ((vF o).getD ⟨#[]⟩))=w6 at R8⊢;replace MO:=D mO;have R:=D R8;clear R8 mO k8 R7 h71 h72 h73 hom Gq G7 G6 S6 HR6 p6 s6 AmF Ps;have c8:=R.cell MO.out;have cb:=R.cell MX 0;cases IV:vF o with
  |none=>
   rw[IV] at c8;have hr:=D (Cb (x:=x) (by rw[LX Hk.out];unfold Kd;rw[Hn.out];simp only[];rw[Ha.out];simp only[];rw[IV]));clear IV;obtain⟨Ou,p1,s1⟩:=R.px;have Hnn:=D (EY _ g.xb r _ Ae p1);clear p1 s1;simp only[QW] at c8;go_wp2_with fail;refine Hnn.mono ?_;rintro e w7 ⟨⟨fb,rfl,hb⟩,hm⟩;go_wp2;rw[hr.out];exact⟨rfl,AZ ⟨⟨fb,rfl,hb⟩,R.mod.Aj hm⟩⟩
  |some op=>
   rw[IV] at c8 MO;have Al8:=Zm (zB op (Aa7 IV));have Hop:=D IV;clear IV;simp only[Qr] at c8 MO;obtain⟨Ou,p1,s1⟩:=R.px;have mQ:=D (Kh mb l _ g.xb r Ou Ae _ p1 s1 (λh=>h.1 rfl) (λq hq=>Hz.out q (MJ Hn q (bM Ha q (Id _ hq)))) (Hg.out.mod R.mod (λb hb hm=>by rw[GE] at hm;rw[hm] at hb;exact HX.out hb)) HX.out);clear p1 s1;go_wp2_with fail;refine mQ.mono ?_;intro e w7 he;clear cb mQ c8 Al8;cases hw:ES l with
   |none=>
    rw[hw] at he;obtain⟨⟨fb,rfl,hb⟩,hm⟩:=he;have hr:=D (Cb (x:=x) (by rw[LX Hk.out];unfold Kd;rw[Hn.out];simp only[];rw[Ha.out];simp only[];rw[Hop.out];simp only[];rw[hw]));clear hw;exact mam
   |some p=>
    obtain⟨c,l⟩:=p;rw[hw] at he;obtain⟨rfl,R1⟩:=R.Eb he;have LC:c.val= qD #[qA c.name,iI c.v]:=rfl;simp only[LC];have c9:=R1.cell MC.out;have f9:=R1.free MC.out;obtain⟨E9,R9,mC,k9⟩:=R1.O4 MC 0 (qA c.name);obtain⟨Ea,Ra,mCa,ka⟩:=R9.O4 mC 1 (iI c.v);replace MX:=D (ka _ (k9 _ MX HX1) HX1);replace MA:=D (ka _ (k9 _ MA HA1) HA1);replace MB:=D (ka _ (k9 _ MB Sz) Sz);replace MO:=D (ka _ (k9 _ MO Uf) Uf);replace MC:=D mCa;have Hw:=D hw;clear R;have R:=D Ra;clear R1 R9 mC k9 Ra mCa ka hw he LC;obtain⟨eO,p2,s2⟩:=R.px;have cb:=R.cell MX 0;have No:=D (DH l _ g.xb r eO Ae _ p2 s2);clear p2 s2;go_wp2_with fail;refine No.mono ?_;intro e w3 he;clear cb c9 f9;cases l with
    |cons b l2=>
     obtain⟨⟨fb,rfl,hb⟩,hm⟩:=he;have hr:=D (Cb (x:=x) (by rw[LX Hk.out];unfold Kd;rw[Hn.out];simp only[];rw[Ha.out];simp only[];rw[Hop.out];simp only[];rw[Hw.out];rfl));exact mam
    |nil=>
     obtain⟨rfl,R3⟩:=R.Eb he;have Hr:=D (FB (x:=x) (by rw[LX Hk.out];unfold Kd;rw[Hn.out];simp only[];rw[Ha.out];simp only[];rw[Hop.out];simp only[];rw[Hw.out];rfl));rcases H.out with⟨hS,rfl⟩|⟨hN,hP⟩;rotate_left
     .obtain⟨wvq,p3,_⟩:=R3.px;have x5:=(p3.cell 5).trans (JM U hN.o);have x1:w3.cell? ⟨g.xb,1,Z⟩=U (iI Ae):=p3.cell 1;have cb:=R3.cell MX 0;exact mai
     obtain⟨Ns,S3,OB⟩:=R3.GM hS;have Np:=D hS.D1.ne;clear hS;obtain⟨wvq,p3,_⟩:=R3.px;have x5:w3.cell? ⟨g.xb,5,Z⟩=U (m9 (U ⟨g.ob,0,Z⟩) (J g.fr+1) g.oc):=p3.cell 5;have cb:=R3.cell MX 0;have IN:((J g.fr:Int)+1==0)=I:=by rw[Jh];omega
     have GL:=D S3;have Ge:=D OB;clear S3 OB p3 he R3 R No;have Hp:=D (Hr.trans (Ip GL.D1 (λh=>by cases h) (λh=>by rw[Hk.out] at h;exact Jk h Do)));clear Hr;go_wp2_with fail;refine(lL n op a c _ g x Ns Ae _ GL Hb.out _ _ _ _ _ (IR _ MO) (IR _ MX) (IR _ MB) (IR _ MC) (IR _ MA)).mono ?_;intro e w4 he;clear cb x5 IN;unfold RU at he;cases BZ:x.finish (.set n a op c) with
     |error c=>
      exact maj
     |ok y=>
      exact mab
theorem Aim {r:PV} (k:gP nm ws mb w g x wv Ae F r) (h0:¬bs nm=Fw) (h1:¬bs nm=DQ) (h2:¬bs nm=EF) (h3:¬bs nm=Iz) (h4:¬bs nm=A8) (h5:¬bs nm=Uj) (h6:¬bs nm=EW):Z8 nm ws w g x wv Ae F:=by
 obtain⟨q0,q1,q2,q3,q4,q5,q6⟩:=Fm (x:=nm) rfl I I I I I I I (by simp[h0,h1,h2,h3,h4,h5,h6]);have hr:=D (Cb (x:=x) (w:=nm) (r:=ws) (by unfold IF;rw[In h0,In h1,In h2,In h3,In h4,In h5,In h6]));have R0:=D ((Rd.start (r:=r) k.h.px k.hs).vM (qG #[iJ g.xb] 143));obtain⟨Ou,p1,_⟩:=R0.px;have Hn:=D (EY _ g.xb r _ Ae p1);clear k p1 h0 h1 h2 h3 h4 h5 h6;unfold Z8;go_enter func101,ntmps101;go_wp2_with fail;refine Hn.mono ?_;rintro e w1 ⟨⟨fb,rfl,hb⟩,hm⟩;go_wp2;rw[hr.out];exact⟨rfl,AZ ⟨⟨fb,rfl,hb⟩,R0.mod.Aj hm⟩⟩
theorem ZD (nm:ByteArray) (ws:Ws) (mb:Nat) (w:World) (g:FG) (x:qH) (wv:Value) (Ae:Int) (F:List (Nat×Obj)) (r:PV) (h:PSt F g x wv Ae w r) (hs:Sl w (λb=>b≠g.xb) wv (Bq ws)) (hz:∀a,a∈ws->a.size<=1000000) (hg:Gl mb w) (aq:g.xb∉dz mb) (hb:np g) (Aw:0<=x.Ah/\x.Ah<=1000):
  Calls prog 101 #[iJ g.xb,qA nm] w (AdD (x.Bd nm ws) F g x wv Ae w):=by
 have k:gP nm ws mb w g x wv Ae F r:=⟨h,hs,hz,hg,aq,hb,Aw⟩;show Z8 nm ws w g x wv Ae F;by_cases h0:bs nm=Fw
 .exact Afl k h0
 by_cases h1:bs nm=DQ
 .exact Afo k h1
 by_cases h2:bs nm=EF
 .exact Afm k h2
 by_cases h3:bs nm=Iz
 .exact Afn k h3
 by_cases h4:bs nm=A8
 .exact pS k h4
 by_cases h5:bs nm=Uj
 .exact Ain k h5
 by_cases h6:bs nm=EW
 .exact AcG k h6
 exact Aim k h0 h1 h2 h3 h4 h5 h6
def FG.Ui (g:FG) (x:qH) (wv:Value) (Ae:Int):List Ob:=if x.Aa=[] then g.Aes x wv Ae else g.Ay x wv Ae
structure PA (F:List (Nat×Obj)) (g:FG) (x:qH) (wv:Value) (Ae:Int) (w:World):Prop where
 Ak:Aq w (g.Ui x wv Ae)
 AJ:AY w (g.Ui x wv Ae) F
 D1:x.Aa≠[]->aa F g x
 kz:x.Aa=[]->x.Ad=[]/\x.AA=[]/\x.Ah=0
def FG.pv0 (g:FG):PV:=⟨iJ g.pb,.map (U g.sb),.map Z,m9 Z 0 0,iI 0⟩
def FG.vu (g:FG) (x:qH):PV:=if x.Aa=[] then g.pv0 else g.pv x
theorem GQ (h:x.Aa=[]):g.Ui x wv Ae=g.Aes x wv Ae:=Jb h
theorem F2 (h:x.Aa≠[]):g.Ui x wv Ae=g.Ay x wv Ae:=In h
theorem PA.st (h:PA F g x wv Ae w) (hx:x.Aa≠[]):SR F g x wv Ae w:=
 ⟨F2 hx▸h.Ak,F2 (g:=g) (wv:=wv) (Ae:=Ae) hx▸h.AJ,h.D1 hx⟩
theorem PA.of (h:SR F g x wv Ae w):PA F g x wv Ae w:=
 ⟨by rw[F2 h.D1.ne];exact h.Ak,by rw[F2 h.D1.ne];exact h.AJ,λ_=>h.D1,λe=>Jk e h.D1.ne⟩
theorem PA.pst (h:PA F g x wv Ae w):PSt F g x wv Ae w (g.vu x):=by
 by_cases hx:x.Aa=[]
 .refine .inr ⟨⟨hx,by unfold FG.vu;rw[Jb hx];rfl⟩,?_⟩;have:=h.Ak;rw[GQ hx] at this;unfold FG.vu;rw[Jb hx];exact this.Ao (i:=0) rfl
 .refine .inl ⟨h.st hx,?_⟩;unfold FG.vu;rw[In hx]
def eL (res:Except Int qH) (F:List (Nat×Obj)) (g:FG) (x:qH) (wv:Value) (Ae:Int) (w:World) (e:Ending) (w':World):Prop:=match res with
 |.error c=>I8 (PM g x wv Ae) c Ae w e w'
 |.ok y=>e= qF (qC #[])/\∃g' F' wv',g'.xb=g.xb/\gL F F'/\Ai w (g.Ui x wv Ae) w' (g'.Ui y wv' Ae)/\PA F' g' y wv' Ae w'
theorem Afp {res:Except Int qH} {e:Ending} {w':World} (hx:x.Aa≠[]) (h:AdD res F g x wv Ae w e w'):eL res F g x wv Ae w e w':=by
 cases res with
 |error c=>exact h
 |ok y=>
  obtain⟨h1,g',F',wv',h2,h3,h4,h5⟩:=h;refine⟨h1,g',F',wv',h2,h3,?_,.of h5⟩;rw[F2 hx,F2 h5.D1.ne];exact h4
theorem Rd.Gb {E:List (Nat×Obj)} (h0:PA F g x wv Ae w0) (h:Rd w0 g.xb (g.vu x) Ae E l w):
  ∃wv',PA F g x wv' Ae w/\Ai w0 (g.Ui x wv Ae) w (g.Ui x wv' Ae):=by
 obtain⟨wv',h1,_⟩:=h.px;have st:Ai w0 (g.Ui x wv Ae) w (g.Ui x wv' Ae):=by
  have ho:=h0.Ak;by_cases hx:x.Aa=[]
  .unfold FG.vu at h1;rw[Jb hx] at h1;rw[GQ hx] at ho;rw[GQ hx,GQ hx];exact mbi
  .unfold FG.vu at h1;rw[In hx] at h1;rw[F2 hx] at ho;rw[F2 hx,F2 hx];exact mbi
 exact⟨wv',⟨st.Ak,h0.AJ.step st,h0.D1,h0.kz⟩,st⟩
theorem iO (l:List mH) (s:mH):FV (l++[s])=FV l++[(s.name,qD #[iI s.first,iI s.size])]:=by simp[FV]
theorem AgP {l:List mH} (h:W.heap[b]?=U (IZ (FV l))) (n:ByteArray) (hp:(l.find? λs=>decide (bs s.name=bs n))=Z) (f z:Int):(Instr.mapUpdate 147 (.map (U b)) (qA n) (qD #[iI f,iI z])).run prog W=.ok () {W with heap:=W.heap.setIfInBounds b (IZ (FV (l++[⟨n,f,z⟩])))}:=by
 rw[iO];exact My (k:=9) (e:=200) Fd Fd h n _ (by rw[sS,hp];rfl)
theorem Yi {l:List mH} (h:Aq W L) (hi:L[i]?=U (.W2 b (IZ (FV l)))) (n:ByteArray) (hp:(l.find? λs=>decide (bs s.name=bs n))=Z) (f z:Int):
  ∃w5,(Instr.mapUpdate 147 (.map (U b)) (qA n) (qD #[iI f,iI z])).run prog W=.ok () w5/\Ai W L w5 (L.set i (.W2 b (IZ (FV (l++[⟨n,f,z⟩]))))):=
 ⟨_,AgP (h.get hi) n hp f z,h.Aar hi _⟩
theorem nZ (h:cN r=Z):x.Ec r=.error 2:=by unfold qH.Ec;rw[h]
theorem Yj {BE:Int} (h:Il BE l=U (v,r)):1<=v/\v<=BE:=by
 unfold Il at h;split at h
 .cases h
 .split at h
  .rename_i hc;cases h;exact hc.2
  .cases h
def qH.FK (x:qH) (n:ByteArray) (z:Int):Except Int qH:=
 if x.Aa≠[] then .error 3 else if (x.Wj n).isSome then .error 4 else .ok {x with Ax:=x.Ax++[⟨n,x.cells,z⟩],cells:=x.cells+z}
theorem Iu {w:ByteArray} (h:bs w=AR):x.row (w::r)=x.Ec r:=by
 show(if _ then _ else _)=_;rw[Jb h]
theorem ZE (nm:ByteArray) (ws:Ws) (mb:Nat) (w:World) (g:FG) (x:qH) (wv:Value) (Ae:Int) (F:List (Nat×Obj)) (h:PA F g x wv Ae w) (hs:Sl w (λb=>b≠g.xb) wv (Bq (nm::ws))) (hz:∀a,a∈ws->a.size<=1000000) (hg:Gl mb w) (aq:g.xb∉dz mb) (B8:0<=x.cells/\x.cells<=100000) (AjR:J g.tv<=3000) (hk:bs nm=AR):
  Calls prog 74 #[iJ g.xb] w (eL (x.row (nm::ws)) F g x wv Ae w):=by
 have R00:=D (Rd.start h.pst.px hs);have H:=D h;have Hk:=D hk;have Hz:=D hz;have Hg:=D hg;have HX:=D aq;have q0:=CZ hk;unfold AR at q0;obtain⟨wv0,p0,s0⟩:=R00.px;have Hn:=D (Ki (nm::ws) _ g.xb _ wv0 Ae _ p0 s0 (λh=>h.1 rfl));clear h hs hk p0 s0;clear hz hg aq;go_enter func74,ntmps74;go_wp2_with fail;refine Hn.mono ?_;intro e w1 he;obtain⟨rfl,R1⟩:=R00.Eb (v:= qA nm) (l':=ws) he;have R:=D R1;clear Hn he R1 R00;obtain⟨Ou,p1,s1⟩:=R.px;have Hnm:=D (N9 ws _ g.xb _ Ou Ae _ p1 s1 (λh=>h.1 rfl) Hz);clear p1 s1;go_wp2_with fail;refine Hnm.mono ?_;intro e w2 he;clear Hnm;cases hn:cN ws with
 |none=>
  rw[hn] at he;obtain⟨⟨fb,rfl,hb⟩,hm⟩:=he;have hr:=D (show x.row (nm::ws)=.error 2 by rw[Iu Hk.out];exact nZ hn);clear hn;exact mam
 |some p=>
  obtain⟨n,l⟩:=p;rw[hn] at he;obtain⟨rfl,R2⟩:=R.Eb he;have Hn:=D hn;clear R he;have R:=D R2;clear R2 hn;obtain⟨Ou,p1,s1⟩:=R.px;obtain⟨sp,sc,rfl,_,_⟩:=s1.L9;have xl0:g.xb<w2.heap.size:=p1.lt;cases l with
  |nil=>
   have x0:w2.cell? ⟨g.xb,0,Z⟩=U (m9 sp 0 sc):=p1.cell 0;have No:=D (DH [] _ g.xb _ _ Ae _ p1 s1);clear p1 s1;go_wp2_with fail;refine No.mono ?_;intro e w3 he;clear x0 xl0 No;obtain⟨rfl,R3⟩:=R.Eb he;have mT:=D R3.mod;have Hr:=D (show x.row (nm::ws)=x.FK n 1 by rw[Iu Hk.out];unfold qH.Ec;rw[Hn.out];rfl);obtain⟨Ns,hP,OB⟩:=R3.Gb H.out;by_cases hx:x.Aa=[]
   .have ho:=hP.Ak;rw[GQ hx] at ho;obtain⟨hc,hf,hlt,Tb,hpf,fZ,GU⟩:=ZL ho;have Gq:=XV GU n;have Ho:=D ho;have HP:=D hP;have GK:=D OB;have Hx:=D hx;have Hsh:=D GU;have AlP:True->wrap64 (x.cells+1)=x.cells+1:=λ_=>IntWalk.wrap64_in _ Y
    clear ho hP OB GU R3 he;cases We:x.Ax.find? (λs=>decide (bs s.name=bs n)) with
    |some s=>
     rw[We] at Gq;have hr:=D (Hr.trans (show x.FK n 1=.error 4 by unfold qH.FK;rw[In (λh=>h Hx.out),Jb (by show(x.Ax.find? _).isSome=V;rw[We];rfl)]));exact maK
    |none=>
     rw[We] at Gq;have hr:=D (Hr.trans (show x.FK n 1=.ok {x with Ax:=x.Ax++[⟨n,x.cells,1⟩],cells:=x.cells+1} by unfold qH.FK;rw[In (λh=>h Hx.out),In (by show¬(x.Ax.find? _).isSome=V;rw[We];simp)]));simp only[jG,QW,Qt] at Gq;have Hfd:=D We;clear We Hr hx;go_upto_region 13 with fail
     refine AF [] 14 (λW=>W.cell? ⟨g.xb,3,Z⟩=U (.map (U g.sb))/\W.cell? ⟨g.xb,2,Z⟩=U (iJ g.pb)/\W.cell? ⟨g.pb,1,Z⟩=U (iI x.cells)) ⟨by go_simp,by go_simp,by go_simp⟩ ?_;refine Od ?_;refine AI rfl (λK hK=>?_);have t1:=Ai.alloc Ho (qG #[iI 0,iI 0] 200);have t2:=t1.trans (Ai.drew t1.Ak);obtain⟨w5,hup,t3'⟩:=Yi t2.Ak (i:=2) rfl n Hfd x.cells 1;go_simp;refine hK _ _ (λh=>Jk rfl h) ?_;clear hK hup;simp only[BN];have t3:=t2.trans t3';clear t1 t2 t3' Gq hc hf hlt Tb hpf fZ;have SF:=t3.Ak.Ao (i:=0) rfl;have Zp:=t3.Ak.Ao (i:=1) rfl;have hc:=SF.cell;have hlt:=SF.lt;have Tb:=Zp.cell;have hpf:=Zp.free;have hpl:=Zp.lt;have T3:=D t3;clear SF Zp t3;go_wp2
     go_end0
     rw[hr.out];have t4:=T3.trans (T3.Ak.set (i:=1) rfl 1 (iI (x.cells+1)));have hy:({x with Ax:=x.Ax++[⟨n,x.cells,1⟩],cells:=x.cells+1}:qH).Aa=[]:=Hx.out;have t5:Ai w3 (g.Ui x Ns Ae) (World.setCell w5 ⟨g.pb,1,Z⟩ (iI (x.cells+1))) (g.Ui {x with Ax:=x.Ax++[⟨n,x.cells,1⟩],cells:=x.cells+1} Ns Ae):=by
      rw[GQ Hx.out,GQ hy];exact t4
     exact⟨rfl,g,F,Ns,rfl,λ_ h=>h,GK.trans t5,⟨t5.Ak,HP.AJ.step t5,λh=>Jk hy h,λ_=>HP.kz Hx⟩⟩
   .have hS:=hP.st hx;obtain⟨hc,hf,hlt,Tb,hpf,fZ,GU,TO⟩:=Iv hS.Ak;have Rf:(0:Int)<(J g.tv:Int)+1:=Y
    have hr:=D (Hr.trans (show x.FK n 1=.error 3 by unfold qH.FK;rw[Jb hx]));clear Hr hx hS hP OB R3 he GU TO;exact maw
  |cons a l=>
   have x0:w2.cell? ⟨g.xb,0,Z⟩=U (m9 sp (J l+1) sc):=(p1.cell 0).trans (by simp[PV.cells,Bq]);have Le:(0:Int)<(J l:Int)+1:=Y
   have KX:0<J l+1:=Y
   have Hup:=D (dC 6 mb (a::l) _ g.xb _ _ Ae _ p1 s1 (λh=>h.1 rfl) (λq hq=>Hz.out q (MJ Hn q hq)) (Hg.mod R.mod (λb hb hm=>by rw[GE] at hm;rw[hm] at hb;exact HX.out hb)) HX Do);clear p1 s1;go_wp2_with fail;refine Hup.mono ?_;intro e w3 he;clear x0 xl0 Hup Le KX;cases hu:Il 6 (a::l) with
   |none=>
    rw[hu] at he;obtain⟨⟨fb,rfl,hb⟩,hm⟩:=he;have hr:=D (show x.row (nm::ws)=.error 2 by rw[Iu Hk.out];unfold qH.Ec;rw[Hn.out];simp only[];rw[hu]);clear hu;exact mam
   |some p=>
    obtain⟨z,l2⟩:=p;rw[hu] at he;obtain⟨rfl,R2⟩:=R.Eb he;have hzr:=Yj hu;have Hu:=D hu;clear R he hu;have R:=D R2;clear R2;obtain⟨eO,p2,s2⟩:=R.px;have No:=D (DH l2 _ g.xb _ _ Ae _ p2 s2);clear p2 s2;go_wp2_with fail;refine No.mono ?_;intro e w3 he;clear No;cases l2 with
    |cons b l3=>
     obtain⟨⟨fb,rfl,hb⟩,hm⟩:=he;have hr:=D (show x.row (nm::ws)=.error 2 by rw[Iu Hk.out];unfold qH.Ec;rw[Hn.out];simp only[];rw[Hu.out]);exact mam
    |nil=>
     obtain⟨rfl,R3⟩:=R.Eb he;have mT:=D R3.mod;have Hr:=D (show x.row (nm::ws)=x.FK n z by rw[Iu Hk.out];unfold qH.Ec;rw[Hn.out];simp only[];rw[Hu.out];rfl);obtain⟨Ns,hP,OB⟩:=R3.Gb H.out;by_cases hx:x.Aa=[]
     .have ho:=hP.Ak;rw[GQ hx] at ho;obtain⟨hc,hf,hlt,Tb,hpf,fZ,GU⟩:=ZL ho;have Gq:=XV GU n;have Ho:=D ho;have HP:=D hP;have GK:=D OB;have Hx:=D hx;have Hsh:=D GU;have AlP:True->wrap64 (x.cells+z)=x.cells+z:=λ_=>IntWalk.wrap64_in _ Y
      clear ho hP OB GU R3 he;cases We:x.Ax.find? (λs=>decide (bs s.name=bs n)) with
      |some s=>
       rw[We] at Gq;have hr:=D (Hr.trans (show x.FK n z=.error 4 by unfold qH.FK;rw[In (λh=>h Hx.out),Jb (by show(x.Ax.find? _).isSome=V;rw[We];rfl)]));exact maK
      |none=>
       rw[We] at Gq;have hr:=D (Hr.trans (show x.FK n z=.ok {x with Ax:=x.Ax++[⟨n,x.cells,z⟩],cells:=x.cells+z} by unfold qH.FK;rw[In (λh=>h Hx.out),In (by show¬(x.Ax.find? _).isSome=V;rw[We];simp)]));simp only[jG,QW,Qt] at Gq;have Hfd:=D We;clear We Hr hx;go_upto_region 13 with fail
       refine AF [] 14 (λW=>W.cell? ⟨g.xb,3,Z⟩=U (.map (U g.sb))/\W.cell? ⟨g.xb,2,Z⟩=U (iJ g.pb)/\W.cell? ⟨g.pb,1,Z⟩=U (iI x.cells)) ⟨by go_simp,by go_simp,by go_simp⟩ ?_;refine Od ?_;refine AI rfl (λK hK=>?_);have t1:=Ai.alloc Ho (qG #[iI 0,iI 0] 200);have t2:=t1.trans (Ai.drew t1.Ak);obtain⟨w5,hup,t3'⟩:=Yi t2.Ak (i:=2) rfl n Hfd x.cells z;go_simp;refine hK _ _ (λh=>Jk rfl h) ?_;clear hK hup;simp only[BN];have t3:=t2.trans t3';clear t1 t2 t3' Gq hc hf hlt Tb hpf fZ;have SF:=t3.Ak.Ao (i:=0) rfl;have Zp:=t3.Ak.Ao (i:=1) rfl;have hc:=SF.cell;have hlt:=SF.lt;have Tb:=Zp.cell;have hpf:=Zp.free;have hpl:=Zp.lt;have T3:=D t3;clear SF Zp t3;go_wp2
       go_end0
       rw[hr.out];have t4:=T3.trans (T3.Ak.set (i:=1) rfl 1 (iI (x.cells+z)));have hy:({x with Ax:=x.Ax++[⟨n,x.cells,z⟩],cells:=x.cells+z}:qH).Aa=[]:=Hx.out;have t5:Ai w3 (g.Ui x Ns Ae) (World.setCell w5 ⟨g.pb,1,Z⟩ (iI (x.cells+z))) (g.Ui {x with Ax:=x.Ax++[⟨n,x.cells,z⟩],cells:=x.cells+z} Ns Ae):=by
        rw[GQ Hx.out,GQ hy];exact t4
       exact⟨rfl,g,F,Ns,rfl,λ_ h=>h,GK.trans t5,⟨t5.Ak,HP.AJ.step t5,λh=>Jk hy h,λ_=>HP.kz Hx⟩⟩
     .have hS:=hP.st hx;obtain⟨hc,hf,hlt,Tb,hpf,fZ,GU,TO⟩:=Iv hS.Ak;have Rf:0<(J g.tv:Int)+1:=Y
      have hr:=D (Hr.trans (show x.FK n z=.error 3 by unfold qH.FK;rw[Jb hx]));clear Hr hx hS hP OB R3 he GU TO;exact maw
def tS (g:FG) (x:qH) (wv:Value) (Ae:Int) (lv ov sv:Value) (tp:Option Addr) (tc:Nat) (rows:List Value):List Ob:=
 [.Ao g.xb #[wv,iI Ae,iJ g.pb,.map (U g.sb),lv,ov,sv] 151,
  .Ao g.pb #[m9 tp (J rows) tc,iI x.cells] 146,
  .W2 g.sb (IZ (FV x.Ax)),
  .row (m9 tp (J rows) tc) 165 1 (J rows) rows]
structure Alv (F:List (Nat×Obj)) (g:FG) (x:qH) (wv:Value) (Ae:Int) (w:World) (lv ov sv:Value) (tp:Option Addr) (tc:Nat) (rows:List Value) (F':List (Nat×Obj)):Prop where
 Abv:gL F F'
 st:Ai w (g.Ui x wv Ae) w (tS g x wv Ae lv ov sv tp tc rows)
 AJ:AY w (tS g x wv Ae lv ov sv tp tc rows) F'
 ths:GZ F' x.Aa rows
theorem Ai.Wl {A C:List Ob} {b:Ob} (h:Aq w (A++b::C)):Ai w (A++b::C) w (A++C):=by
 have:=Ai.drop (B:=[b]) (by simpa using h);simpa using this
theorem tR (h:PA F g x wv Ae w) (ho:x.Ad=[]):∃lv ov sv tp tc rows F',Alv F g x wv Ae w lv ov sv tp tc rows F':=by
 by_cases hx:x.Aa=[]
 .have hw:=h.Ak;have hk:=h.AJ;rw[GQ hx] at hw hk;have t:=Ai.H9 (by rw[Jo];exact hw) 165 1;rw[Jo] at t;refine⟨.map Z,m9 Z 0 0,iI 0,Z,0,[],F,λ_ h=>h,?_,hk.step t,by rw[hx];rfl⟩;rw[GQ hx];exact t
 .obtain⟨hw,hk,hf⟩:=h.st hx;have OP:=Jm (by rw[<-hf.frs.len,ho];rfl);rw[OL g x wv Ae OP] at hw hk;have t1:Ai w (g.NF x wv Ae) w _:=Ai.Wl (A:=[_,_,_,_]) hw;have t2:=t1.trans (Ai.Wl t1.Ak);obtain⟨E,K,hr⟩:=Tt t2.Ak (hk.step t2);have t3:=t2.trans (Ai.Wl t2.Ak);obtain⟨⟨ts,t,e1,e2,e3⟩,_⟩:=hf;have el:(g.tv++[m9 g.c.p (J g.cs) g.c.c]).length=J g.tv+1:=EQ
  have e5:tS g x wv Ae (.map (U g.lb)) (m9 (U ⟨g.ob,0,Z⟩) (J g.fr+1) g.oc) (iI x.Ah) (U ⟨g.tb,0,Z⟩) g.tc (g.tv++[m9 g.c.p (J g.cs) g.c.c])=[.Ao g.xb #[wv,iI Ae,iJ g.pb,.map (U g.sb),.map (U g.lb),m9 (U ⟨g.ob,0,Z⟩) (J g.fr+1) g.oc,iI x.Ah] 151,
    .Ao g.pb #[m9 (U ⟨g.tb,0,Z⟩) (J g.tv+1) g.tc,iI x.cells] 146,
    .W2 g.sb (IZ (FV x.Ax)),
    .row (m9 (U ⟨g.tb,0,Z⟩) (J g.tv+1) g.tc) 165 1 (J g.tv+1) (g.tv++[m9 g.c.p (J g.cs) g.c.c])]:=by unfold tS;rw[el]
  refine⟨.map (U g.lb),m9 (U ⟨g.ob,0,Z⟩) (J g.fr+1) g.oc,iI x.Ah,U ⟨g.tb,0,Z⟩,g.tc,g.tv++[m9 g.c.p (J g.cs) g.c.c],E++F,λ_ h=>Jc _ h,?_,?_,?_⟩
  rotate_right
  .rw[e1];exact(e2.sub λ_ h=>Jc _ h).Ad8 hr (e3.sub λ_ h=>Jc _ h)
  .rw[F2 hx,e5,OL g x wv Ae OP];exact t3
  .rw[e5];exact K
theorem Adi {s:Nat} {c:Array Value} (hc:c.size=n*s) (hn:n<=maxLen) (h1:∀u,u∈c.toList->u.oneCell'=V) (h:Aq w (L++[.Ao b c T])):
  Ai w (L++[.Ao b c T]) w (L++[.row (m9 (U ⟨b,0,Z⟩) n n) T s n c.toList]):=by
 have k:=h.swap (i:=J L) (o':=.row (m9 (U ⟨b,0,Z⟩) n n) T s n c.toList) (o:=.Ao b c T) EQ (Az.refl _ _) ?_ (by simp[Ob.fp,Value.ownBlock]) (λx hx=> .inl (by simpa[Ob.fp,Value.ownBlock] using hx))
 .simpa using k
 .have hb:=h.Ao (i:=J L) (b:=b) (c:=c) (T:=T) EQ;refine⟨by simp[hc],.inr ⟨b,n,c,rfl,Jr _,hb,Jf _,hn,by simp[hc],by simp[hc,J6]⟩⟩
theorem AbY:(prog.info? 165).map (λi=>(i.zero,i.size,i.bytes))=U (U (m9 Z 0 0),1,24):=Fd
theorem M4 {w:ByteArray} (h:bs w=AE):x.row (w::r)=if r≠[] then .error 2 else if x.Ad≠[] then .error 3 else .ok {x with Aa:=x.Aa++[.nil],AA:=[],Ah:=0,Ad:=[]}:=by
 show(if _ then _ else _)=_;rw[In (by rw[h];decide),Jb h]
theorem sJ (h:PA F g x wv Ae w) (hl:J g.fr<=100):
  Calls prog 75 #[iJ g.xb] w (AdC (if x.Ad=[] then Z else U 3) Ae w):=by
 by_cases hx:x.Aa=[]
 .have:=h.Ak;rw[GQ hx] at this;rw[Jb (h.kz hx).1];exact pV w g x wv Ae this
 .have hS:=h.st hx;have e:=hS.D1.frs.len;refine(xS w g x wv Ae hS.Ak hl).mono λe' w' he=>?_
  by_cases ho:x.Ad=[]
  .rw[Jb ho];rw[In (by rw[<-e,ho];simp)] at he;exact he
  .rw[In ho];rw[Jb (by rw[<-e];exact JE.2 ho)] at he;exact he
theorem Xz (nm:ByteArray) (ws:Ws) (mb:Nat) (w:World) (g:FG) (x:qH) (wv:Value) (Ae:Int) (F:List (Nat×Obj)) (h:PA F g x wv Ae w) (hs:Sl w (λb=>b≠g.xb) wv (Bq (nm::ws))) (hb:J g.fr<=100) (Rf:J x.Aa<=3000) (hk:bs nm=AE):
  Calls prog 74 #[iJ g.xb] w (eL (x.row (nm::ws)) F g x wv Ae w):=by
 have R00:=D (Rd.start h.pst.px hs);have H:=D h;have Hk:=D hk;have q0:=Bx (k:=AR) (by rw[hk];decide);unfold AR at q0;have q1:=CZ hk;unfold AE at q1;have yP:= @run_makeMap prog;obtain⟨j0,hj,Lc,Lb,Mm⟩:=info_parts AbY;obtain⟨wv0,p0,s0⟩:=R00.px;have Hn:=D (Ki (nm::ws) _ g.xb _ wv0 Ae _ p0 s0 (λh=>h.1 rfl));clear h hs hk p0 s0;go_enter func74,ntmps74;go_wp2_with fail;refine Hn.mono ?_;intro e w1 he;obtain⟨rfl,R1⟩:=R00.Eb (v:= qA nm) (l':=ws) he;have R:=D R1;clear Hn he R1 R00;obtain⟨eO,p2,s2⟩:=R.px;have No:=D (DH ws _ g.xb _ _ Ae _ p2 s2);clear p2 s2;go_wp2_with fail;refine No.mono ?_;intro e w3 he;clear No;cases ws with
 |cons b l3=>
  obtain⟨⟨fb,rfl,hb⟩,hm⟩:=he;have hr:=D (show x.row (nm::b::l3)=.error 2 by rw[M4 Hk.out,Jb EQ]);exact mam
 |nil=>
  obtain⟨rfl,R3⟩:=R.Eb he;have mT:=D R3.mod;obtain⟨Ns,hP,OB⟩:=R3.Gb H.out;have He:=D (sJ hP hb);have HP:=D hP;have GK:=D OB;clear he R3 R hP OB;go_wp2_with fail;refine He.mono ?_;intro e w4 he;by_cases ho:x.Ad=[];rotate_left
  .rw[In ho] at he;obtain⟨⟨fb,rfl,hb⟩,hm⟩:=he;have hr:=D (show x.row [nm]=.error 3 by rw[M4 Hk.out,In EQ,Jb ho]);clear ho;go_wp2;rw[hr.out];exact⟨rfl,AZ ⟨⟨fb,rfl,hb⟩,mT.Aj hm⟩⟩
  rw[Jb ho] at he;obtain⟨rfl,hm⟩:=he;have hr:=D (show x.row [nm]=.ok {x with Aa:=x.Aa++[.nil],AA:=[],Ah:=0,Ad:=[]} by rw[M4 Hk.out,In EQ,In (λh=>h ho)]);have VN:=Ai.quiet HP.Ak hm;have hP4:PA F g x Ns Ae w4:=⟨VN.Ak,HP.AJ.quiet hm,HP.D1,HP.kz⟩;obtain⟨lv,ov,sv,tp,tc,rows,F',hF⟩:=tR hP4 ho;have GG:J rows<=3000:=by rw[hF.ths.len];exact Rf
  have HF:=D hF;have Ale:=D (GK.trans (VN.trans hF.st));have SF:=hF.st.Ak.Ao (i:=0) rfl;have Zp:=hF.st.Ak.Ao (i:=1) rfl;have x2:w4.cell? ⟨g.xb,2,Z⟩=U (iJ g.pb):=SF.cell 2;have p0:w4.cell? ⟨g.pb,0,Z⟩=U (m9 tp (J rows) tc):=Zp.cell 0;clear ho hm VN hP4 hF He SF Zp;go_upto_region 18 with fail
  refine AF [11,12] 15 (λW=>W.cell? ⟨g.xb,2,Z⟩=U (iJ g.pb)/\W.cell? ⟨g.pb,0,Z⟩=U (m9 tp (J rows) tc)) ⟨x2,p0⟩ ?_;refine Ds ?_;intro K hK;have Hb0:=HF.st.Ak.Ao (i:=0) rfl;have Hb1:=HF.st.Ak.Ao (i:=1) rfl;have hxl:=Hb0.lt;have hpl:=Hb1.lt;refine hK _ _ (λ_=>⟨by go_simp,by go_simp⟩) ?_;clear hK Hb0 Hb1 hxl hpl x2 p0;refine AI rfl (λK hK=>?_);refine BV 24 _ _ _ j0 _ #[m9 Z 0 0] _ HF.st.Ak (k:=3) rfl Eq Eq underlying144 hj Lc Lb Mm rfl Y Eq Eq rfl (by simp[Value.oneCell']) (by unfold maxLen;omega) Y ?_;intro g6 AL w6 Aw _;have z1:w6.cell? ⟨g.xb,2,Z⟩=U (iJ g.pb):=(Aw.Ak.Ao (i:=0) rfl).cell 2;have z2:w6.cell? ⟨g.pb,0,Z⟩=U (m9 tp (J rows) tc):=(Aw.Ak.Ao (i:=1) rfl).cell 0;have zf:=(Aw.Ak.Ao (i:=1) rfl).free 0;refine hK _ _ (λ_=>⟨z1,z2⟩) (D3 rfl ?_);clear hK;simp only[FH];refine Ds ?_;intro K hK;refine hK _ _ (λh=>Jk rfl h) ?_;clear hK;simp only[BN];have t5:=Ale.trans (Aw.trans (Aw.Ak.set (i:=1) rfl 0 (m9 (U ⟨g6,0,Z⟩) (J rows+1) AL)));have k5:=HF.AJ.step (Aw.trans (Aw.Ak.set (i:=1) rfl 0 (m9 (U ⟨g6,0,Z⟩) (J rows+1) AL)));clear z1 z2 zf Aw Ale;generalize World.setCell w6 ⟨g.pb,0,Z⟩ (m9 (U ⟨g6,0,Z⟩) (J rows+1) AL)=w7 at t5 k5⊢;have yM:=t5.Ak.Ao (i:=0) rfl;have xl:=yM.lt;have xf:=yM.free;have xc:=yM.cell;have t6:=t5.trans (t5.Ak.set (i:=0) rfl 4 (.map (U w7.heap.size)));have t7:=t6.trans (t6.Ak.set (i:=0) rfl 6 (iI 0));have t8:=t7.trans (Ai.new t7.Ak (.map #[] 0));have k8:=k5.step ((t5.Ak.set rfl 4 (.map (U w7.heap.size))).trans ((t6.Ak.set rfl 6 (iI 0)).trans (Ai.new t7.Ak (.map #[] 0))));have Gp:(World.heap (World.setCell (World.setCell w7 ⟨g.xb,4,Z⟩ (.map (U w7.heap.size))) ⟨g.xb,6,Z⟩ (iI 0))).size=w7.heap.size:=by simp[World.setCell]
  rw[Gp] at t8 k8;have T8:=D t8;have HK:=D k8;clear t5 t6 t7 t8 k5 k8 Gp yM;go_upto_region 20 with fail
  have t8:=T8.out;have k8:=HK.out;clear T8 HK xl xf xc;obtain⟨lb,N6⟩:∃b,b=w7.heap.size:=⟨_,rfl⟩;rw[<-N6] at t8 k8⊢;generalize World.alloc (World.setCell (World.setCell w7 ⟨g.xb,4,Z⟩ (.map (U lb))) ⟨g.xb,6,Z⟩ (iI 0)) (.map #[] 0)=w8 at t8 k8⊢;have Fo:=t8.Ak.Ao (i:=0) rfl;have Is:=t8.Ak.Ao (i:=1) rfl;have x2:w8.cell? ⟨g.xb,2,Z⟩=U (iJ g.pb):=Fo.cell 2;have p0:w8.cell? ⟨g.pb,0,Z⟩=U (m9 (U ⟨g6,0,Z⟩) (J rows+1) AL):=Is.cell 0;have xc:=Fo.cell;have xl:=Fo.lt;have xf:=Fo.free;have pl:=Is.lt;have T8:=D t8;have HK:=D k8;have hw:True->IntKind.i64.wrap (J rows)=J rows:=λ_=>IntWalk.i64_in _ Y
  have h0:0<=(J rows:Int):=Y
  have h1:J rows<(J rows:Int)+1:=Y
  clear t8 k8 Fo Is N6;refine AF [19] 22 (λW=>W.cell? ⟨g.xb,2,Z⟩=U (iJ g.pb)/\W.cell? ⟨g.pb,0,Z⟩=U (m9 (U ⟨g6,0,Z⟩) (J rows+1) AL)) ⟨x2,p0⟩ ?_;refine Ds ?_;intro K hK;refine hK _ _ (λ_=>⟨by go_simp,by go_simp⟩) ?_;clear hK;refine Ds ?_;intro K hK;refine hK _ _ (λh=>Jk rfl h) ?_;clear hK hw h0 h1 x2 p0 xc xf xl pl;simp only[BN];go_wp2
  go_end0
  rw[hr.out];have t8:=T8.out;have s9:=t8.Ak.set (i:=0) rfl 5 (m9 (U ⟨w8.heap.size,0,Z⟩) 1 1);have s10:=Ai.new s9.Ak (qG #[qE (U ⟨g6,J rows,Z⟩),.nilFunc,qB I] 205);have Gp:(World.heap (World.setCell w8 ⟨g.xb,5,Z⟩ (m9 (U ⟨w8.heap.size,0,Z⟩) 1 1))).size=w8.heap.size:=by simp[World.setCell]
  rw[Gp] at s10;have s11:=s9.trans (s10.trans (Ai.drew s10.Ak));have s12:=s11.trans (Adi (s:=3) rfl (by unfold maxLen;omega) (by simp[Value.oneCell']) s11.Ak);have s13:=s12.trans (Ai.H9 (by rw[Jo];exact s12.Ak) 208 1 |> λh=>by rw[Jo] at h;exact h);have t13:=t8.trans s13;have el:(x.Aa++[Bj.nil])≠[]:=EQ
  obtain⟨ob,Amb⟩:∃b,b=w8.heap.size:=⟨_,rfl⟩;rw[<-Amb] at t13 s13⊢;have BZ:aa F' {g with tb:=g6,tc:=AL,tv:=rows,c:=⟨Z,0⟩,cs:=[],lb:=lb,ob:=ob,oc:=1,fr:=[]} {x with Aa:=x.Aa++[.nil],AA:=[],Ah:=0,Ad:=[]}:=⟨⟨x.Aa,.nil,rfl,HF.ths,rfl⟩,rfl⟩;refine⟨rfl,{g with tb:=g6,tc:=AL,tv:=rows,c:=⟨Z,0⟩,cs:=[],lb:=lb,ob:=ob,oc:=1,fr:=[]},F',Ns,rfl,HF.Abv,?_,.of ⟨?_,?_,BZ⟩⟩
  .rw[F2 (x:={x with Aa:=x.Aa++[.nil],AA:=[],Ah:=0,Ad:=[]}) el,OL _ _ _ _ rfl];exact t13
  .rw[OL _ _ _ _ rfl];exact t13.Ak
  .rw[OL _ _ _ _ rfl];exact HK.step s13
theorem ZH {w:ByteArray} (h:bs w=EK):x.row (w::r)=if r≠[] then .error 2 else match x.Ad.getLast? with
  |none=> .error 3
  |some f=> .ok ({x with Ad:=x.Ad.dropLast}.add f.done):=by
 show(if _ then _ else _)=_;rw[In (by rw[h];decide),In (by rw[h];decide),Jb h];rfl
theorem ry {k:KQ} {fn:Fn} {cap:Array Value} (h:SA F k fn cap):∃j,fn=.func j/\(∀(args:Array Value) (w:World),(callFunc j args).run prog w=.ok (.enter j args) w)/\∀(b:Bj) (p:Option Addr) (n c:Nat) (w:World),(∀q o,(q,o)∈F->w.heap[q]?=U o)->Calls prog j (#[m9 p n c]++cap) w (X9 k b (m9 p n c) w):=by
 cases k with
 |atomic=>obtain⟨rfl,rfl⟩:=h;exact⟨_,rfl,λ_ _=>Fd,λb p n c w _=>XC b p n c w⟩
 |Es a=>obtain⟨rfl,cb,rfl,hm⟩:=h;exact⟨_,rfl,λ_ _=>Fd,λb p n c w hF=>me a cb b p n c w (hF _ _ hm)⟩
 |loop n=>obtain⟨rfl,cb,rfl,hm⟩:=h;exact⟨_,rfl,λ_ _=>Fd,λb p m c w hF=>bw n cb b p m c w (hF _ _ hm)⟩
theorem ft {e:TypeId} {s cap g:Nat} (h:w.ownsRow 0 e s (m9 (U ⟨g,0,Z⟩) n cap) n xs):n<=cap/\cap<=maxLen:=by
 obtain⟨p,c,hv,h1,h2⟩:=Uz h;cases hv;exact⟨h1,h2⟩
theorem Oh {v:Value} (h:∀j,(hj:j<J xs)->w.cell? ⟨b,j,Z⟩=U xs[j]) (e:xs[i]?=U v):w.cell? ⟨b,i,Z⟩=U v:=by
 obtain⟨h1,h2⟩:=Jn.1 e;rw[h i h1,h2]
theorem AcZ {f:Kz} {o:Fr} (hS:SR F g x wv Ae w) (OP:g.fr=fs++[f]) (IV:x.Ad=os++[o]) (w5:World)
  (h5:∃obj,w5=(World.alloc (World.setCell w ⟨g.xb,5,Z⟩ (m9 (U ⟨g.ob,0,Z⟩) (J fs+1) g.oc)) obj).drew.drew/\obj=qG #[iJ f.bb,.func f.fn #[] f.cap,qB f.Ao] 205 (0,0)):
  ∃E,Ai w (g.Ay x wv Ae) w5 (FG.Ay {g with fr:=fs} {x with Ad:=os} wv Ae)/\AY w5 (FG.Ay {g with fr:=fs} {x with Ad:=os} wv Ae) (E++F)/\Ew (E++F) (m9 f.s.p (J f.us) f.s.c) f.us/\aa (E++F) {g with fr:=fs} {x with Ad:=os}/\Ci w5 f.bb #[m9 f.s.p (J f.us) f.s.c] 165/\Ci w5 w.heap.size #[iJ f.bb,.func f.fn #[] f.cap,qB f.Ao] 205:=by
 obtain⟨obj,rfl,Amc⟩:=h5;obtain⟨hw,hk,hf⟩:=hS;obtain⟨TM,Xt⟩:=hf;have hnl:J g.fr=J fs+1:=by rw[OP];simp
 have eo:g.De.take ((J fs+1)*3)=FG.De {g with fr:=fs}:=by
  have e1:g.De=FG.De {g with fr:=fs}++f.cells:=by unfold FG.De;rw[OP,J9];simp
  have e2:(FG.De {g with fr:=fs}).length=(J fs+1)*3:=by rw[oz];show 3*(J fs+1)=_;omega
  rw[e1,<-e2,List.take_left]
 rw[OP,IV] at Xt;obtain⟨r,o',e,hr,_⟩:=Xt.Dv;obtain⟨rfl,_⟩:=QH e rfl;rw[NN g x wv Ae OP] at hw hk⊢;have a1:=hw.set (i:=0) rfl 5 (m9 (U ⟨g.ob,0,Z⟩) (J fs+1) g.oc);have a2:=a1.trans (Ai.alloc a1.Ak obj);have a3:=(a2.trans (Ai.drew a2.Ak)).trans (Ai.drew (Ai.drew a2.Ak).Ak);have a4:=a3.trans (a3.Ak.take (i:=5) rfl (J fs+1) Y);rw[eo] at a4;have a5:=a4.trans (Ai.Wl (A:=[_,_,_,_,_,_,_]) a4.Ak);obtain⟨E,K,hri⟩:=Tt a5.Ak (hk.step a5);have a6:=a5.trans (Ai.Wl a5.Ak);have BZ:aa F {g with fr:=fs} {x with Ad:=os}:=⟨TM,hr⟩;have Gp:(World.heap (World.setCell w ⟨g.xb,5,Z⟩ (m9 (U ⟨g.ob,0,Z⟩) (J fs+1) g.oc))).size=w.heap.size:=by simp[World.setCell]
 have Vg:=Ci.new (World.setCell w ⟨g.xb,5,Z⟩ (m9 (U ⟨g.ob,0,Z⟩) (J fs+1) g.oc)) #[iJ f.bb,.func f.fn #[] f.cap,qB f.Ao] 205;rw[Gp] at Vg;exact⟨E,a6,K,hri,BZ.sub (λ_ h=>Jc _ h),a4.Ak.Ao (i:=7) rfl,by rw[Amc];exact Vg⟩
theorem gm (nm:ByteArray) (ws:Ws) (mb:Nat) (w:World) (g:FG) (x:qH) (wv:Value) (Ae:Int) (F:List (Nat×Obj)) (h:PA F g x wv Ae w) (hs:Sl w (λb=>b≠g.xb) wv (Bq (nm::ws))) (hb:np g) (hk:bs nm=EK):
  Calls prog 74 #[iJ g.xb] w (eL (x.row (nm::ws)) F g x wv Ae w):=by
 have R00:=D (Rd.start h.pst.px hs);have H:=D h;have Hk:=D hk;have q0:=Bx (k:=AR) (by rw[hk];decide);unfold AR at q0;have q1:=Bx (k:=AE) (by rw[hk];decide);unfold AE at q1;have q2:=CZ hk;unfold EK at q2;obtain⟨wv0,p0,s0⟩:=R00.px;have Hn:=D (Ki (nm::ws) _ g.xb _ wv0 Ae _ p0 s0 (λh=>h.1 rfl));clear h hs hk p0 s0;go_enter func74,ntmps74;go_wp2_with fail;refine Hn.mono ?_;intro e w1 he;obtain⟨rfl,R1⟩:=R00.Eb (v:= qA nm) (l':=ws) he;have R:=D R1;clear Hn he R1 R00;obtain⟨eO,p2,s2⟩:=R.px;have No:=D (DH ws _ g.xb _ _ Ae _ p2 s2);clear p2 s2;go_wp2_with fail;refine No.mono ?_;intro e w3 he;clear No;cases ws with
 |cons b l3=>
  obtain⟨⟨fb,rfl,hb⟩,hm⟩:=he;have hr:=D (show x.row (nm::b::l3)=.error 2 by rw[ZH Hk.out,Jb EQ]);exact mam
 |nil=>
  obtain⟨rfl,R3⟩:=R.Eb he;have mT:=D R3.mod;have HR:=D (show x.row [nm]=match x.Ad.getLast? with|none=> .error 3|some f=> .ok ({x with Ad:=x.Ad.dropLast}.add f.done) by rw[ZH Hk.out,In EQ]);obtain⟨Ns,hP,OB⟩:=R3.Gb H.out;have HB:=D hb;clear he R3 hb;by_cases hx:x.Aa=[]
  .have ho:=hP.Ak;rw[GQ hx] at ho;obtain⟨hc,hf,hlt,Tb,hpf,fZ,GU⟩:=ZL ho;have hr:=D (HR.trans (show _=Except.error 3 by rw[(hP.kz hx).1];rfl));clear ho hP OB GU hx;exact maw
  have hS:=hP.st hx;rcases Jv g.fr with OP|⟨fs,f,OP⟩
  .obtain⟨hc,hf,hlt,Tb,hpf,fZ,GU,TO⟩:=Iv hS.Ak;have ho:=Jm (by rw[hS.D1.frs.len,OP];rfl);have hr:=D (HR.trans (show _=Except.error 3 by rw[ho];rfl));rw[OP] at hc;simp only[Jw,JH] at hc;clear ho hP OB GU hx TO hS OP;exact maw
  .rw[Jy] at OP;have Xt:=hS.D1.frs;rw[OP] at Xt;obtain⟨os,o,IV,hos,hfo⟩:=Xt.Dv;have hr:=D (HR.trans (show _=Except.ok ({x with Ad:=os}.add o.done) by rw[IV];simp));obtain⟨n,hn⟩:∃n,n=J fs+1:=⟨_,rfl⟩;have hnl:J g.fr=n:=by rw[OP,hn];simp
   have hj:g.fr[J fs]?=U f:=by rw[OP];simp
   obtain⟨tcl,tfr,tlt⟩:=A4 (hS.Ak.row (i:=5) rfl);have hoc:=(ft (hS.Ak.row (i:=5) rfl)).1;have e0:∀i,i<3->g.De[n*3+i]?=f.cells[i]?:=λi hi=>by
    rw[show n*3+i=3*(J fs+1)+i by omega];exact VX g (J fs) f hj i hi
   have o0:w3.cell? ⟨g.ob,n*3,Z⟩=U (iJ f.bb):=Oh tcl (e0 0 Y);have o1:=Oh tcl (e0 1 Y);have o2:=Oh tcl (e0 2 Y);have x5:w3.cell? ⟨g.xb,5,Z⟩=U (m9 (U ⟨g.ob,0,Z⟩) (n+1) g.oc):=by rw[<-hnl];exact(Iv hS.Ak).c 5
   have Cp:=hS.Ak;rw[NN g x Ns Ae OP] at Cp;have xl:=(Cp.Ao (i:=0) rfl).lt;have Ano:n<=100:=by rw[<-hnl];exact HB.fr
   rw[hnl] at hoc;have HS:=D hS;have Hfr:=D OP;have Hop:=D IV;have Hfo:=D hfo;have Hnl:=D hnl;have GK:=D OB;have Hx:=D hx;have Hn:=D hn;have hw:True->IntKind.i64.wrap n=n:=λ_=>IntWalk.i64_in _ Y
   have h0:0<=(n:Int):=Y
   have h1:n<(n:Int)+1:=Y
   have h2:¬(n:Int)+1<2:=Y
   have h3:n<=g.oc:=Y
   clear hS OP IV hos hfo hnl hj tcl tfr e0 Xt hP OB hx Cp hn HR;go_upto_region 25 with fail
   refine AF [12] 13 (λW=>W.cell? ⟨g.xb,5,Z⟩=U (m9 (U ⟨g.ob,0,Z⟩) (n+1) g.oc)/\W.cell? ⟨g.ob,n*3,Z⟩=U (iJ f.bb)/\W.cell? ⟨g.ob,n*3+1,Z⟩=U (.func f.fn #[] f.cap)/\W.cell? ⟨g.ob,n*3+2,Z⟩=U (qB f.Ao)) ⟨x5,o0,o1,o2⟩ ?_;refine Ds ?_;intro K hK;refine hK _ _ (λ_=>⟨by go_simp,by go_simp,by go_simp,by go_simp⟩) ?_;clear hK;refine AI rfl (λK hK=>?_);go_simp;refine hK _ _ (λh=>Jk rfl h) ?_;clear hK o0 o1 o2;simp only[BN];go_upto_region 26 with fail
   refine AF [] 14 (λW=>W.cell? ⟨g.xb,5,Z⟩=U (m9 (U ⟨g.ob,0,Z⟩) (n+1) g.oc)) (by go_simp) ?_;refine Od ?_;have xf:=(Iv HS.Ak).f 5;refine AI rfl (λK hK=>?_);go_simp;refine hK _ _ (λh=>Jk rfl h) ?_;clear hK hw h0 h1 h2 h3 x5 xf hoc xl tlt;simp only[BN];have hp:=AcZ HS Hfr Hop _ ⟨_,rfl,rfl⟩;rw[<-Hn.out] at hp;generalize (World.drew (World.drew (World.alloc (World.setCell w3 ⟨g.xb,5,Z⟩ (m9 (U ⟨g.ob,0,Z⟩) n g.oc)) (qG #[iJ f.bb,.func f.fn #[] f.cap,qB f.Ao] 205))))=w5 at hp⊢;obtain⟨E,st5,K5,hri,BZ,hbb,hb7⟩:=hp;obtain⟨j,hj,hcf,B8⟩:=ry (Hfo.cl.sub (E:=E++F) (λ_ h=>Jc _ h));obtain⟨b7,AkD⟩:∃b,b=w3.heap.size:=⟨_,rfl⟩;rw[<-AkD] at hb7⊢;have c0:w5.cell? ⟨b7,0,Z⟩=U (iJ f.bb):=hb7.cell 0;have c1:w5.cell? ⟨b7,1,Z⟩=U (.func (.func j) #[] f.cap):=by rw[<-hj];exact hb7.cell 1
   have c2:w5.cell? ⟨f.bb,0,Z⟩=U (m9 f.s.p (J f.us) f.s.c):=hbb.cell 0;have ST5:=D st5;have HK5:=D K5;have HRI:=D hri;have HFI:=D BZ;have nj:=D B8;have HCF:=D hcf;clear st5 K5 hri BZ hbb hb7 B8 hj AkD hcf;go_upto_region 27 with fail
   refine AF [7] 8 (λW=>W.cell? ⟨b7,0,Z⟩=U (iJ f.bb)/\W.cell? ⟨b7,1,Z⟩=U (.func (.func j) #[] f.cap)/\W.cell? ⟨f.bb,0,Z⟩=U (m9 f.s.p (J f.us) f.s.c)) ⟨c0,c1,c2⟩ ?_;refine Od ?_;refine AI rfl (λK hK=>?_);have hcf:=HCF.out;go_simp;clear hcf;have m5:Az [] w5 w5.drew:=(Az.refl _ _).drew;refine(nj o.body f.s.p (J f.us) f.s.c w5.drew (λq p hq=>(HK5.quiet m5).heap q p hq)).mono ?_;intro e w6 he;obtain⟨T,nb,o2,rfl,yQ,Pr,aZ,Aw⟩:=he;have m6:=m5.Aj yQ;refine hK _ w6 (λ_=>⟨AK m6 c0,AK m6 c1,AK m6 c2⟩) ?_;clear hK;have tx:=ST5.Ak.quiet m6;have hk6:AY w6 _ ((nb,o2)::(E++F)):=⟨λq p hq=>by
     rcases Jl.1 hq with h|h
     · cases h;exact Pr
     · exact(HK5.quiet m6).heap q p h,λq p hq hl=>by
     rcases Jl.1 hq with h|h
     · cases h;exact Jk (ST5.Ak.lt _ hl) (Nat.not_lt.2 aZ)
     · exact HK5.out.out q p h hl⟩
   have Akt:=HFI.sub (E:=(nb,o2)::(E++F)) (λ_ h=>Id _ h);have AjY:=Aw ((nb,o2)::(E++F)) f.us (Jd ..) (HRI.sub λ_ h=>Id _ h) (Hfo.st.sub λ_ h=>Id _ (Jc _ h));refine AI rfl (λK hK=>?_);go_simp;refine(RB o.done T (iJ nb) w6 {g with fr:=fs} {x with Ad:=os} Ns Ae _ tx Akt AjY ⟨HB.cs,λf hf=>HB.us f (by rw[Hfr.out];exact IR _ hf),by have:=HB.fr;have:=Hnl.out;have:=Hn.out;show J fs<=100;omega⟩).mono ?_;intro e w7 he;obtain⟨rfl,g',yM,st7,hf7⟩:=he;refine hK _ w7 (λh=>Jk rfl h) ?_;clear hK;simp only[BN];have Aw:=GK.out;rw[F2 Hx.out (wv:=Ns)] at Aw;have t9:=Aw.trans (ST5.trans ((Ai.quiet ST5.Ak m6).trans st7));have k9:=hk6.step st7;have T9:=D t9;have K9:=D k9;have F9:=D hf7;have HXB:=D yM;clear t9 k9 hf7 yM st7 AjY Akt hk6 tx Aw aZ Pr yQ m6 m5 c0 c1 c2;go_wp2
   go_end0
   rw[hr.out];refine⟨rfl,g',_,Ns,HXB,λ_ h=>Id _ (Jc _ h),?_,.of ⟨T9.Ak,K9,F9⟩⟩;rw[F2 F9.out.ne];exact T9.out
theorem ZG {w:ByteArray} (h0:¬bs w=AR) (h1:¬bs w=AE) (h2:¬bs w=EK):x.row (w::r)=x.Bd w r:=by
 show(if _ then _ else _)=_;rw[In h0,In h1,In h2]
theorem Ad2 {w:ByteArray} (h:x.Bd w r=.ok y):x.Aa≠[]:=by
 intro hx;cases hr:IF w r with
 |none=>rw[Cb hr] at h;cases h
 |some s=>rw[FB hr,EC hx] at h;cases h
theorem Agc {y:Nat} (hy:y∈[g.xb]):y∈PM g x wv Ae:=by
 unfold PM;split
 .exact hy
 .rw[GE] at hy;rw[hy];exact mbN
theorem PA.re {wv':Value} {line':Int} (h0:PA F g x wv Ae w0) (h1:ig w g.xb (g.vu x) wv' line') (hm:Az [g.xb] w0 w):
  PA F g x wv' line' w/\Ai w0 (g.Ui x wv Ae) w (g.Ui x wv' line'):=by
 have st:Ai w0 (g.Ui x wv Ae) w (g.Ui x wv' line'):=by
  have ho:=h0.Ak;by_cases hx:x.Aa=[]
  .unfold FG.vu at h1;rw[Jb hx] at h1;rw[GQ hx] at ho;rw[GQ hx,GQ hx];exact mbl
  .unfold FG.vu at h1;rw[In hx] at h1;rw[F2 hx] at ho;rw[F2 hx,F2 hx];exact mbl
 exact⟨⟨st.Ak,h0.AJ.step st,h0.D1,h0.kz⟩,st⟩
theorem ZF (nm:ByteArray) (ws:Ws) (mb:Nat) (w:World) (g:FG) (x:qH) (wv:Value) (Ae:Int) (F:List (Nat×Obj)) (h:PA F g x wv Ae w) (hs:Sl w (λb=>b≠g.xb) wv (Bq (nm::ws))) (hz:∀a,a∈ws->a.size<=1000000) (hg:Gl mb w) (aq:g.xb∉dz mb) (hb:np g) (Aw:0<=x.Ah/\x.Ah<=1000) (hk:¬bs nm=AR) (GJ:¬bs nm=AE) (Mo:¬bs nm=EK):
  Calls prog 74 #[iJ g.xb] w (eL (x.row (nm::ws)) F g x wv Ae w):=by
 have R00:=D (Rd.start h.pst.px hs);have H:=D h;have q0:=Bx (x:=nm) (k:=AR) hk;unfold AR at q0;have q1:=Bx (x:=nm) (k:=AE) GJ;unfold AE at q1;have q2:=Bx (x:=nm) (k:=EK) Mo;unfold EK at q2;have Hro:=D (ZG (x:=x) (r:=ws) hk GJ Mo);have Hz:=D hz;have Hg:=D hg;have HX:=D aq;have HB:=D hb;have HT:=D Aw;obtain⟨wv0,p0,s0⟩:=R00.px;have Hn:=D (Ki (nm::ws) _ g.xb _ wv0 Ae _ p0 s0 (λh=>h.1 rfl));clear h hs hk p0 s0;clear hz hg aq hb Aw GJ Mo;go_enter func74,ntmps74;go_wp2_with fail;refine Hn.mono ?_;intro e w1 he;obtain⟨rfl,R1⟩:=R00.Eb (v:= qA nm) (l':=ws) he;have R:=D R1;clear Hn he R1 R00;obtain⟨Ou,p1,s1⟩:=R.px;obtain⟨hP,st1⟩:=H.re p1 R.mod;have Hs:=D (ZD nm ws mb w1 g x Ou Ae F _ hP.pst (s1.mono λb _ hb=>hb.1) Hz (Hg.mod R.mod (λb hb hm=>by rw[GE] at hm;rw[hm] at hb;exact HX.out hb)) HX HB HT);have GK:=D st1;have hpm:PM g x Ou Ae=PM g x wv Ae:=rfl;have HPM:=D hpm;have Nt:=D R.mod;clear p1 s1 hP st1 hpm;go_wp2_with fail;refine Hs.mono ?_;intro e w2 he;cases hr:x.Bd nm ws with
 |error c=>
  rw[hr] at he;obtain⟨⟨fb,rfl,hb⟩,hm⟩:=he;have Hr:=D (Hro.trans hr);clear hr;go_wp2;rw[Hr.out];refine⟨rfl,⟨fb,rfl,hb⟩,?_⟩;exact(Nt.mono (λy hy=> .inl (Agc hy))).trans (HPM.out▸hm) (λy hy=> .inl hy)
 |ok y=>
  rw[hr] at he;have hne:=Ad2 hr;have Bg:=Afp hne he;obtain⟨rfl,_⟩:=he;obtain⟨_,g',F',wv',h1,h2,h3,h4⟩:=Bg;have Hr:=D (Hro.trans hr);have H1:=D h1;have H2:=D h2;have H3:=D (GK.trans h3);have H4:=D h4;clear hr hne h1 h2 h3 h4;go_wp2
  go_end0
  rw[Hr.out];exact⟨rfl,g',F',wv',H1,H2,H3,H4⟩
theorem AcH (l:Ws) (hl:l≠[]) (mb:Nat) (w:World) (g:FG) (x:qH) (wv:Value) (Ae:Int) (F:List (Nat×Obj)) (h:PA F g x wv Ae w) (hs:Sl w (λb=>b≠g.xb) wv (Bq l)) (hz:∀a,a∈l->a.size<=1000000) (hg:Gl mb w) (aq:g.xb∉dz mb) (hb:np g) (Aw:0<=x.Ah/\x.Ah<=1000) (B8:0<=x.cells/\x.cells<=100000) (Rf:J x.Aa<=3000) (AjR:J g.tv<=3000):
  Calls prog 74 #[iJ g.xb] w (eL (x.row l) F g x wv Ae w):=by
 cases l with
 |nil=>exact Jk rfl hl
 |cons nm ws=>
  have hz':=λa ha=>hz a (Id _ ha)
  by_cases h0:bs nm=AR
  .exact ZE nm ws mb w g x wv Ae F h hs hz' hg aq B8 AjR h0
  by_cases h1:bs nm=AE
  .exact Xz nm ws mb w g x wv Ae F h hs hb.fr Rf h1
  by_cases h2:bs nm=EK
  .exact gm nm ws mb w g x wv Ae F h hs hb h2
  exact ZF nm ws mb w g x wv Ae F h hs hz' hg aq hb Aw h0 h1 h2
def SD:Nat->Int
 |0=>1
 |n+1=>4*SD n
theorem Sa {d:Nat} (h:d<=3):SD d<=64/\1<=SD d:=by
 have:d=0\/d=1\/d=2\/d=3:=Y
 rcases this with rfl|rfl|rfl|rfl<;>decide
theorem RF (t:Bj):∀(d:Nat) (i:Bool) (n b o:Int),WF c t d i->d<=3->0<=n->n<=SD d->As t n=U (b,o)->(0<=b/\b<=64*Ft t)/\(0<=o/\o<=64*Ft t):=by
 induction t with
 |nil=>intro d i n b o _ _ _ _ h;simp only[As,Option.some.injEq,Prod.mk.injEq] at h;obtain⟨rfl,rfl⟩:=h;simp[Ft]
 |set v op x y r ih=>intro d i n b o hw hd h0 h1 h;have:=ih d i n b o hw.2.2.2.2 hd h0 h1 h;simp only[Ft];omega
 |get v f s a r ih=>intro d i n b o hw hd h0 h1 h;have:=ih d i n b o hw.2.2.2.2 hd h0 h1 h;simp only[Ft];omega
 |put f s a x r ih=>intro d i n b o hw hd h0 h1 h;have:=ih d i n b o hw.2.2.2.2 hd h0 h1 h;simp only[Ft];omega
 |out a r ih=>
  intro d i n b o hw hd h0 h1 h;have hp:=Sa hd;simp only[As] at h;cases hr:As r n with
  |none=>rw[hr] at h;cases h
  |some q=>obtain⟨b2,o2⟩:=q;rw[hr] at h;simp only[Option.some.injEq,Prod.mk.injEq] at h;obtain⟨rfl,rfl⟩:=h;have:=ih d i n b2 o2 hw.2 hd h0 h1 hr;simp only[Ft];omega
 |atomic bd r ib ih=>
  intro d i n b o hw hd h0 h1 h;have hp:=Sa hd;simp only[As] at h;cases hb:As bd 1 with
  |none=>rw[hb] at h;cases h
  |some q=>
   obtain⟨b1,o1⟩:=q;rw[hb] at h;simp only at h;by_cases h8:8<o1
   .rw[Jb h8] at h;cases h
   .rw[In h8] at h;cases hr:As r n with
    |none=>rw[hr] at h;cases h
    |some q=>obtain⟨b2,o2⟩:=q;rw[hr] at h;simp only[Option.some.injEq,Prod.mk.injEq] at h;obtain⟨rfl,rfl⟩:=h;have:=ih d i n b2 o2 hw.2.2.2 hd h0 h1 hr;simp only[Ft];omega
 |Es a bd r ib ih=>
  intro d i n b o hw hd h0 h1 h;simp only[As] at h;have du:=hw.2.1;have hp:n<=SD (d+1):=by have:=Sa hd;show n<=4*SD d;omega
  cases hb:As bd n with
  |none=>rw[hb] at h;cases h
  |some q=>
   obtain⟨b1,o1⟩:=q;rw[hb] at h;simp only at h;cases hr:As r n with
   |none=>rw[hr] at h;cases h
   |some q=>
    obtain⟨b2,o2⟩:=q;rw[hr] at h;simp only[Option.some.injEq,Prod.mk.injEq] at h;obtain⟨rfl,rfl⟩:=h;have k1:=ib (d+1) i n b1 o1 hw.2.2.1 Y h0 hp hb;have:=ih d i n b2 o2 hw.2.2.2 hd h0 h1 hr;simp only[Ft];omega
 |loop k bd r ib ih=>
  intro d i n b o hw hd h0 h1 h;simp only[As] at h;have du:=hw.2.1;obtain⟨Rr,hk4⟩:=hw.1;have Zt:0<=n*k:=jN h0 Y;have hp:n*k<=SD (d+1):=by
   show n*k<=4*SD d
   calc n*k<=n*4:=QX hk4 h0
    _<=4*SD d:=Y
  cases hb:As bd (n*k) with
  |none=>rw[hb] at h;cases h
  |some q=>
   obtain⟨b1,o1⟩:=q;rw[hb] at h;simp only at h;cases hr:As r n with
   |none=>rw[hr] at h;cases h
   |some q=>
    obtain⟨b2,o2⟩:=q;rw[hr] at h;simp only[Option.some.injEq,Prod.mk.injEq] at h;obtain⟨rfl,rfl⟩:=h;have k1:=ib (d+1) i (n*k) b1 o1 hw.2.2.1 Y Zt hp hb;have:=ih d i n b2 o2 hw.2.2.2 hd h0 h1 hr;simp only[Ft];omega
def RM (b o:Int):Option (Int×Int)->Option (Int×Int)
 |none=>Z
 |some (x,y)=>U (b+x,o+y)
def Anj (r:Option (Int×Int)) (w:World) (e:Ending) (w':World):Prop:=match r with
 |none=>I8 [] 5 0 w e w'
 |some (b,o)=>e= qF (qC #[iI b,iI o])/\Az [] w w'
theorem Ady (b o:Int):RM b o (U (0,0))=U (b,o):=by simp[RM]
theorem yw (c:Option (Int×Int)):RM 0 0 c=c:=by
 cases c with
 |none=>rfl
 |some p=>obtain⟨x,y⟩:=p;simp[RM]
theorem Adb (a:At) (r:Bj) (n b o:Int):RM b o (As (.out a r) n)=RM b (o+n) (As r n):=by
 simp only[As];exact maT
theorem AfH {a:At} {bd r:Bj} {n b:Int} (h:As bd n=U (b1,o1)):RM b o (As (.Es a bd r) n)=RM (b+b1) (o+o1) (As r n):=by
 simp only[As,h];exact maT
theorem Adc {k:Int} {bd r:Bj} {n b:Int} (h:As bd (n*k)=U (b1,o1)):RM b o (As (.loop k bd r) n)=RM (b+b1) (o+o1) (As r n):=by
 simp only[As,h];exact maT
theorem rq {bd r:Bj} {n b:Int} (h:As bd 1=U (b1,o1)) (h8:¬8<o1):RM b o (As (.atomic bd r) n)=RM (b+n) o (As r n):=by
 simp only[As,h,In h8];exact maT
theorem Ai0 {a:Int} (h0:0<=a) (h1:a<=1000000):True->wrap64 a=a:=λ_=>IntWalk.wrap64_in _ Y
theorem pW (F:List (Nat×Obj)) (cl:Int) (N:Nat) (hn9:N<=1000):∀(t:Bj) (sl:Value) (vs:List Value) (n:Int) (d:Nat) (BY:Bool) (w:World),AY w [] F->Ft t<=N->Ew F sl vs->D8 F t vs->WF cl t d BY->d<=3->0<=n->n<=SD d->
  Calls prog 102 #[sl,iI n] w (Anj (As t n) w):=by
 induction N using Nat.strongRecOn with
 |_ N ih=>
 intro t sl vs n d BY w hK hn hr hs hw hd IN TN;have hlen:J vs<=1000:=by have:=hs.len;omega
 have hp:=(Sa hd).1;have AnM:n<=64:=Y
 obtain⟨p,c,rfl⟩:=hr.L9;have Hr:=D hr;have Hs:=D hs;have HK:=D hK;have IH:=D ih;have HW:=D hw;have Hn1:=D TN;clear hr hs hK ih hw TN hp;go_enter func102,ntmps102;go_wp2;go_loopw [4,5,18] (λb o i wr=>∃(k:Nat) (t':Bj) (b0 o0:Int),i= iI k/\b= iI b0/\o= iI o0/\k<=J vs/\D8 F t' (vs.drop k)/\WF cl t' d BY/\As t n=RM b0 o0 (As t' n)/\Ft t'<=N/\0<=b0/\b0+64*Ft t'<=64*Ft t/\0<=o0/\o0+64*Ft t'<=64*Ft t/\Az [] w wr) (λ_ _ i _=>J vs-(intOf i).toNat);case atStart=>exact⟨0,t,0,0,rfl,rfl,rfl,Jr _,Hs,HW,(yw _).symm,hn,Y,Y,Y,Y,Az.refl _ _⟩
 case round=>
  obtain⟨k,t',b0,o0,rfl,rfl,rfl,hk,Aw,hw,hpt,Gp,Fo,Is,ho0,Vf,hm⟩:=hrel;have Z6:=D hpt;have HM:=D hm;have AhT:=hn;clear hpt hm;cases dw:vs.drop k with
  |nil=>
   rw[dw] at Aw;have Kf:¬k<(J vs:Int):=by have:=Q7.1 dw;omega
   have ht:As t' n=U (0,0):=by
    exact man
   have Ht:=D (Z6.trans (by rw[ht,Ady]));clear ht Aw dw;go_wp2;go_ret2;rw[Ht.out];exact⟨rfl,HM⟩
  |cons v us=>
   have K:=HK.quiet HM.out;obtain⟨_,VE,b,hp,Te⟩:=Hr.AN K dw;subst hp;have Kf:k<(J vs:Int):=Y
   have Rr:0<=(k:Int):=Y
   have bh:us=vs.drop (k+1):=by rw[<-d8,dw];rfl
   rw[dw] at Aw;have uB:=D bh;clear dw bh;cases t' with
   |nil=>cases Aw
   |set v0 op a b1 r=>
    obtain⟨q,us',h1,h2,h3⟩:=Aw;cases h1;have ta0:=nJ;have ta1:=bT;have ta2:=WL;have ta3:=aD;have H3:=D h3;have Hw:=D hw.2.2.2.2;simp only[Ft] at Gp Is Vf;clear h3 h2 hw K;go_wp2_with fail;go_roundw;case rel=>exact⟨k+1,r,b0,o0,by (try rw[inc trivial]);rfl,rfl,rfl,Y,uB.out▸H3.out,Hw,by rw[Z6.out];exact rfl,Y,Y,Y,Y,Y,HM⟩
    case measure=>(try rw[inc trivial]);simp[intOf];omega
   |get v0 f s a r=>
    obtain⟨q,us',h1,h2,h3⟩:=Aw;cases h1;have ta0:=nP;have ta1:=bW;have ta2:=WQ;have ta3:=aF;have H3:=D h3;have Hw:=D hw.2.2.2.2;simp only[Ft] at Gp Is Vf;clear h3 h2 hw K;go_wp2_with fail;go_roundw;case rel=>exact⟨k+1,r,b0,o0,by (try rw[inc trivial]);rfl,rfl,rfl,Y,uB.out▸H3.out,Hw,by rw[Z6.out];exact rfl,Y,Y,Y,Y,Y,HM⟩
    case measure=>(try rw[inc trivial]);simp[intOf];omega
   |put f s i a r=>
    obtain⟨q,us',h1,h2,h3⟩:=Aw;cases h1;have ta0:=nL;have ta1:=uW;have ta2:=iz;have ta3:=aE;have H3:=D h3;have Hw:=D hw.2.2.2.2;simp only[Ft] at Gp Is Vf;clear h3 h2 hw K;go_wp2_with fail;go_roundw;case rel=>exact⟨k+1,r,b0,o0,by (try rw[inc trivial]);rfl,rfl,rfl,Y,uB.out▸H3.out,Hw,by rw[Z6.out];exact rfl,Y,Y,Y,Y,Y,HM⟩
    case measure=>(try rw[inc trivial]);simp[intOf];omega
   |out a r=>
    obtain⟨q,us',h1,h2,h3⟩:=Aw;cases h1;have ta0:=To;have H3:=D h3;have Hw:=D hw.2;simp only[Ft] at Gp Is Vf;clear h3 h2 hw K;go_wp2_with fail;go_roundw;case rel=>exact⟨k+1,r,b0,(o0+n),by (try rw[inc trivial]);rfl,rfl,rfl,Y,uB.out▸H3.out,Hw,by rw[Z6.out];exact Adb ..,Y,Y,Y,Y,Y,HM⟩
    case measure=>(try rw[inc trivial]);simp[intOf];omega
   |Es a bd r=>
    obtain⟨q,us',sl',ws,h1,h2,h3,h4,h5⟩:=Aw;cases h1;have ta0:=bV;have ta1:=Yr;have H3:=D h3;have H4:=D h4;have H5:=D h5;have kq:=K.cell h2;have Hw:=D hw.2.2.2;simp only[Ft] at Gp Is Vf AhT;have du:=hw.2.1;have XY:n<=SD (d+1):=by have:=Hn1.out;have:=(Sa hd).2;show n<=4*SD d;omega
    have SF:=IN;obtain⟨p',c',rfl⟩:=H3.L9;have Hc:=D (λW hW=>IH.out (Ft bd) Y Y bd _ ws n (d+1) BY W (HK.quiet hW) (Jf _) H3 H4 hw.2.2.1 Y SF XY);have Hbd:=D (λ(b1 o1)=>RF bd (d+1) BY n b1 o1 hw.2.2.1 Y SF XY);clear h3 h4 h5 h2 hw K XY SF;go_wp2_with fail;refine(Hc _ HM).mono ?_;intro e w1 he;clear kq;cases Ln:As bd n with
    |none=>
     exact maW
    |some q9=>
     obtain⟨b1,o1⟩:=q9;rw[Ln] at he;obtain⟨rfl,Dg⟩:=he;obtain⟨⟨g1,g2⟩,g3,g4⟩:=Hbd.out b1 o1 Ln;have yH:=D Ln;have Nt:=D (HM.Aj Dg);clear Ln Dg;go_wp2_with fail;go_roundw;case rel=>exact⟨k+1,r,(b0+b1),(o0+o1),by (try rw[inc trivial]);rfl,rfl,rfl,Y,uB.out▸H5.out,Hw,by rw[Z6.out];exact AfH yH,Y,Y,Y,Y,Y,Nt⟩
     case measure=>(try rw[inc trivial]);simp[intOf];omega
   |loop m bd r=>
    obtain⟨q,us',sl',ws,h1,h2,h3,h4,h5⟩:=Aw;cases h1;have ta0:=WO;have ta1:=Tp;have ta2:=Oy;have H3:=D h3;have H4:=D h4;have H5:=D h5;have kq:=K.cell h2;have Hw:=D hw.2.2.2;simp only[Ft] at Gp Is Vf AhT;have du:=hw.2.1;obtain⟨Dg,XZ⟩:=hw.1;have SF:0<=n*m:=jN IN Y;have Zs:=QX XZ IN;have XY:n*m<=SD (d+1):=by have:=Hn1.out;show n*m<=4*SD d;omega
    have hwm:True->IntKind.i64.wrap (n*m)=n*m:=λ_=>IntWalk.i64_in _ Y
    obtain⟨p',c',rfl⟩:=H3.L9;have Hc:=D (λW hW=>IH.out (Ft bd) Y Y bd _ ws (n*m) (d+1) BY W (HK.quiet hW) (Jf _) H3 H4 hw.2.2.1 Y SF XY);have Hbd:=D (λ(b1 o1)=>RF bd (d+1) BY (n*m) b1 o1 hw.2.2.1 Y SF XY);clear h3 h4 h5 h2 hw K XY SF Zs Dg XZ;have H2:=D kq;go_upto_region 14 with fail
    refine AF [10] 15 (λW=>W.cell? ⟨q,0,Z⟩=U (iI m)/\W.cell? ⟨q,1,Z⟩=U (m9 p' (J ws) c')) ⟨kq 0,kq 1⟩ ?_;refine Ds ?_;intro K hK;refine(Hc _ HM.drew).mono ?_;intro e w1 he;cases Ln:As bd (n*m) with
    |none=>
     rw[Ln] at he;obtain⟨⟨fb,rfl,hb⟩,Dg⟩:=he;have gU:=D (show As t n=Z by rw[Z6.out];simp only[As];rw[Ln];rfl);clear Ln hK;go_wp2;rw[gU.out];exact⟨rfl,⟨fb,rfl,hb⟩,HM.drew.Aj Dg⟩
    |some q9=>
     obtain⟨b1,o1⟩:=q9;rw[Ln] at he;obtain⟨rfl,Dg⟩:=he;obtain⟨⟨g1,g2⟩,g3,g4⟩:=Hbd.out b1 o1 Ln;have yH:=D Ln;have Nt:=D (HM.drew.Aj Dg);have FM:=((Az.refl [] wr).drew).Aj Dg;refine hK _ w1 (λ_=>⟨AK FM (H2 0),AK FM (H2 1)⟩) ?_;clear hK;refine Ds ?_;intro K hK;refine hK _ _ (λh=>Jk rfl h) ?_;clear hK Ln Dg FM kq hwm;simp only[BN];have Fu:=Ai0 (a:=b0+b1) Y Y;go_wp2_with fail;go_roundw;case rel=>exact⟨k+1,r,(b0+b1),(o0+o1),by (try rw[inc trivial]);rfl,rfl,rfl,Y,uB.out▸H5.out,Hw,by rw[Z6.out];exact Adc yH,Y,Y,Y,Y,Y,Nt⟩
     case measure=>(try rw[inc trivial]);simp[intOf];omega
   |atomic bd r=>
    obtain⟨q,us',sl',ws,h1,h2,h3,h4,h5⟩:=Aw;cases h1;have ta0:=SV;have ta1:=Oz;have ta2:=LO;have ta3:=NB;have H3:=D h3;have H4:=D h4;have H5:=D h5;have kq:=K.cell h2;have Hw:=D hw.2.2.2;simp only[Ft] at Gp Is Vf AhT;have du:=hw.2.1;have XY:1<=SD (d+1):=by have:=(Sa hd).2;show(1:Int)<=4*SD d;omega
    have SF:(0:Int)<=1:=Do
    obtain⟨p',c',rfl⟩:=H3.L9;have Hc:=D (λW hW=>IH.out (Ft bd) Y Y bd _ ws 1 (d+1) V W (HK.quiet hW) (Jf _) H3 H4 hw.2.2.1 Y SF XY);have Hbd:=D (λ(b1 o1)=>RF bd (d+1) V 1 b1 o1 hw.2.2.1 Y SF XY);clear h3 h4 h5 h2 hw K XY SF;go_wp2_with fail;refine(Hc _ HM).mono ?_;intro e w1 he;clear kq;cases Ln:As bd 1 with
    |none=>
     exact maW
    |some q9=>
     obtain⟨b1,o1⟩:=q9;rw[Ln] at he;obtain⟨rfl,Dg⟩:=he;obtain⟨⟨g1,g2⟩,g3,g4⟩:=Hbd.out b1 o1 Ln;have yH:=D Ln;have Nt:=D (HM.Aj Dg);clear Ln Dg;by_cases h8:8<o1
     .have gU:=D (show As t n=Z by rw[Z6.out];simp only[As];rw[yH.out];simp only[];rw[Jb h8];rfl);exact mbe
     .go_wp2_with fail;go_roundw;case rel=>exact⟨k+1,r,(b0+n),o0,by (try rw[inc trivial]);rfl,rfl,rfl,Y,uB.out▸H5.out,Hw,by rw[Z6.out];exact rq yH Y,Y,Y,Y,Y,Y,Nt⟩
      case measure=>(try rw[inc trivial]);simp[intOf];omega
def Kc (t:Bj):Bool:=match As t 1 with|none=>V|some (b,_)=>decide (3<b)
theorem o6 (x:qH):Ej x=(decide (x.cells<=6) && (decide (J x.Aa<=3) && !(x.Aa.any Kc))):=by
 unfold Ej;congr 2;rw[List.not_any_eq_all_not];congr 1;funext t;unfold Kc;cases As t 1 with
 |none=>rfl
 |some p=>
  obtain⟨b,o⟩:=p;by_cases h:b<=3
  .have h2:¬3<b:=Y
   simp[h,h2]
  .have h2:3<b:=Y
   simp[h,h2]
def Alc (ok:Bool) (w:World) (e:Ending) (w':World):Prop:=if ok=V then e= qF (qC #[])/\Az [] w w' else I8 [] 5 0 w e w'
theorem zU (hk:k<J ts) (h:((ts.take k).any Kc)=I) (h2:Kc (ts.getD k .nil)=I):((ts.take (k+1)).any Kc)=I:=by
 rw[JK hk,j7,h];rw[Je,Ja hk] at h2;simp only[Qr] at h2;simp[h2]
theorem Adt (hk:k<J ts) (h2:Kc (ts.getD k .nil)=V):(ts.any Kc)=V:=by
 rw[Je,Ja hk] at h2;exact QG.2 ⟨_,JP hk,h2⟩
theorem lO (F:List (Nat×Obj)) (x:qH) (w:World) (L:List Ob) (pb:Nat) (tp:Option Addr) (tc:Nat) (rows:List Value) (h:Aq w L) (h1:L[1]?=U (.Ao pb #[m9 tp (J rows) tc,iI x.cells] 146)) (h3:L[3]?=U (.row (m9 tp (J rows) tc) 165 1 (J rows) rows)) (hK:AY w L F) (ht:GZ F x.Aa rows) (hw:FW x) (Gp:∀t,t∈x.Aa->Ft t<=1000):
  Calls prog 76 #[iJ pb] w (Alc (Ej x) w):=by
 have hb:=h.Ao h1;have Tb:=hb.cell;have hpl:=hb.lt;have hlen:=ht.len;have H3:=D (h.row h3);have HT:=D ht;have HW:=D hw;have HZ:=D Gp;have HL:=D hlen;have HKe:=D (hK.sub (λ_ hx=>hx));have HK0:Hid (AY w [] F):=D ⟨hK.heap,λb o _ hl=>by simp[Et] at hl⟩;have Eo:=o6 x;have AdI:=D Eo;clear h hb h1 h3 hK ht hw Gp Eo hlen;by_cases c6:6<x.cells
 .have hr:=D (show Ej x=I by
     rw[AdI.out];have:¬x.cells<=6:=Y
     simp[this])
  go_enter func76,ntmps76;go_wp2_with fail;refine(AP _ _ _).mono ?_;rintro e w5 ⟨⟨fb,rfl,hb⟩,hm⟩;go_wp2;rw[hr.out];exact maZ
 by_cases c3:3<(J rows:Int)
 .have hr:=D (show Ej x=I by
     rw[AdI.out];have:¬J x.Aa<=3:=by rw[<-HL.out];omega
     simp[this])
  go_enter func76,ntmps76;go_wp2_with fail;refine(AP _ _ _).mono ?_;rintro e w5 ⟨⟨fb,rfl,hb⟩,hm⟩;go_wp2;rw[hr.out];exact maZ
 have Hr:=D (show Ej x= !(x.Aa.any Kc) by
   rw[AdI.out];have e1:x.cells<=6:=Y
   have e2:J x.Aa<=3:=by rw[<-HL.out];omega
   simp[e1,e2])
 go_enter func76,ntmps76;go_wp2;go_loopw [25] (λi wr=>∃k:Nat,i= iI k/\k<=J rows/\((x.Aa.take k).any Kc)=I/\Az [] w wr) (λi _=>J rows-(intOf i).toNat);case atStart=>exact⟨0,rfl,Jr _,rfl,Az.refl _ _⟩
 case round=>
  clear Tb hpl c6;obtain⟨k,rfl,hk,DT,hm⟩:=hrel;have HM:=D hm;have HA:=D DT;clear hm DT;by_cases Kf:(k:Int)<(J rows:Int)
  .have MY:k<J x.Aa:=by rw[<-HL.out];omega
   obtain⟨sl,ws,us,hd,hri,hsi⟩:=HT.AN k MY;have hv:rows[k]?=U sl:=by
    have:=JM List.head? hd;rwa[List.head?_drop,jZ] at this
   have EX:=B7 H3 HM (λg hg=>EQ);obtain⟨tb,tcap,Rf,_,tlt,tcc,tcm,tcel,tfr⟩:=Av EX Y;simp only[Value.slice.injEq] at Rf;obtain⟨rfl,_,rfl⟩:=Rf;have Te:wr.cell? ⟨tb,k,Z⟩=U sl:=Oh tcel hv;have Rr:(0:Int)<=(k:Int):=Y
   have Nk:x.Aa.getD k .nil∈x.Aa:=by
    rw[Je,Ja MY];exact JP MY
   have inc:True->wrap64 ((k:Int)+1)=k+1:=λ_=>fS k Y
   have Hc:=D (pW F x.cells 1000 (Jf _) (x.Aa.getD k .nil) sl ws 1 0 I wr (HK0.quiet HM) (HZ _ Nk) hri hsi (HW.th _ Nk) Y Do Do);obtain⟨p',c',rfl⟩:=hri.L9;have Hk':=D MY;clear hd hri hsi hv EX tcel tfr Nk MY tcc tcm;go_wp2_with fail;refine Hc.mono ?_;intro e w1 he;clear Te;cases Ln:As (x.Aa.getD k .nil) 1 with
   |none=>
    rw[Ln] at he;obtain⟨⟨fb,rfl,hb⟩,Dg⟩:=he;have gU:=D (show Ej x=I by rw[Hr.out,Adt Hk'.out (by unfold Kc;rw[Ln])];rfl);clear Ln;go_wp2;rw[gU.out];exact⟨rfl,⟨fb,rfl,hb⟩,HM.Aj Dg⟩
   |some q9=>
    obtain⟨b1,o1⟩:=q9;rw[Ln] at he;obtain⟨rfl,Dg⟩:=he;have Nt:=D (HM.Aj Dg);have yH:=D Ln;clear Ln Dg;by_cases h3:3<b1
    .have gU:=D (show Ej x=I by rw[Hr.out,Adt Hk'.out (by unfold Kc;rw[yH.out];simpa using h3)];rfl);exact mbe
    .have hb9:Kc (x.Aa.getD k .nil)=I:=by unfold Kc;rw[yH.out];simpa using h3
     have Hb9:=D (zU Hk' HA hb9);clear hb9;go_wp2_with fail;go_roundw;case rel=>exact⟨k+1,by (try rw[inc trivial]);rfl,Y,Hb9,Nt⟩
     case measure=>(try rw[inc trivial]);simp[intOf];omega
  .have gU:=D (show Ej x=V by
      rw[Hr.out];have e:x.Aa.take k=x.Aa:=J6 (by rw[<-HL.out];omega);have h:=HA.out;rw[e] at h;rw[h];rfl)
   go_wp2
   go_end0
   rw[gU.out];exact⟨rfl,HM⟩
theorem AiE {l:List ByteArray} {ok:Nat->Prop} (h:Ci w b (l.map Value.string).toArray T) (hl:J l<=maxLen) (hb:ok b) (n c:Nat) (hn:n=J l) (hc:n<=c/\c<=maxLen):Sl w ok (m9 (U ⟨b,0,Z⟩) n c) (Bq l):=by
 have e:(Bq l).length=J l:=by simp[Bq]
 refine⟨by rw[e];exact hl,.inr ⟨b,0,c,by rw[e,hn],by rw[e];omega,hc.2,hb,h.lt,λi hi=>?_⟩⟩;rw[JH,h.cell i];simp only[Bq] at hi⊢;simp[J7,hi]
theorem iu (p:By):(Bt p).length=Lib.count p [32]+1:=by
 unfold Bt;rw[JZ];exact GO 32 _ p (Jf _)
theorem u6 (mb:Nat) (p:ByteArray) (w:World) (hg:Gl mb w) (hp:p.size<=1000000):
  Calls prog 72 #[qA p,qA ⟨#[32]⟩] w λe w'=>∃v,e= qF v/\Az [] w w'/\Sl w' (λb=>w.heap.size<=b) v (Bq (Bt (bs p))):=by
 obtain⟨m,hm⟩:=hg.BE;refine(strings_Split p ⟨#[32]⟩ m w Y hm Do).mono ?_;rintro e w' ⟨rfl,rfl⟩;have h1:=cd 32 p 0 (.inl rfl);rw[Jb rfl] at h1;have h2:Lib.countB p ⟨#[32]⟩+1=(Bt (bs p)).length:=(iu (bs p)).symm;have h3:=Lib.count_le (bs p) [32];have h4:Lib.countB p ⟨#[32]⟩<=p.size+1:=by have:=Br p;show Lib.count (bs p) [32]<=_;omega
 refine⟨_,rfl,(Az.refl _ _).alloc _,AiE (l:=Bt (bs p)) (T:=9) ?_ (by rw[<-h2];unfold maxLen;omega) (Jf _) _ _ h2 ⟨Jf _,by unfold maxLen;omega⟩⟩;rw[h1];exact Ci.new _ _ _
theorem Yw (mb:Nat) (s:ByteArray) (w:World) (hg:Gl mb w) (hs:s.size<=1000000):
  Calls prog 70 #[qA s,qA ⟨#[10]⟩] w λe w'=>∃b n,e= qF (m9 (U ⟨b,0,Z⟩) n n)/\n=(AD 10 (bs s)).length/\Az [] w w'/\w.heap.size<=b/\Ci w' b (Bq ((RC 10 (AD 10 (bs s))).map AU)).toArray 9:=by
 obtain⟨m,hm⟩:=hg.BE;have h1:=cd 10 s 1 (.inr rfl);rw[In Do] at h1;have h2:=GO 10 _ (bs s) (Jf _);have h4:Lib.countB s ⟨#[10]⟩<=s.size:=by
  have:=Lib.countB_mul_le ⟨#[10]⟩ Do s.size s (Jf _);have e:(⟨#[10]⟩:ByteArray).size=1:=rfl;rw[e] at this;omega
 have Hc:=D (strings_genSplit s ⟨#[10]⟩ 1 (-1) (Lib.countB s ⟨#[10]⟩+1) m w Y hm Do Do Do Do (by rw[Jb Do];omega));have H1:=D h1;have H2:=D h2;clear h1 h2 h4 hm hg;go_enter func70,ntmps70;go_wp2_with fail;refine Hc.mono ?_;rintro e w1 ⟨rfl,rfl⟩;have h1:=H1.out;have h2:=H2.out;rw[jP,h1];have hl:(List.map AU (RC 10 (AD 10 (bs s)))).length=Lib.countB s ⟨#[10]⟩+1:=by rw[JZ,xW,h2]
 rw[hl];have he:Lib.cellsOf (List.map AU (RC 10 (AD 10 (bs s)))) (Lib.countB s ⟨#[10]⟩+1)=(Bq ((RC 10 (AD 10 (bs s))).map AU)).toArray:=by
  unfold Lib.cellsOf Bq;rw[hl];simp
 rw[he];have H3:=D h2;clear h1 h2 hl he;go_wp2;go_ret;exact⟨_,_,rfl,H3.symm,(Az.refl _ _).alloc _,Jf _,Ci.new _ _ _⟩
theorem AgY (p:Value) (w:World):(Instr.typeAssert (.iface 123 p) 20 123 V).run prog w=.ok (qC #[p,qB V]) w:=Fd
theorem Ad0 (w:World):(Instr.typeAssert .nilIface 20 123 V).run prog w=.ok (qC #[qE Z,qB I]) w:=Fd
theorem XD (pB eB:Nat) (pv v0 v1:Value) (older:List PanicEntry) (w:World) (hc:w.cell? ⟨pB,0,Z⟩=U v0) (hz:w.frozen? ⟨pB,0,Z⟩=I) (hd:w.cell? ⟨eB,0,Z⟩=U v1) (hy:w.frozen? ⟨eB,0,Z⟩=I) (hne:eB≠pB):
  CallsD prog 68 #[iJ pB,iJ eB] (.panicking ({v:=.iface 123 pv,recovered:=I}::older)) w λe u' w'=>
   e= qF (qC #[])/\u'=.panicking ({v:=.iface 123 pv,recovered:=V}::older)/\w'=(w.setCell ⟨pB,0,Z⟩ (qE Z)).setCell ⟨eB,0,Z⟩ (.iface 123 pv):=by
 have ta:=AgY pv;refine callsD_of_wpS func68 rfl λc₀ cs hu=>?_
 apply wpS_seq;apply wpS_region;simp[wpOpsS,go_sem,recoverD,hu,ntmps68,Exit.thenS,ta];apply wpS_seq;apply wpS_region;simp[wpOpsS,go_sem,ntmps68,Exit.thenS];refine wpS_cond (t:=V) (by simp[Act.eval,Array.replicate]) ?_;simp only[Qh];apply wpS_region;simp[wpOpsS,go_sem,hc,hz,hd,hy,hne,bodyPostS,results,results68]
theorem rD (pB eB:Nat) (w:World):
  CallsD prog 68 #[iJ pB,iJ eB] .returning w λe u' w'=>e= qF (qC #[])/\u'=.returning/\w'=w:=by
 have ta:=Ad0;refine callsD_of_wpS func68 rfl λc₀ cs hu=>?_
 apply wpS_seq;apply wpS_region;simp[wpOpsS,go_sem,recoverD,hu,ntmps68,Exit.thenS,ta];apply wpS_seq;apply wpS_region;simp[wpOpsS,go_sem,ntmps68,Exit.thenS];refine wpS_cond (t:=I) (by simp[Act.eval,Array.replicate]) ?_;simp only[Qb,J1];refine wpS_of_wp (wp_skip ?_);cases c₀;simp_all[bodyPostS,results,results68]
theorem WY {v0 v:Value} (h:Ci w b #[v0] T):Ci (w.setCell ⟨b,0,Z⟩ v) b #[v] T:=h.set 0 v
theorem p9 {T:Array Value} (h2:T[2]?=U (iJ pB)) (h3:T[3]?=U (iJ eB))
  (hp:Ci w5 pB #[qE Z] tp) (he:Ci w5 eB #[.nilIface] te) (hne:eB≠pB) (Ul:te=85) (htp:tp=117)
  (h:Post (qF (qC #[qE Z,.iface 123 pv])) ((w5.setCell ⟨pB,0,Z⟩ (qE Z)).setCell ⟨eB,0,Z⟩ (.iface 123 pv))):
  bodyPostD prog f50 Post (Exit.panic [{v:=.iface 123 pv,recovered:=I}]) {tmps:=T,defers:=[{target:=Target.fn (Fn.func 68) #[iJ pB,iJ eB],args:= #[]}]} w5:=by
 subst Ul;subst htp;have c1:=hp.cell 0;have c2:=he.cell 0;have B1:Ci ((w5.setCell ⟨pB,0,Z⟩ (qE Z)).setCell ⟨eB,0,Z⟩ (.iface 123 pv)) pB #[qE Z] 117:=(WY hp).FZ (λe=>hne e.symm) _;have B2:Ci ((w5.setCell ⟨pB,0,Z⟩ (qE Z)).setCell ⟨eB,0,Z⟩ (.iface 123 pv)) eB #[.iface 123 pv] 85:=WY (he.FZ hne _);have d1:=B1.cell 0;have d2:=B2.cell 0;refine leaves_cons (f:=68) (args:= #[iJ pB,iJ eB]) EQ (by simp[go_sem]) ?_;refine(XD pB eB pv _ _ [] w5 c1 (hp.free 0) c2 (he.free 0) hne).mono ?_;rintro e u' w'' ⟨rfl,rfl,rfl⟩;generalize (w5.setCell ⟨pB,0,Z⟩ (qE Z)).setCell ⟨eB,0,Z⟩ (.iface 123 pv)=w6 at*;simp[Leaves,settle,results,results50,go_sem,h2,h3,d1,d2];exact h
theorem Afy {T:Array Value} (h2:T[2]?=U (iJ pB)) (h3:T[3]?=U (iJ eB))
  (hp:Ci w5 pB #[pv] tp) (he:Ci w5 eB #[.nilIface] te) (Ul:te=85) (htp:tp=117)
  (h:Post (qF (qC #[pv,.nilIface])) w5):
  bodyPostD prog f50 Post Exit.ret {tmps:=T,defers:=[{target:=Target.fn (Fn.func 68) #[iJ pB,iJ eB],args:= #[]}]} w5:=by
 subst Ul;subst htp;have c1:=hp.cell 0;have c2:=he.cell 0;refine leaves_cons (f:=68) (args:= #[iJ pB,iJ eB]) EQ (by simp[go_sem]) ?_;refine(rD pB eB w5).mono ?_;rintro e u' w'' ⟨rfl,rfl,rfl⟩;simp[Leaves,settle,results,results50,go_sem,h2,h3,c1,c2];exact h
def rO (res:Except (Int×Nat) qH) (w:World) (e:Ending) (w':World):Prop:=match res with
 |.error c=>∃fb,e= qF (qC #[qE Z,.iface 123 (iJ fb)])/\Ci w' fb #[iI c.1,iI c.2] 127/\Az [] w w'
 |.ok y=>∃F pb tp tc rows,e= qF (qC #[iJ pb,.nilIface])/\Az [] w w'/\AY w' [] F/\(pb,qG #[m9 tp (J y.Aa) tc,iI y.cells] 146 (0,0))∈F/\Ew F (m9 tp (J y.Aa) tc) rows/\GZ F y.Aa rows
def km (w0:World) (rb:Nat) (rows:Array Value):List (Nat×Obj):=
 [(w0.heap.size,qG #[qE Z] 117 (0,0)),(w0.heap.size+1,qG #[.nilIface] 85 (0,0)),(rb,qG rows 9 (0,0))]
structure yV (w0:World) (mb rb:Nat) (rows:Array Value) (s:By) (k:Nat) (g:FG) (F:List (Nat×Obj)) (wv:Value) (Ae:Int) (x:qH) (wr:World):Prop where
 pa:PA F g x wv Ae wr
 AJ:AY wr (g.Ui x wv Ae) (km w0 rb rows)
 gl:GlK mb wr (g.Ui x wv Ae)
 new:∀b,b∈Et (g.Ui x wv Ae)->w0.heap.size<=b
 mod:Az [] w0 wr
 fw:FW x
 fn:FN x
 cl:x.cells<=6*k
 tl:J x.Aa<=k
 go:Fl s=IG ((AD 10 s).drop k) k x
 bd:np g
 tv:J g.tv<=3000
def PI (w0:World) (mb rb:Nat) (rows:Array Value) (s:By) (xb:Nat) (k:Nat) (wr:World):Prop:=∃g F wv Ae x,g.xb=xb/\yV w0 mb rb rows s k g F wv Ae x wr
theorem fy (h:b∈PM g x wv Ae):b∈Et (g.Ui x wv Ae):=by
 unfold PM at h;by_cases hx:x.Aa=[]
 .rw[Jb hx] at h;rw[GQ hx];rw[GE] at h;rw[h];exact mbN
 .rw[In hx] at h;rw[F2 hx];exact h
theorem eY (t:Bj):(Ft t:Int)=IE t:=by
 induction t<;>simp only[Ft,IE]<;>omega
theorem Aac {o:Fr} (h:o∈os):IE o.body<=Mk os:=by
 induction os with
 |nil=>cases h
 |cons f fs ih=>
  have h1:=Tq f.body;have h2:=fa fs;simp only[Mk];rcases Jl.1 h with rfl|h
  .omega
  .have:=ih h;omega
theorem Aad (os:List Fr):(J os:Int)<=Mk os:=by
 induction os with
 |nil=>simp[Mk]
 |cons f fs ih=>have:=Tq f.body;simp only[Mk,Jg];omega
theorem KO.us (h:KO F fs os):∀f,f∈fs->∃o,o∈os/\J f.us<=Ft o.body:=by
 induction fs generalizing os with
 |nil=>intro f hf;cases hf
 |cons f fs ih=>
  obtain⟨o,r,rfl,h2,h3⟩:=h;intro f' hf;rcases Jl.1 hf with rfl|hf
  .exact⟨o,Jd ..,h2.st.len⟩
  .obtain⟨o',h4,h5⟩:=ih h3 f' hf;exact⟨o',Id _ h4,h5⟩
theorem PA.bd (h:PA F g x wv Ae w) (hn:FN x) (ht:J x.Aa<=2500):
  ∃g',g'.xb=g.xb/\PA F g' x wv Ae w/\g'.Ui x wv Ae=g.Ui x wv Ae/\np g'/\J g'.tv<=3000:=by
 by_cases hx:x.Aa=[]
 .have e:FG.Ui {g with cs:=[],fr:=[],tv:=[]} x wv Ae=g.Ui x wv Ae:=by rw[GQ hx,GQ hx];rfl
  exact⟨{g with cs:=[],fr:=[],tv:=[]},rfl,⟨by rw[e];exact h.Ak,by rw[e];exact h.AJ,λhy=>Jk hx hy,h.kz⟩,e,⟨EQ,EQ,EQ⟩,EQ⟩
 .have hf:=h.D1 hx;obtain⟨⟨ts,t,h1,h2,h3⟩,h4⟩:=hf;have fU:=hn.tot ts t h1;have hs:=hn.s1;have e1:=Tq t;have e2:=fa x.Ad;refine⟨g,rfl,h,rfl,⟨?_,λf hf=>?_,?_⟩,?_⟩
  .have:=h3.len;have:=eY t;omega
  .obtain⟨o,h5,h6⟩:=h4.us f hf;have:=Aac h5;have:=eY o.body;omega
  .have:=Aad x.Ad;have:=h4.len;omega
  .have:=h2.len;rw[h1] at ht;simp at ht;omega
theorem Md (x:qH) (s:Bj->Bj):(x.add s).cells=x.cells/\(x.add s).Aa.length=J x.Aa:=by
 unfold qH.add;split
 .exact⟨rfl,rfl⟩
 .split
  .rename_i t ht;obtain⟨ts,h⟩:=List.getLast?_eq_some_iff.1 ht;simp[h]
  .exact⟨rfl,rfl⟩
theorem W8 {n:ByteArray} (h:x.Df n=.ok (v,y)):y.cells=x.cells/\J y.Aa=J x.Aa:=by
 exact mbb
theorem gp {s:Vw} (h:x.finish s=.ok y):y.cells=x.cells/\J y.Aa=J x.Aa:=by
 cases s with
 |set n a op b=>
  simp only[qH.finish] at h;split at h
  .cases h
  .exact ma8
 |get n s i=>
  simp only[qH.finish] at h;exact ma8
 |put n a i=>
  simp only[qH.finish] at h;split at h
  .cases h
  .split at h
   .cases h
   .cases h;exact Md _ _
 |out a=>
  simp only[qH.finish] at h;split at h
  .cases h
  .cases h;exact Md _ _
 |atomic=>simp only[qH.finish] at h;cases h;exact⟨rfl,rfl⟩
 |Es a=>
  simp only[qH.finish] at h;split at h
  .cases h
  .cases h;exact⟨rfl,rfl⟩
 |loop n=>simp only[qH.finish] at h;cases h;exact⟨rfl,rfl⟩
theorem AaL (h:x.row l=.ok y):y.cells<=x.cells+6/\J y.Aa<=J x.Aa+1:=by
 cases l with
 |nil=>cases h
 |cons w r=>
  by_cases h0:bs w=AR
  .rw[Iu h0] at h;unfold qH.Ec at h;split at h
   .cases h
   .split at h
    .cases h
    .cases h
    .rename_i sz hz;split at h
     .cases h
     .split at h
      .cases h
      .cases h;refine⟨?_,EQ⟩;show x.cells+_<=x.cells+6;split at hz
       .cases hz;omega
       .have:=Yj hz;omega
  by_cases h1:bs w=AE
  .rw[M4 h1] at h;split at h
   .cases h
   .split at h
    .cases h
    .cases h;simp;omega
  by_cases h2:bs w=EK
  .rw[ZH h2] at h;split at h
   .cases h
   .split at h
    .cases h
    .cases h;obtain⟨a1,a2⟩:=Md {x with Ad:=x.Ad.dropLast} (Fr.done _);rw[a1,a2];simp;omega
  .rw[ZG h0 h1 h2] at h;cases hr:IF w r with
   |none=>rw[Cb hr] at h;cases h
   |some s=>
    rw[FB hr] at h;unfold qH.PY at h;split at h
    .cases h
    .split at h
     .cases h
     .rename_i y' hf;split at h
      .cases h
      .cases h;obtain⟨a1,a2⟩:=gp hf;show y'.cells<=_/\J y'.Aa<=_;omega
theorem pY (c:UInt8) (l:List By) (p:By):RC c (l++[p])=l.map (· ++[c])++[p]:=by
 induction l with
 |nil=>rfl
 |cons a l ih=>
  cases l with
  |nil=>rfl
  |cons b q=>simp only[Jx,RC,Js] at ih⊢;rw[ih]
theorem nU (c:UInt8) (s:By):∀p,p∈AD c s->c∉p:=by
 induction s with
 |nil=>intro p hp;simp[AD] at hp;subst hp;simp
 |cons x r ih=>
  intro p hp;by_cases h:x=c
  .simp only[AD,Jb h] at hp;rcases Jl.1 hp with rfl|hp
   .simp
   .exact ih p hp
  .rw[HU c x r h] at hp;cases hs:AD c r with
   |nil=>exact Jk hs (Cc _ _)
   |cons q qs=>
    rw[hs] at hp;rcases Jl.1 hp with rfl|hp
    .intro hm;rcases Jp.1 hm with hm|hm
     .rw[GE] at hm;exact h hm.symm
     .exact ih q (by rw[hs];exact Jd ..) hm
    .exact ih p (by rw[hs];exact Id _ hp)
theorem OD (c:UInt8) (s:By):∀p,p∈AD c s->J p<=J s:=by
 induction s with
 |nil=>intro p hp;simp[AD] at hp;subst hp;exact Jf _
 |cons x r ih=>
  intro p hp;by_cases h:x=c
  .exact ma9
  .rw[HU c x r h] at hp;cases hs:AD c r with
   |nil=>exact Jk hs (Cc _ _)
   |cons q qs=>
    rw[hs] at hp;rcases Jl.1 hp with rfl|hp
    .have:=ih q (by rw[hs];exact Jd ..);simp;omega
    .have:=ih p (by rw[hs];exact Id _ hp);simp only[Jg];omega
theorem AfA (p:By):Lib.hasSuffix (p++[10]) [10]=V/\Lib.trimSuffix (p++[10]) [10]=p:=by
 have h:Lib.hasSuffix (p++[10]) [10]=V:=by unfold Lib.hasSuffix;rw[List.isSuffixOf_iff_suffix];exact⟨p,rfl⟩
 refine⟨h,?_⟩;unfold Lib.trimSuffix;rw[Jb h];simp
theorem Aiy {p:By} (hp:(10:UInt8)∉p):Lib.hasSuffix p [10]=I/\Lib.trimSuffix p [10]=p:=by
 have h:Lib.hasSuffix p [10]=I:=by
  rw[<-jU];unfold Lib.hasSuffix;rw[List.isSuffixOf_iff_suffix];rintro⟨q,rfl⟩;exact hp EQ
 refine⟨h,?_⟩;unfold Lib.trimSuffix;rw[h];rfl
theorem Oc {T:Array Value} {res:Except (Int×Nat) qH} {fb:Nat} (h2:T[2]?=U (iJ w0.heap.size)) (h3:T[3]?=U (iJ (w0.heap.size+1)))
  (hp:Ci W w0.heap.size #[qE Z] 117) (he:Ci W (w0.heap.size+1) #[.nilIface] 85) (hfb:W.heap[fb]?=U (qG #[iI c,iI Ae] 127 (0,0))) (hm:Az [] w0 W) (AG:res=.error (c,n)) (hl:Ae=n):
  bodyPostD prog f50 (rO res w0) (Exit.panic [{v:=.iface 123 (iJ fb),recovered:=I}]) {tmps:=T,defers:=[{target:=Target.fn (Fn.func 68) #[iJ w0.heap.size,iJ (w0.heap.size+1)],args:= #[]}]} W:=by
 refine p9 h2 h3 hp he Y rfl rfl ?_;subst hl;subst AG;have n1:fb≠w0.heap.size:=by rintro rfl;unfold Ci at hp;rw[hp] at hfb;simp at hfb
 have n2:fb≠w0.heap.size+1:=by rintro rfl;unfold Ci at he;rw[he] at hfb;simp at hfb
 exact⟨fb,rfl,Ci.FZ (Ci.FZ hfb n1 _) n2 _,(hm.setCell (.inr (Jf _)) _).setCell (.inr (JI _)) _⟩
theorem YR (K:AY W L (km w0 rb rows)):Ci W w0.heap.size #[qE Z] 117/\Ci W (w0.heap.size+1) #[.nilIface] 85/\Ci W rb rows 9:=
 ⟨K.heap _ _ (by simp[km]),K.heap _ _ (by simp[km]),K.heap _ _ (by simp[km])⟩
theorem Aa1 {wc:World} (K:AY wc [] (km w rb rows)) (hm:Az [] w wc) (hg:Gl mb wc) (hl:¬2000<J s):
  PI w mb rb rows s (wc.heap.size+2) 0 (((wc.alloc (qG #[m9 Z 0 0,iI 0] 146)).alloc (.map #[] 0)).alloc (qG #[m9 Z 0 0,iI 0,iJ wc.heap.size,.map (U (wc.heap.size+1)),.map Z,m9 Z 0 0,iI 0] 151)):=by
 have a1:=Ai.new (Aq.nil wc) (qG #[m9 Z 0 0,iI 0] 146);have a2:=a1.trans (Ai.new a1.Ak (.map #[] 0));have a3:=a2.trans (Ai.NP a2.Ak (qG #[m9 Z 0 0,iI 0,iJ wc.heap.size,.map (U (wc.heap.size+1)),.map Z,m9 Z 0 0,iI 0] 151));rw[Kk,Kk] at a3;have e:FG.Ui ⟨wc.heap.size+1+1,wc.heap.size,wc.heap.size+1,0,0,0,[],⟨Z,0⟩,[],0,0,[]⟩ .Dr (m9 Z 0 0) 0=[.Ao (wc.heap.size+1+1) #[m9 Z 0 0,iI 0,iJ wc.heap.size,.map (U (wc.heap.size+1)),.map Z,m9 Z 0 0,iI 0] 151,.Ao wc.heap.size #[m9 Z 0 0,iI 0] 146,.W2 (wc.heap.size+1) (.map #[] 0)]:=rfl;have hg3:GlK mb wc []:=⟨hg,λb _ h=>by simp[Et] at h⟩;refine⟨⟨wc.heap.size+1+1,wc.heap.size,wc.heap.size+1,0,0,0,[],⟨Z,0⟩,[],0,0,[]⟩,[],m9 Z 0 0,0,.Dr,rfl,⟨⟨?_,AY.nil _ _,λh=>Jk rfl h,λ_=>⟨rfl,rfl,rfl⟩⟩,?_,?_,?_,?_,.Dr,.Dr,?_,?_,?_,⟨EQ,EQ,EQ⟩,EQ⟩⟩
 .rw[e];exact a3.Ak
 .rw[e];exact K.step a3
 .rw[e];exact hg3.step a3
 .intro b hb;rw[e] at hb;have:=hm.size;rcases a3.fp b hb with h|h
  .simp[Et] at h
  .omega
 .exact hm.Aj (a3.mod.mono λx hx=>by simp[Et] at hx)
 .simp[qH.Dr]
 .simp[qH.Dr]
 .unfold Fl;rw[In hl];rfl
theorem yV.row (h:yV w0 mb rb rows s k g F wv Ae x wr) {wv':Value} {line':Int} (hW:ig W g.xb (g.vu x) wv' line') (hm:Az [g.xb] wr W):
  yV w0 mb rb rows s k g F wv' line' x W:=by
 obtain⟨h1,h2⟩:=h.pa.re hW hm;refine⟨h1,h.AJ.step h2,h.gl.step h2,λb hb=>?_,h.mod.trans h2.mod λb hb=> .inr (h.new b hb),h.fw,h.fn,h.cl,h.tl,h.go,h.bd,h.tv⟩;rcases h2.fp b hb with h3|h3
 .exact h.new b h3
 .have:=h.mod.size;omega
theorem yV.quiet (h:yV w0 mb rb rows s k g F wv Ae x wr) (hm:Az [] wr W):yV w0 mb rb rows s k g F wv Ae x W:=
 h.row (h.pa.pst.px.mod hm EQ) hm.nil
theorem yV.fail (h:yV w0 mb rb rows s k g F wv Ae x wr) (hm:Az (PM g x wv Ae) wr W):
  Ci W w0.heap.size #[qE Z] 117/\Ci W (w0.heap.size+1) #[.nilIface] 85/\Az [] w0 W:=
 ⟨hm.heap (YR h.AJ).1 (λhb=>h.AJ.out _ _ (Jd ..) (fy hb)),hm.heap (YR h.AJ).2.1 (λhb=>h.AJ.out _ _ (Id _ (Jd ..)) (fy hb)),h.mod.trans hm λb hb=> .inr (h.new b (fy hb))⟩
theorem yV.next (h:yV w0 mb rb rows s k g F wv Ae x wr) {l:Ws} (hr:x.row l=.ok y) (tD:Fl s=IG ((AD 10 s).drop (k+1)) (k+1) y) (hk:k<=2400)
  {g':FG} {F':List (Nat×Obj)} {wv':Value} (yM:g'.xb=g.xb) (st:Ai wr (g.Ui x wv Ae) W (g'.Ui y wv' Ae)) (hp:PA F' g' y wv' Ae W):PI w0 mb rb rows s g.xb (k+1) W:=by
 obtain⟨hw,hn⟩:=qH.oq h.fw h.fn hr;obtain⟨c1,c2⟩:=AaL hr;have htl:=h.tl;have B8:=h.cl;obtain⟨g2,e1,p2,e2,b2,t2⟩:=hp.bd hn Y;rw[<-e2] at st;refine⟨g2,F',wv',Ae,y,by rw[e1,yM],⟨p2,h.AJ.step st,h.gl.step st,λb hb=>?_,h.mod.trans st.mod λb hb=> .inr (h.new b hb),hw,hn,Y,Y,tD,b2,t2⟩⟩;rcases st.fp b hb with h3|h3
 .exact h.new b h3
 .have:=h.mod.size;omega
theorem AeW {ini:List By} {pl:By} {m:Nat} (hP:AD 10 s=ini++[pl]) (hk:k<m) (hm:m<=J ini+1) (hl:J ini<m->¬(pl=[]/\0<J ini)):
  ∃(q p:By) (en:Bool),(Bq (List.map AU (List.map (λx=>x++[10]) ini++[pl])))[k]?=U (qA (AU q))/\Lib.hasSuffix q [10]=en/\Lib.trimSuffix q [10]=p/\J q<=J s+1/\J p<=J s/\
   (en=V->∀x,IG ((AD 10 s).drop k) k x=match x.row (Bt p) with|.error c=> .error (c,k+1)|.ok y=>IG ((AD 10 s).drop (k+1)) (k+1) y)/\(en=I->∀x,IG ((AD 10 s).drop k) k x=.error (2,k+1)):=by
 have hlen:=OD 10 s;by_cases h:k<J ini
 .obtain⟨c1,c2⟩:=AfA ini[k];have hpm:ini[k]∈AD 10 s:=by rw[hP];exact IR _ (JP h)
  refine⟨ini[k]++[10],ini[k],V,?_,c1,c2,?_,hlen _ hpm,λ_ x=>?_,(λh=>by cases h)⟩
  .simp only[Bq,jM,JQ,Js,Qu];rw[J5 (by simpa using h),JS,Ja h];rfl
  .have:=hlen _ hpm;simp;omega
  .rw[hP];have e1:(ini++[pl]).drop k=ini[k]::(ini++[pl]).drop (k+1):=by
    rw[JO (by simp;omega),List.getElem_append_left h]
   rw[e1];cases hd:(ini++[pl]).drop (k+1) with
   |nil=>have:=JM List.length hd;simp at this;omega
   |cons a r=>rfl
 .have MY:k=J ini:=Y
  subst MY;have Um:=nU 10 s pl (by rw[hP];simp);obtain⟨c1,c2⟩:=Aiy Um;have hpm:pl∈AD 10 s:=by rw[hP];simp
  refine⟨pl,pl,I,?_,c1,c2,?_,hlen _ hpm,(λh=>by cases h),λ_ x=>?_⟩
  .simp[Bq]
  .have:=hlen _ hpm;omega
  .rw[hP,List.drop_left];show(if _ then _ else _)=_;rw[In (hl Y)]
def xQ (p e:Nat) (F:List (Nat×Obj)):List (Nat×Obj):=F.filter λq=>decide (q.1≠p/\q.1≠e)
structure Flt (p e:Nat) (F:List (Nat×Obj)) (w:World):Prop where
 k:∀b o,(b,o)∈F->w.heap[b]?=U o
 p:Ci w p #[qE Z] 117
 e:Ci w e #[.nilIface] 85
section
variable {p e:Nat} {F:List (Nat×Obj)} {w:World}
theorem Flt.mem (h:Flt p e F w) {b:Nat} {c:Array Value} {T:TypeId} (hb:(b,qG c T (0,0))∈F) (n1:¬(c= #[qE Z]/\T=117)) (n2:¬(c= #[.nilIface]/\T=85)):(b,qG c T (0,0))∈xQ p e F:=by
 refine j8.2 ⟨hb,?_⟩;rw[JB];refine⟨λ(he:b=p)=>n1 ?_,λ(he:b=e)=>n2 ?_⟩
 .have h1:=h.k _ _ hb;have h2:=h.p;exact mbp
 .have h1:=h.k _ _ hb;have h2:=h.e;exact mbp
theorem Flt.kG (h:Flt p e F w) {b:Nat} {c:Array Value} {T:TypeId} (hb:(b,qG c T (0,0))∈F) (n1:T≠117) (n2:T≠85):(b,qG c T (0,0))∈xQ p e F:=h.mem hb (λh=>n1 h.2) (λh=>n2 h.2)
theorem Flt.row (h:Flt p e F w) {sl:Value} {ws:List Value} (hr:Ew F sl ws) (hw:∀v,v∈ws->v≠ qE Z/\v≠ .nilIface):Ew (xQ p e F) sl ws:=by
 rcases hr with hr|⟨b,c,T,Ic,h1,h2,h3⟩
 .exact .inl hr
 .cases ws with
  |nil=>exact .inl ⟨rfl,_,c,h1⟩
  |cons v us=>
   have hv:v∈Ic.toList:=by
    have:v∈Ic.toList.take (v::us).length:=by rw[<-h3];exact Jd ..
    exact List.take_subset _ _ this
   refine .inr ⟨b,c,T,Ic,h1,h.mem h2 ?_ ?_,h3⟩
   .rintro⟨rfl,_⟩;simp at hv;exact(hw v (Jd ..)).1 hv
   .rintro⟨rfl,_⟩;simp at hv;exact(hw v (Jd ..)).2 hv
theorem D8.ifc {t:Bj} (h:D8 F t vs):∀v,v∈vs->v≠ qE Z/\v≠ .nilIface:=by
 induction t generalizing vs with
 |nil=>rw[h];intro v hv;cases hv
 |set _ _ _ _ r ih=>obtain⟨q,us,rfl,_,h3⟩:=h;intro v hv;rcases Jl.1 hv with rfl|hv;exact⟨EQ,EQ⟩;exact ih h3 v hv
 |get _ _ _ _ r ih=>obtain⟨q,us,rfl,_,h3⟩:=h;intro v hv;rcases Jl.1 hv with rfl|hv;exact⟨EQ,EQ⟩;exact ih h3 v hv
 |put _ _ _ _ r ih=>obtain⟨q,us,rfl,_,h3⟩:=h;intro v hv;rcases Jl.1 hv with rfl|hv;exact⟨EQ,EQ⟩;exact ih h3 v hv
 |out _ r ih=>obtain⟨q,us,rfl,_,h3⟩:=h;intro v hv;rcases Jl.1 hv with rfl|hv;exact⟨EQ,EQ⟩;exact ih h3 v hv
 |atomic _ r _ ih=>obtain⟨q,us,_,_,rfl,_,_,_,h3⟩:=h;intro v hv;rcases Jl.1 hv with rfl|hv;exact⟨EQ,EQ⟩;exact ih h3 v hv
 |Es _ _ r _ ih=>obtain⟨q,us,_,_,rfl,_,_,_,h3⟩:=h;intro v hv;rcases Jl.1 hv with rfl|hv;exact⟨EQ,EQ⟩;exact ih h3 v hv
 |loop _ _ r _ ih=>obtain⟨q,us,_,_,rfl,_,_,_,h3⟩:=h;intro v hv;rcases Jl.1 hv with rfl|hv;exact⟨EQ,EQ⟩;exact ih h3 v hv
theorem Flt.st (h:Flt p e F w) {t:Bj} {vs:List Value} (hs:D8 F t vs):D8 (xQ p e F) t vs:=by
 induction t generalizing vs with
 |nil=>exact hs
 |set v op a b r ih=>obtain⟨q,us,h1,h2,h3⟩:=hs;exact⟨q,us,h1,h.kG h2 Do Do,ih h3⟩
 |get v f s a r ih=>obtain⟨q,us,h1,h2,h3⟩:=hs;exact⟨q,us,h1,h.kG h2 Do Do,ih h3⟩
 |put f s i a r ih=>obtain⟨q,us,h1,h2,h3⟩:=hs;exact⟨q,us,h1,h.kG h2 Do Do,ih h3⟩
 |out a r ih=>obtain⟨q,us,h1,h2,h3⟩:=hs;exact⟨q,us,h1,h.kG h2 Do Do,ih h3⟩
 |atomic b r ib ih=>obtain⟨q,us,sl,ws,h1,h2,h3,h4,h5⟩:=hs;exact⟨q,us,sl,ws,h1,h.kG h2 Do Do,h.row h3 h4.ifc,ib h4,ih h5⟩
 |Es a b r ib ih=>obtain⟨q,us,sl,ws,h1,h2,h3,h4,h5⟩:=hs;exact⟨q,us,sl,ws,h1,h.kG h2 Do Do,h.row h3 h4.ifc,ib h4,ih h5⟩
 |loop n b r ib ih=>obtain⟨q,us,sl,ws,h1,h2,h3,h4,h5⟩:=hs;exact⟨q,us,sl,ws,h1,h.kG h2 Do Do,h.row h3 h4.ifc,ib h4,ih h5⟩
theorem Flt.ths (h:Flt p e F w) {ts:List Bj} {vs:List Value} (hs:GZ F ts vs):GZ (xQ p e F) ts vs:=by
 induction ts generalizing vs with
 |nil=>exact hs
 |cons t r ih=>obtain⟨sl,ws,us,h1,h2,h3,h4⟩:=hs;exact⟨sl,ws,us,h1,h.row h2 h3.ifc,h.st h3,ih h4⟩
theorem GZ.sls (h:GZ F ts vs):∀v,v∈vs->v≠ qE Z/\v≠ .nilIface:=by
 induction ts generalizing vs with
 |nil=>rw[h];intro v hv;cases hv
 |cons t r ih=>
  obtain⟨sl,ws,us,rfl,h2,_,h4⟩:=h;intro v hv;rcases Jl.1 hv with rfl|hv
  .obtain⟨p,c,rfl⟩:=h2.L9;exact⟨EQ,EQ⟩
  .exact ih h4 v hv
end
theorem vB {w6:World} {F':List (Nat×Obj)} {lv ov sv:Value} {tp:Option Addr} {tc:Nat} {rs:List Value}
  (hI:yV w0 mb rb rows s k g F wv Ae x w5) (hF:Alv F g x wv Ae w5 lv ov sv tp tc rs F') (hm:Az [] w5 w6):
  rO (.ok x) w0 (qF (qC #[iJ g.pb,.nilIface])) ((w6.setCell ⟨w0.heap.size,0,Z⟩ (iJ g.pb)).setCell ⟨w0.heap.size+1,0,Z⟩ .nilIface):=by
 obtain⟨E,K,hr⟩:=Tt (A:=[_,_,_]) hF.st.Ak hF.AJ;have Mn:=hF.st.Ak.Ao (i:=1) rfl;obtain⟨kp,ke,_⟩:=YR hI.AJ;have hfl:Flt w0.heap.size (w0.heap.size+1) ((g.pb,qG #[m9 tp (J rs) tc,iI x.cells] 146 (0,0))::(E++F')) w6:=by
  refine⟨λb o hb=>?_,kp.mod hm EQ,ke.mod hm EQ⟩;rcases Jl.1 hb with hb|hb
  .cases hb;exact hm.heap Mn EQ
  .exact hm.heap (K.heap b o hb) EQ
 have hlen:=hF.ths.len;have AlV:=hF.ths.sub (E:=(g.pb,qG #[m9 tp (J rs) tc,iI x.cells] 146 (0,0))::(E++F')) (λ_ h=>Id _ (Jc _ h));have EX:=hr.sub (E:=(g.pb,qG #[m9 tp (J rs) tc,iI x.cells] 146 (0,0))::(E++F')) (λ_ h=>Id _ h);refine⟨xQ w0.heap.size (w0.heap.size+1) ((g.pb,qG #[m9 tp (J rs) tc,iI x.cells] 146 (0,0))::(E++F')),g.pb,tp,tc,rs,rfl,?_,⟨λb o hb=>?_,λb o _ h=>by simp[Et] at h⟩,?_,?_,hfl.ths AlV⟩
 .exact((hI.mod.Aj hm).setCell (.inr (Jf _)) _).setCell (.inr (JI _)) _
 .obtain⟨h1,h2⟩:=j8.1 hb;rw[JB] at h2;rw[Below.heap_setCell _ _ _ _ h2.2,Below.heap_setCell _ _ _ _ h2.1];exact hfl.k b o h1
 .rw[<-hlen];exact hfl.kG (Jd ..) Do Do
 .rw[<-hlen];exact hfl.row EX hF.ths.sls
theorem pU (mb:Nat) (s:ByteArray) (w:World) (hg:Gl mb w) (hs:s.size<=1000000):
  Calls prog 50 #[qA s] w (rO (Fl (bs s)) w):=by
 have hmf:∀(fn:Fn) (first cap:Array Value) (w:World),(Instr.makeFunc fn first cap).run prog w=.ok (.func fn first cap) w:=λ_ _ _ _=>rfl
 have yP:= @run_makeMap prog;have K0:AY ((w.alloc (qG #[qE Z] 117)).alloc (qG #[.nilIface] 85)) [] [(w.heap.size,qG #[qE Z] 117 (0,0)),(w.heap.size+1,qG #[.nilIface] 85 (0,0))]:=by
  have a:=(AY.new (AY.new (AY.nil w []) (Aq.nil w) (qG #[qE Z] 117)) (Aq.nil _) (qG #[.nilIface] 85));rw[Kk] at a;exact a.sub (λx hx=>by simp only[Jl,QV,or_false] at hx⊢;exact hx.symm)
 have m0:Az [] w ((w.alloc (qG #[qE Z] 117)).alloc (qG #[.nilIface] 85)):=((Az.refl [] w).alloc _).alloc _;have HK0:=D K0;have HM0:=D m0;have HG:=D hg;clear K0 m0 hg;by_cases hl:2000<s.size
 .have tC:2000<(s.size:Int):=Y
  have Hr:=D (show Fl (bs s)=.error (1,0) by unfold Fl;rw[Jb (by rw[Br];exact hl)]);clear hl;go_enter_defers func50,ntmps50;go_wp2_with fail;refine(AP _ _ _).mono ?_;rintro e w5 ⟨⟨fb,rfl,hb⟩,hm⟩;go_wp2;have K:=HK0.quiet hm;exact Oc Eq Eq (K.heap _ _ (Jd ..)) (K.heap _ _ (Id _ (Jd ..))) hb (HM0.Aj hm) Hr rfl
 have tC:¬2000<(s.size:Int):=Y
 go_enter_defers func50,ntmps50;go_wp2_with fail;refine(Yw mb s _ (HG.quiet HM0) hs).mono ?_;intro e w1 he;obtain⟨rb,n,rfl,hn,Dg,lq,hB⟩:=he;obtain⟨ini,pl,hP⟩:∃ini pl,AD 10 (bs s)=ini++[pl]:=by
  exact mbc
 obtain⟨k0,Rr⟩:∃k,k=J ini:=⟨_,rfl⟩;have TN:n=k0+1:=by rw[hn,hP,Rr];simp
 subst TN;have ax:k0<=2001:=by
  have:=GO 10 _ (bs s) (Jf _);have h3:=Lib.count_le (bs s) [10];rw[Br] at h3;omega
 rw[hP,pY] at hB;have K1:AY w1 [] (km w rb (Bq (List.map AU (List.map (λx=>x++[10]) ini++[pl]))).toArray):=by
  have a:=HK0.quiet Dg;refine⟨λb o hb=>?_,λb o _ h=>by simp[Et] at h⟩;simp only[km,Jl,QV,or_false] at hb;rcases hb with hb|hb|hb
  .cases hb;exact a.heap _ _ EQ
  .cases hb;exact a.heap _ _ EQ
  .cases hb;exact hB
 have GG:(Bq (List.map AU (List.map (λx=>x++[10]) ini++[pl]))).length=k0+1:=by simp[Bq,Rr]
 have IP:(Bq (List.map AU (List.map (λx=>x++[10]) ini++[pl])))[k0]?=U (qA (AU pl)):=by simp[Bq,Rr]
 have r0:w1.cell? ⟨rb,k0,Z⟩=U (qA (AU pl)):=by rw[hB.cell,J7];exact IP
 have HP:=D hP;have HK:=D Rr;have HK1:=D K1;have Nt:=D (HM0.Aj Dg);have HRL:=D GG;clear hn hP Rr hB Dg lq K1 GG IP;have Aib:0<=(k0:Int):=Y
 have Amo:k0<(k0:Int)+1:=Y
 obtain⟨tr,htr⟩:∃b,b=decide (pl=[]/\0<k0):=⟨_,rfl⟩;have HTR:=D htr;clear htr;go_upto_region 6 with fail
 go_cut [29] from 18 to 29 (λq w'=>w'=w1/\q= qB tr)
 case first=>
  by_cases hpl:pl=[]
  .subst hpl;have he:(AU []).toList=[]:=by rw[ByteArray.toList_eq];rfl
   have he2:(AU [])=⟨#[]⟩:=rfl;by_cases hk:0<k0
   .exact ma7
   .exact ma7
  .have he:¬(AU pl).toList=[]:=by rw[ByteArray.toList_eq];exact hpl
   have he2:(AU pl).toList.isEmpty=I:=by rw[<-jU,List.isEmpty_iff];exact he
   have Hq:=D (show tr=I by rw[HTR.out];simp[hpl]);clear hpl;go_wp2
   go_meet
   rw[Hq.out];exact⟨rfl,rfl⟩
 case rest=>
  obtain⟨Fu,hq⟩:=hcut;subst Fu;subst hq;clear r0
  go_upto_if 29 with(fail)
  go_cut [4] from 30 to 32 (λq w'=>w'=wc/\q= m9 (U ⟨rb,0,Z⟩) (if tr=V then k0 else k0+1) (k0+1))
  case first=>
   have AnX:k0<=k0+1:=Y
   cases tr with
   |true=>
    go_wp2
    go_meet
    exact⟨rfl,rfl⟩
   |false=>
    go_wp2
    go_meet
    exact⟨rfl,rfl⟩
  case rest=>
   obtain⟨Fu,hq⟩:=hcut;subst Fu;subst hq;obtain⟨m,hm⟩:∃m,m=(if tr=V then k0 else k0+1):=⟨_,rfl⟩;rw[<-hm];have hmk:m<=k0+1:=by rw[hm];split<;>omega
   have hex:∀x,IG ((ini++[pl]).drop m) m x=II m x:=λx=>by
    by_cases ht:tr=V
    .rw[Jb ht] at hm;rw[HTR.out,JB] at ht;obtain⟨rfl,h0⟩:=ht;rw[hm,HK.out,List.drop_left];show(if _ then _ else _)=_;rw[Jb ⟨rfl,by rw[<-HK.out];exact h0⟩]
    .rw[In ht] at hm;rw[hm,HK.out,Qa EQ];rfl
   have Aco:k0<m->¬(pl=[]/\0<k0):=λh hc=>by
    have ht:tr=V:=by rw[HTR.out,JB];exact hc
    rw[Jb ht] at hm;omega
   have HEX:=D hex;have HLK:=D Aco;clear hm hex Aco;have Zt:0<=(m:Int):=Y
   go_wp2;go_loopw [39] (λi wr=>∃k:Nat,i= iI k/\k<=m/\PI w mb rb (Bq (List.map AU (List.map (λx=>x++[10]) ini++[pl]))).toArray (bs s) (wc.heap.size+2) k wr) (λi _=>m-(intOf i).toNat);case atStart=>exact⟨0,rfl,Jr _,Aa1 HK1 Nt (HG.quiet Nt) (by rw[Br];exact hl)⟩
   case round=>
    clear HK0 HM0 HK1 Nt yP Aib Amo;obtain⟨k,rfl,hk,g,F,wv,Ae,x,yM,hI⟩:=hrel;have HI:=D hI;have AnY:0<=(k:Int):=Y
    rw[<-yM];clear yM hI;by_cases hkm:(k:Int)<(m:Int)
    .have Akj:k<m:=Y
     obtain⟨q,p,en,EX,hsf,htr,hql,hpl,Akp,Ako⟩:=AeW HP Akj (by rw[<-HK.out];exact hmk) (by rw[<-HK.out];exact HLK.out);rw[Br] at hql hpl;have hqs:(AU q).size<=1000001:=by rw[<-Br,Dk];omega
     have Wa:(AU p).size<=1000000:=by rw[<-Br,Dk];omega
     have r0:wr.cell? ⟨rb,k,Z⟩=U (qA (AU q)):=by rw[(YR HI.out.AJ).2.2.cell,J7];exact EX
     have hcut:Calls prog 71 #[qA (AU q),qA ⟨#[10]⟩] wr λe w'=>e= qF (qC #[qA (AU p),qB en])/\w'=wr:=by
      refine(strings_CutSuffix (AU q) ⟨#[10]⟩ wr Y).mono ?_;rintro e w' ⟨rfl,rfl⟩;refine⟨?_,rfl⟩;show qF (qC #[qA ⟨(Lib.trimSuffix (bs (AU q)) [10]).toArray⟩,qB (Lib.hasSuffix (bs (AU q)) [10])])=_;rw[Dk,hsf,htr];rfl
     have HPL:=D hpl;have yG:=D hcut;have HG1:=D Akp;have HG2:=D Ako;have Hsp:=D (u6 mb (AU p) wr HI.gl.gl Wa);clear EX hsf htr hql hpl Akp Ako hqs Wa hcut Akj;go_wp2_with fail;refine yG.mono ?_;intro e w2 he;obtain⟨Fx,he2⟩:=he;replace he2:=he2.symm;subst Fx;subst he2;go_wp2_with fail;refine Hsp.mono ?_;intro e w3 he;obtain⟨v,Fx,gW,lg⟩:=he;obtain⟨sp,sc,hv,_,_⟩:=lg.L9;obtain⟨sn,hsn⟩:∃n,n=(Bq (Bt (bs (AU p)))).length:=⟨_,rfl⟩;rw[<-hsn] at hv;subst Fx;subst hv;clear hsn;have I3:=HI.quiet gW;have hpx:=I3.pa.pst.px;obtain⟨hc,hf,hlt⟩:=NI hpx;have hB4:ig (World.setCell (World.setCell w3 ⟨g.xb,0,Z⟩ (m9 sp sn sc)) ⟨g.xb,1,Z⟩ (iI (k+1))) g.xb (g.vu x) (m9 sp sn sc) (k+1):=(hpx.set 0 (m9 sp sn sc)).set 1 (iI (k+1));have XZ:Az [g.xb] w3 (World.setCell (World.setCell w3 ⟨g.xb,0,Z⟩ (m9 sp sn sc)) ⟨g.xb,1,Z⟩ (iI (k+1))):=((Az.refl _ _).setCell (.inl EQ) _).setCell (.inl EQ) _;have I4:=I3.row hB4 XZ;have HB4:=D hB4;have uE:=D I4;have hxr:=Dq HI.pa.pst.px;have aq:g.xb∉dz mb:=λh=>HI.gl.out _ h (fy (Agc EQ))
     have Aj2:Sl (World.setCell (World.setCell w3 ⟨g.xb,0,Z⟩ (m9 sp sn sc)) ⟨g.xb,1,Z⟩ (iI (k+1))) (λb=>b≠g.xb) (m9 sp sn sc) (Bq (Bt p)):=by
      rw[Dk] at lg;exact(lg.mono (λb _ hb=>Y)).mod XZ (λb hb hm=>by rw[GE] at hm;exact hb hm)
     have Am3:=D Aj2;have Hxg:=D aq;clear I3 hpx hB4 XZ I4 lg Aj2 gW hxr aq r0 Hsp yG;cases en with
     |false=>
      have hr:=D (show Fl (bs s)=.error (2,k+1) by rw[HI.out.go];exact HG2.out rfl x);have Hnn:=D (EY _ g.xb (g.vu x) (m9 sp sn sc) (k+1) HB4);go_wp2_with fail;refine Hnn.mono ?_;intro e w5 he;obtain⟨⟨fb,Fx,hb⟩,hm⟩:=he;subst Fx;clear hc hf hlt;go_wp2;obtain⟨h1,h2,h3⟩:=uE.fail (hm.mono (λy hy=>by cases hy));exact mbd
     |true=>
      have AjO:Bt p≠[]:=λh=>Cc 32 p (List.map_eq_nil_iff.1 h)
      have hwz:∀a,a∈Bt p->a.size<=1000000:=λa ha=>by
       obtain⟨y,hy,rfl⟩:=Qf.1 ha;have:=OD 32 p y hy;have h2:=HPL.out;rw[<-Br,Dk];omega
      have yD:=D (AcH (Bt p) AjO mb _ g x (m9 sp sn sc) (k+1) F uE.pa Am3 hwz uE.gl.gl Hxg uE.bd (by have:=uE.fn;exact⟨this.s0,by have:=this.s1;omega⟩) (by have:=uE.cl;have:=uE.fw.c0;omega) (by have:=uE.tl;omega) uE.tv);clear AjO hwz;have HG3:=D (HG1 rfl x);clear HG1 HG2;go_wp2_with fail;refine yD.mono ?_;intro e w5 he;clear hc hf hlt;cases hr:x.row (Bt p) with
      |error c=>
       rw[hr] at he;obtain⟨⟨fb,Fx,hb⟩,hm⟩:=he;subst Fx;have hr:=D (show Fl (bs s)=.error (c,k+1) by rw[HI.out.go,HG3.out,hr]);go_wp2;obtain⟨h1,h2,h3⟩:=uE.fail hm;exact mbd
      |ok y=>
       rw[hr] at he;obtain⟨Fx,g',F',wv',AjN,_,st,hp⟩:=he;subst Fx;have hN:=D (uE.next hr (by rw[HI.out.go,HG3.out,hr]) Y AjN st hp);clear hr st hp AjN;go_wp2;go_roundw;case rel=>exact⟨k+1,by (try rw[Pu trivial]);rfl,Y,hN⟩
       case measure=>(try rw[Pu trivial]);simp[intOf];omega
    .have hke:k=m:=Y
     subst hke;have tD:Fl (bs s)=II k x:=by rw[HI.out.go,HP.out];exact HEX.out x
     have HGO:=D tD;have hpx:=HI.pa.pst.px;obtain⟨hc,hf,hlt⟩:=NI hpx;have I4:=HI.row (hpx.set 1 (iI (k+1))) ((Az.refl _ _).setCell (.inl EQ) _);have He:=D (sJ I4.pa I4.bd.fr);have uE:=D I4;clear tD hpx I4;go_wp2_with fail;refine He.mono ?_;intro e w5 he;clear hc hf hlt He;by_cases ho:x.Ad=[];rotate_left
     .rw[In ho] at he;obtain⟨⟨fb,Fx,hb⟩,hm⟩:=he;subst Fx;have hr:=D (show Fl (bs s)=.error (3,k+1) by rw[HGO.out];unfold II;rw[Jb (.inl ho)]);clear ho;go_wp2;obtain⟨h1,h2,h3⟩:=uE.fail (hm.mono (λy hy=>by cases hy));exact mbd
     rw[Jb ho] at he;obtain⟨Fx,hm⟩:=he;subst Fx;have I5:=uE.quiet hm;by_cases hx:x.Aa=[]
     .have Cp:=I5.pa.Ak;rw[GQ hx] at Cp;obtain⟨hc,hf,hlt,Tb,hpf,fZ,GU⟩:=ZL Cp;have hr:=D (show Fl (bs s)=.error (3,k+1) by rw[HGO.out];unfold II;rw[Jb (.inr hx)]);have HI5:=D I5;clear Cp GU hx ho I5 hm;go_wp2_with fail;refine(AP _ _ _).mono ?_;intro e w6 he;obtain⟨⟨fb,Fx,hb⟩,hm⟩:=he;subst Fx;clear hc hf hlt Tb hpf fZ;go_wp2;obtain⟨h1,h2,h3⟩:=HI5.fail (hm.mono (λy hy=>by cases hy));exact mbd
     .obtain⟨lv,ov,sv,tp,tc,rows,F',hF⟩:=tR I5.pa ho;have hF1:=hF.st.Ak.Ao (i:=0) rfl;have hF2:=hF.st.Ak.Ao (i:=1) rfl;have hxc:=hF1.cell;have Tb:=hF2.cell;have Al0:0<J rows:=by rw[hF.ths.len];exact JE.2 hx
      have GG:((J rows:Int)==0)=I:=by rw[Jh];omega
      have AdI:=D (lO F' x w5 _ g.pb tp tc rows hF.st.Ak rfl rfl hF.AJ hF.ths I5.fw (λt ht=>by have:=I5.fn.all t ht;have:=eY t;omega));have HF:=D hF;have HI5:=D I5;have Hno:=D (show Fl (bs s)=if Ej x then .ok x else .error (5,0) by rw[HGO.out];unfold II;rw[In (λh=>h.elim (λh=>h ho) hx)]);clear hF1 hF2 hF I5 hx ho hm Al0;go_wp2_with fail;refine AdI.mono ?_;intro e w6 he;clear hxc Tb GG;unfold Alc at he;cases hlm:Ej x with
      |false=>
       rw[hlm,In EQ] at he;obtain⟨⟨fb,Fx,hb⟩,hm⟩:=he;subst Fx;have hr:=D (Hno.trans (by rw[hlm]));go_wp2;obtain⟨h1,h2,h3⟩:=HI5.fail (hm.mono (λy hy=>by cases hy));exact Oc Eq Eq h1 h2 hb h3 hr rfl
      |true=>
       rw[hlm,Jb rfl] at he;obtain⟨Fx,hm⟩:=he;subst Fx;have hr:=D (Hno.trans (by rw[hlm]));have na:=vB HI5 HF hm;have Fo:=(HF.st.Ak.quiet hm).Ao (i:=0) rfl;have xc:=Fo.cell;obtain⟨kp,ke,_⟩:=YR (HI5.AJ.quiet hm);have pc:=kp.cell 0;have pf:=kp.free 0;have ec:=ke.cell 0;have ef:=ke.free 0;have hB1:Ci (World.setCell (World.setCell w6 ⟨w.heap.size,0,Z⟩ (iJ g.pb)) ⟨w.heap.size+1,0,Z⟩ .nilIface) w.heap.size #[iJ g.pb] 117:=Ci.FZ (kp.set 0 _) EQ _;have hB2:Ci (World.setCell (World.setCell w6 ⟨w.heap.size,0,Z⟩ (iJ g.pb)) ⟨w.heap.size+1,0,Z⟩ .nilIface) (w.heap.size+1) #[.nilIface] 85:=(ke.FZ EQ _).set 0 _;have HPE:=D na;have Sz:=D hB1;have HB2:=D hB2;clear na Fo kp ke hB1 hB2 hm hlm;go_wp2;refine Afy Eq Eq Sz HB2 rfl rfl ?_;rw[hr.out];exact HPE.out
