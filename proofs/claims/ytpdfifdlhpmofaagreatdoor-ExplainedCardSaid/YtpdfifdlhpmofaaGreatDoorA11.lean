/- Part 11 of the proof. -/
import Derived.Test.YtpdfifdlhpmofaaGreatDoorA10
set_option linter.unusedVariables false
set_option linter.unusedSimpArgs false
set_option maxHeartbeats 0
set_option maxRecDepth 99999
namespace Go.Proofs.YtpdfifdlhpmofaaGreatDoor
open Go.RowKit Tryz
open Value renaming slice->qD,string->qE,bool->qF,tuple->qG,agg->qH,pointer->qI
open Ending renaming returned->qJ
open Obj renaming cells->qK
open Option renaming none->Z,some->U
open Bool renaming true->V,false->I
open Go.Lib renaming hid->D
open List renaming length->J
variable {p:Prop}
theorem maa (h:p:=by
 go_wp2_with fail;refine(du l _ _ g R n (Af.quiet H Hm).Ak HL HI HTn (Hw.mod Hm EQ) Hs M8 Hlb H1 H2 H3).mono ?_;intro e w2 he;unfold nW at he;obtain⟨j0,hj,LP,KZ,MH⟩:=info_parts Wt;obtain⟨i0,hi,I6,K6,LQ⟩:=info_parts Rl;cases GO:R.node l with
 |error cc=>
  rw[GO] at he;obtain⟨x,rfl,Fa⟩:=he;have Ux:=D GO;have X8:=D Fa;clear Fa;rcases Zq GO with rfl|rfl;all_goals (
    clear GO hrc hrpc C1;have e0:x.val= qH #[.int .u8 x.kind,iI x.v,qE x.op,qF x.a.AX,iI x.a.v,qF x.b.AX,iI x.b.v,qF x.AN.AX,iI x.AN.v,iI x.first,iI x.size,iI x.CN,iI x.n,iI x.Ah]:=rfl;rw[e0];clear e0;go_upto_region 24 with fail
    have hB:Ch (World.alloc w2 (qK #[.int .u8 x.kind,iI x.v,qE x.op,qF x.a.AX,iI x.a.v,qF x.b.AX,iI x.b.v,qF x.AN.AX,iI x.AN.v,iI x.first,iI x.size,iI x.CN,iI x.n,iI x.Ah] 110)) w2.heap.size #[.int .u8 x.kind,iI x.v,qE x.op,qF x.a.AX,iI x.a.v,qF x.b.AX,iI x.b.v,qF x.AN.AX,iI x.AN.v,iI x.first,iI x.size,iI x.CN,iI x.n,iI x.Ah] 110:=Ch.new w2 _ _;have kh:Aw [] w2 (World.alloc w2 (qK #[.int .u8 x.kind,iI x.v,qE x.op,qF x.a.AX,iI x.a.v,qF x.b.AX,iI x.b.v,qF x.AN.AX,iI x.AN.v,iI x.first,iI x.size,iI x.CN,iI x.n,iI x.Ah] 110)):=(Aw.refl [] w2).alloc _;obtain⟨w3,Ln⟩:∃z,z=World.alloc w2 (qK #[.int .u8 x.kind,iI x.v,qE x.op,qF x.a.AX,iI x.a.v,qF x.b.AX,iI x.b.v,qF x.AN.AX,iI x.AN.v,iI x.first,iI x.size,iI x.CN,iI x.n,iI x.Ah] 110):=⟨_,rfl⟩;rw[<-Ln] at hB kh⊢;clear Ln;have vB:=D kh;clear kh hB;go_wp2;go_ret;rw[tu.out,Ux.out];exact⟨rfl,(Hm.nil.YH X8).Aj vB⟩)
 |ok p=>
  obtain⟨R',x⟩:=p;rw[GO] at he;obtain⟨rfl,g',hg',hL',st⟩:=he;obtain⟨SN,gU,hns⟩:=dH GO;have Ux:=D GO;have Ls:=D hL';have Hg:=D hg';have aS:=D st;clear GO hL' st hrc hrpc C1 hg';have e0:x.val= qH #[.int .u8 x.kind,iI x.v,qE x.op,qF x.a.AX,iI x.a.v,qF x.b.AX,iI x.b.v,qF x.AN.AX,iI x.AN.v,iI x.first,iI x.size,iI x.CN,iI x.n,iI x.Ah]:=rfl;rw[e0];clear e0;go_upto_region 24 with fail
  have hB:Ch (World.alloc w2 (qK #[.int .u8 x.kind,iI x.v,qE x.op,qF x.a.AX,iI x.a.v,qF x.b.AX,iI x.b.v,qF x.AN.AX,iI x.AN.v,iI x.first,iI x.size,iI x.CN,iI x.n,iI x.Ah] 110)) w2.heap.size #[.int .u8 x.kind,iI x.v,qE x.op,qF x.a.AX,iI x.a.v,qF x.b.AX,iI x.b.v,qF x.AN.AX,iI x.AN.v,iI x.first,iI x.size,iI x.CN,iI x.n,iI x.Ah] 110:=Ch.new w2 _ _;have kh:Aw [] w2 (World.alloc w2 (qK #[.int .u8 x.kind,iI x.v,qE x.op,qF x.a.AX,iI x.a.v,qF x.b.AX,iI x.b.v,qF x.AN.AX,iI x.AN.v,iI x.first,iI x.size,iI x.CN,iI x.n,iI x.Ah] 110)):=(Aw.refl [] w2).alloc _;obtain⟨w3,Ln⟩:∃z,z=World.alloc w2 (qK #[.int .u8 x.kind,iI x.v,qE x.op,qF x.a.AX,iI x.a.v,qF x.b.AX,iI x.b.v,qF x.AN.AX,iI x.AN.v,iI x.first,iI x.size,iI x.CN,iI x.n,iI x.Ah] 110):=⟨_,rfl⟩;rw[<-Ln] at hB kh⊢;clear Ln;have hKn:AY w3 (g'.Az R') [(w2.heap.size,qK #[.int .u8 x.kind,iI x.v,qE x.op,qF x.a.AX,iI x.a.v,qF x.b.AX,iI x.b.v,qF x.AN.AX,iI x.AN.v,iI x.first,iI x.size,iI x.CN,iI x.n,iI x.Ah] 110 (0,0))]:=⟨λb o hb=>by rw[GE] at hb;cases hb;exact hB,λb o hb hl=>by rw[GE] at hb;cases hb;exact Jk (aS.Ak.lt _ hl) (d7 _)⟩;have S:=D (((Af.quiet H Hm).trans aS).trans (Af.quiet aS.Ak kh));have K:=D hKn;have rQ:w.heap.size<=w2.heap.size:=((Af.quiet H Hm).trans aS).mod.size;obtain⟨nb,Px⟩:∃z,z=w2.heap.size:=⟨_,rfl⟩;rw[<-Px] at K rQ⊢;have Ajf:=D rQ;clear rQ;clear hKn kh hB Px aS;have mS:R'.p.Aa=ts++[lth]:=gU.trans HT.out;obtain⟨vs,c,EA,l2,hv,yw,FK⟩:=Oi Ls.cl (by rw[mS];simp:R'.p.Aa≠[]);obtain⟨rfl,Pm⟩:EA=ts/\[l2]=[lth]:=QN (yw.symm.trans mS) rfl;cases Pm;clear yw;obtain⟨tb,tc,AcE,_,_,_,_,_,_⟩:=Av (S.Ak.row (i:=7) rfl) (by rw[mS];simp);have UF:qD g'.t.p (J R'.p.Aa) g'.t.c= qD (U ⟨tb,0,Z⟩) (J EA+1) tc:=by rw[AcE,mS];simp
  have od:=D mS;have zX:=D hv;have X6:=D FK;have cG:=D UF;have fE:=D (show J EA<(A4 g'.cv R'.p.Aa).length by rw[hv,mS,Bm _ _ _ _ FK,GT,BT _ _ FK];simp);have zT:=D (show(A4 g'.cv R'.p.Aa)[J EA]'fE.out= qD c.p (J lth) c.c by
    simp only[hv,mS,Bm _ _ _ _ FK];rw[QS (by rw[BT _ _ FK];omega)];simp)
  clear mS hv FK UF AcE gU;have H7:∀(G:RG) (Q:RS),Q.p=R'.p->G.t=g'.t->G.cv=g'.cv->(G.Az Q)[7]?=U (.row (qD (U ⟨tb,0,Z⟩) (J EA+1) tc) 72 1 (J EA+1) (A4 g'.cv R'.p.Aa)):=λG Q h1 h2 h3=>by
   show U (Ob.row (qD G.t.p (J Q.p.Aa) G.t.c) 72 1 (J Q.p.Aa) (A4 G.cv Q.p.Aa))=_;rw[h1,h2,h3,cG.out,od.out];simp
  have Hit:∀(G:RG) (Q:RS),Q.p=R'.p->G.cv=g'.cv->G.cv=g'.cv->(G.Az Q)[J EA+10]?=U (.row (qD c.p (J lth) c.c) 110 14 (J lth) (Bk lth)):=λG Q h1 h3 _=>by
   rw[Zn (g:=G) (R:=Q) (h3.trans zX.out) (by rw[h1];exact od.out) X6.out,<-ej G Q X6.out];exact Sk
  have AmP:=ow;have AcS:J lth+1<=maxLen:=by unfold maxLen;omega
  have AcU:(J lth+1)*120<=140737488355328:=Y
  have Aii:=HS.out;rw[<-hns] at Aii;have ho3:J R'.Ad<=3:=by rw[SN];exact Wv
  have AmJ:=D SN;clear SN hns;have PB:True->wrap64 (R'.Ai+1)=R'.Ai+1:=λ_=>IntWalk.wrap64_in _ Y
  obtain⟨hrc,hrpc,hrf,hrpf,hlt,hpl,OZ⟩:=BL S.Ak;rw[Hg.out] at hrc hrf hlt;have VY:∀i:Nat,w3.cell? ⟨nb,i,Z⟩=(#[.int .u8 x.kind,iI x.v,qE x.op,qF x.a.AX,iI x.a.v,qF x.b.AX,iI x.b.v,qF x.AN.AX,iI x.AN.v,iI x.first,iI x.size,iI x.CN,iI x.n,iI x.Ah]:Array Value)[i]?:=K.cell (GE.2 rfl);have ES:=K.lt (GE.2 rfl);replace hrc:=hrc;by_cases Em:14<R'.Ai+1
  .have Uy:=D (show RS.Cr R' x=.error 5 by unfold RS.Cr;rw[Jd Em]);go_wp2_with fail;go_ret;have t:Af w (g.Az R) (World.setCell w3 ⟨g'.rb,6,Z⟩ (iI (R'.Ai+1))) (g'.Az {R' with Ai:=R'.Ai+1}):=S.trans (S.Ak.set (i:=0) rfl 6 (iI (R'.Ai+1)));rw[Hg.out] at t;rw[tu.out,Ux.out];show Fw (RS.Cr R' x) g R w _ _;rw[Uy.out];exact⟨rfl,t.mod⟩
  .go_upto_region 29 with fail
   have S1:Hid (Af w (g.Az R) (World.setCell w3 ⟨g.rb,6,Z⟩ (iI (R'.Ai+1))) (g'.Az {R' with Ai:=R'.Ai+1})):=D (by
     have t:Af w (g.Az R) (World.setCell w3 ⟨g'.rb,6,Z⟩ (iI (R'.Ai+1))) (g'.Az {R' with Ai:=R'.Ai+1}):=S.trans (S.Ak.set (i:=0) rfl 6 (iI (R'.Ai+1)));rw[Hg.out] at t;exact t)
   have K1:Hid (AY (World.setCell w3 ⟨g.rb,6,Z⟩ (iI (R'.Ai+1))) (g'.Az {R' with Ai:=R'.Ai+1}) [(nb,qK #[.int .u8 x.kind,iI x.v,qE x.op,qF x.a.AX,iI x.a.v,qF x.b.AX,iI x.b.v,qF x.AN.AX,iI x.AN.v,iI x.first,iI x.size,iI x.CN,iI x.n,iI x.Ah] 110 (0,0))]):=D (by
     have t:AY (World.setCell w3 ⟨g'.rb,6,Z⟩ (iI (R'.Ai+1))) (g'.Az {R' with Ai:=R'.Ai+1}) [(nb,qK #[.int .u8 x.kind,iI x.v,qE x.op,qF x.a.AX,iI x.a.v,qF x.b.AX,iI x.b.v,qF x.AN.AX,iI x.AN.v,iI x.first,iI x.size,iI x.CN,iI x.n,iI x.Ah] 110 (0,0))]:=K.step (S.Ak.set (i:=0) rfl 6 (iI (R'.Ai+1)));rw[Hg.out] at t;exact t)
   clear S K hrc hrpc hrf hrpf hlt hpl OZ VY ES PB;obtain⟨w4,bR⟩:∃z,z=World.setCell w3 ⟨g.rb,6,Z⟩ (iI (R'.Ai+1)):=⟨_,rfl⟩;rw[<-bR] at S1 K1⊢;clear bR;have VY:∀i:Nat,w4.cell? ⟨nb,i,Z⟩=(#[.int .u8 x.kind,iI x.v,qE x.op,qF x.a.AX,iI x.a.v,qF x.b.AX,iI x.b.v,qF x.AN.AX,iI x.AN.v,iI x.first,iI x.size,iI x.CN,iI x.n,iI x.Ah]:Array Value)[i]?:=K1.cell (GE.2 rfl);have ES:=K1.lt (GE.2 rfl);have uJ:∀i:Nat,World.frozen? w4 ⟨nb,i,Z⟩=I:=K1.free (GE.2 rfl);by_cases I7:x.kind=122\/x.kind=108\/x.kind=40
   .obtain⟨hrc,hrpc,hrf,hrpf,hlt,hpl,OZ⟩:=BL S1.Ak;rw[Hg.out] at hrc hrf hlt;by_cases ZX:J R'.Ad=3
    .have Uy:=D (show RS.Cr R' x=.error 5 by unfold RS.Cr;rw[In Em,Jd I7,Jd ZX]);have AcO:((J R'.Ad:Int)==3)=V:=by rw[ZX];rfl
     clear ZX;rcases I7 with hk|hk|hk;have GZ:((x.kind:Int)==122)=V:=by rw[hk];rfl
     clear hk Em;rotate_left;have GZ:((x.kind:Int)==122)=I:=by rw[hk];rfl
     have MU:((x.kind:Int)==108)=V:=by rw[hk];rfl
     clear hk Em;rotate_left;have GZ:((x.kind:Int)==122)=I:=by rw[hk];rfl
     have MU:((x.kind:Int)==108)=I:=by rw[hk];rfl
     have rV:((x.kind:Int)==40)=V:=by rw[hk];rfl
     clear hk Em;rotate_left;all_goals (
       go_wp2_with fail;go_ret;rw[tu.out,Ux.out];show Fw (RS.Cr R' x) g R w _ _;rw[Uy.out];exact⟨rfl,S1.mod⟩)
    .have Uy:=D (show RS.Cr R' x= .ok (RS.BB {R' with Ai:=R'.Ai+1,Ad:=R'.Ad++[J lth]} (lth++[{x with Ah:=(J R'.Ad:Int)}])) from
        cV Em I7 ZX (Dy od))
     have AcO:((J R'.Ad:Int)==3)=I:=by rw[Jh];omega
     clear ZX;rcases I7 with hk|hk|hk;have GZ:((x.kind:Int)==122)=V:=by rw[hk];rfl
     clear hk Em;rotate_left;have GZ:((x.kind:Int)==122)=I:=by rw[hk];rfl
     have MU:((x.kind:Int)==108)=V:=by rw[hk];rfl
     clear hk Em;rotate_left;have GZ:((x.kind:Int)==122)=I:=by rw[hk];rfl
     have MU:((x.kind:Int)==108)=I:=by rw[hk];rfl
     have rV:((x.kind:Int)==40)=V:=by rw[hk];rfl
     clear hk Em;rotate_left;all_goals (
       go_upto_region 33 with fail
       have S2:Hid (Af w (g.Az R) (World.setCell w4 ⟨nb,13,Z⟩ (iI (J R'.Ad))) (g'.Az {R' with Ai:=R'.Ai+1})):=D (Af.AgW S1 (K1.out.out _ _ (GE.2 rfl)) Ajf ((Aw.refl [nb] _).setCell (.inl (GE.2 rfl)) _));have K2:Hid (AY (World.setCell w4 ⟨nb,13,Z⟩ (iI (J R'.Ad))) (g'.Az {R' with Ai:=R'.Ai+1}) [(nb,qK #[.int .u8 x.kind,iI x.v,qE x.op,qF x.a.AX,iI x.a.v,qF x.b.AX,iI x.b.v,qF x.AN.AX,iI x.AN.v,iI x.first,iI x.size,iI x.CN,iI x.n,iI (J R'.Ad)] 110 (0,0))]):=D (K1.Aa1 13 (iI (J R'.Ad)));clear S1 K1 hrc hrpc hrf hrpf hlt hpl OZ VY ES uJ;first
         |clear GZ MU rV
         |clear GZ MU
         |clear GZ
       obtain⟨w5,bq⟩:∃z,z=World.setCell w4 ⟨nb,13,Z⟩ (iI (J R'.Ad)):=⟨_,rfl⟩;rw[<-bq] at S2 K2⊢;clear bq AcO;have Co:=S2.Ak;obtain⟨hrc,hrpc,hrf,hrpf,hlt,hpl,OZ⟩:=BL Co;have r0:w5.cell? ⟨g.rb,0,Z⟩=U (iJ g'.pb):=Hg.out▸hrc 0;have r5:w5.cell? ⟨g.rb,5,Z⟩=U (qD g'.o.p (J R'.Ad) g'.o.c):=Hg.out▸hrc 5;have p0:w5.cell? ⟨g'.pb,0,Z⟩=U (qD (U ⟨tb,0,Z⟩) (J EA+1) tc):=(hrpc 0).trans (JM U cG);have FQ:g.rb<w5.heap.size:=Hg.out▸hlt;obtain⟨tcl,tf,tl⟩:=AZ (Co.row (i:=7) (H7 _ _ rfl rfl rfl));have t0:w5.cell? ⟨tb,J EA,Z⟩=U (qD c.p (J lth) c.c):=(tcl (J EA) fE).trans (JM U zT);clear hrc hrpc hrf hrpf OZ tcl hlt Co tf;refine AG [16,17] 20 (λW=>W.cell? ⟨g.rb,0,Z⟩=U (iJ g'.pb)/\W.cell? ⟨g.rb,5,Z⟩=U (qD g'.o.p (J R'.Ad) g'.o.c)/\W.cell? ⟨g'.pb,0,Z⟩=U (qD (U ⟨tb,0,Z⟩) (J EA+1) tc)/\W.cell? ⟨tb,J EA,Z⟩=U (qD c.p (J lth) c.c)) ⟨r0,r5,p0,t0⟩ ?_;refine Dr ?_;intro Kq KU;refine KU _ _ (λ_=>⟨(JA _ _ _ FQ).trans r0,(JA _ _ _ FQ).trans r5,(JA _ _ _ hpl).trans p0,(JA _ _ _ tl).trans t0⟩) ?_;clear KU;refine AJ rfl (λKq KU=>?_);refine BW 8 _ _ _ i0 _ #[iI (J lth)] _ S2.Ak (k:=6) (v:= qD g'.o.p (J R'.Ad) g'.o.c) (xs:=EG (TX R'.Ad)) (n:=J R'.Ad) (e:=3) (size:=1) rfl Eq Eq underlying29 hi I6 K6 LQ rfl Do Eq Eq rfl (by simp[Value.oneCell']) (by unfold maxLen;omega) Y ?_;intro g6 AI w6 Ay _;rw[Xp] at Ay;have Rp:=K2.step Ay;have z0:w6.cell? ⟨g.rb,0,Z⟩=U (iJ g'.pb):=Hg.out▸(Ay.Ak.Ao (i:=0) rfl).cell 0;have z5:w6.cell? ⟨g.rb,5,Z⟩=U (qD g'.o.p (J R'.Ad) g'.o.c):=Hg.out▸(Ay.Ak.Ao (i:=0) rfl).cell 5;have zf:World.frozen? w6 ⟨g.rb,5,Z⟩=I:=Hg.out▸(Ay.Ak.Ao (i:=0) rfl).free 5;have zl:g.rb<w6.heap.size:=Hg.out▸(Ay.Ak.Ao (i:=0) rfl).lt;have z1:w6.cell? ⟨g'.pb,0,Z⟩=U (qD (U ⟨tb,0,Z⟩) (J EA+1) tc):=((Ay.Ak.Ao (i:=1) rfl).cell 0).trans (JM U cG);obtain⟨tcl9,tf9,tl9⟩:=AZ (Ay.Ak.row (i:=7) (H7 g' {R' with Ai:=R'.Ai+1} rfl rfl rfl));have z2:w6.cell? ⟨tb,J EA,Z⟩=U (qD c.p (J lth) c.c):=(tcl9 (J EA) fE).trans (JM U zT);refine KU _ _ (λ_=>⟨z0,z5,z1,z2⟩) (D3 rfl ?_);clear KU tcl9 tf9 tl9;simp only[FL];refine Dr ?_;intro Kq KU;refine KU _ _ (λh=>Jk rfl h) ?_;clear KU;simp only[BO];have S3:Hid (Af w (g.Az R) (World.setCell w6 ⟨g.rb,5,Z⟩ (qD (U ⟨g6,0,Z⟩) (J R'.Ad+1) AI)) (RG.Az {g' with o:=⟨U ⟨g6,0,Z⟩,AI⟩} {R' with Ai:=R'.Ai+1,Ad:=R'.Ad++[J lth]})):=D (by
         have t1:=Ay.trans (Ay.Ak.set (i:=0) rfl 5 (qD (U ⟨g6,0,Z⟩) (J R'.Ad+1) AI));have e:(R'.Ad++[J lth]).length=J R'.Ad+1:=EQ
         have t2:Af w (g.Az R) (World.setCell w6 ⟨g'.rb,5,Z⟩ (qD (U ⟨g6,0,Z⟩) (J R'.Ad+1) AI)) (RG.Az {g' with o:=⟨U ⟨g6,0,Z⟩,AI⟩} {R' with Ai:=R'.Ai+1,Ad:=R'.Ad++[J lth]}):=by
           have t3:=S2.trans t1;unfold RG.Az at t3⊢;simp only[e];exact t3
         exact(show World.setCell w6 ⟨g'.rb,5,Z⟩ (qD (U ⟨g6,0,Z⟩) (J R'.Ad+1) AI)=World.setCell w6 ⟨g.rb,5,Z⟩ (qD (U ⟨g6,0,Z⟩) (J R'.Ad+1) AI) by rw[Hg.out])▸t2)
       have K3:Hid (AY (World.setCell w6 ⟨g.rb,5,Z⟩ (qD (U ⟨g6,0,Z⟩) (J R'.Ad+1) AI)) (RG.Az {g' with o:=⟨U ⟨g6,0,Z⟩,AI⟩} {R' with Ai:=R'.Ai+1,Ad:=R'.Ad++[J lth]}) [(nb,qK #[.int .u8 x.kind,iI x.v,qE x.op,qF x.a.AX,iI x.a.v,qF x.b.AX,iI x.b.v,qF x.AN.AX,iI x.AN.v,iI x.first,iI x.size,iI x.CN,iI x.n,iI (J R'.Ad)] 110 (0,0))]):=D (by
         have t1:=Rp.step (Ay.Ak.set (i:=0) rfl 5 (qD (U ⟨g6,0,Z⟩) (J R'.Ad+1) AI));have e:(R'.Ad++[J lth]).length=J R'.Ad+1:=EQ
         have t2:AY (World.setCell w6 ⟨g'.rb,5,Z⟩ (qD (U ⟨g6,0,Z⟩) (J R'.Ad+1) AI)) (RG.Az {g' with o:=⟨U ⟨g6,0,Z⟩,AI⟩} {R' with Ai:=R'.Ai+1,Ad:=R'.Ad++[J lth]}) [(nb,qK #[.int .u8 x.kind,iI x.v,qE x.op,qF x.a.AX,iI x.a.v,qF x.b.AX,iI x.b.v,qF x.AN.AX,iI x.AN.v,iI x.first,iI x.size,iI x.CN,iI x.n,iI (J R'.Ad)] 110 (0,0))]:=by
           unfold RG.Az at t1⊢;simp only[e];exact t1
         exact(show World.setCell w6 ⟨g'.rb,5,Z⟩ (qD (U ⟨g6,0,Z⟩) (J R'.Ad+1) AI)=World.setCell w6 ⟨g.rb,5,Z⟩ (qD (U ⟨g6,0,Z⟩) (J R'.Ad+1) AI) by rw[Hg.out])▸t2)
       clear S2 K2 Ay Rp z0 z5 zf zl z1 z2 r0 r5 p0 t0 tl FQ hpl;obtain⟨w7,hw7⟩:∃z,z=World.setCell w6 ⟨g.rb,5,Z⟩ (qD (U ⟨g6,0,Z⟩) (J R'.Ad+1) AI):=⟨_,rfl⟩;rw[<-hw7] at S3 K3⊢;clear hw7;go_upto_region 34 with fail
       have Co:=S3.Ak;obtain⟨hrc,hrpc,hrf,hrpf,hlt,hpl,OZ⟩:=BL Co;have r0:w7.cell? ⟨g.rb,0,Z⟩=U (iJ g'.pb):=Hg.out▸hrc 0;have p0:w7.cell? ⟨g'.pb,0,Z⟩=U (qD (U ⟨tb,0,Z⟩) (J EA+1) tc):=(hrpc 0).trans (JM U cG);have FQ:g.rb<w7.heap.size:=Hg.out▸hlt;obtain⟨tcl,tf,tl⟩:=AZ (Co.row (i:=7) (H7 _ _ rfl rfl rfl));have t0:w7.cell? ⟨tb,J EA,Z⟩=U (qD c.p (J lth) c.c):=(tcl (J EA) fE).trans (JM U zT);have VY:∀i:Nat,w7.cell? ⟨nb,i,Z⟩=(#[.int .u8 x.kind,iI x.v,qE x.op,qF x.a.AX,iI x.a.v,qF x.b.AX,iI x.b.v,qF x.AN.AX,iI x.AN.v,iI x.first,iI x.size,iI x.CN,iI x.n,iI (J R'.Ad)]:Array Value)[i]?:=K3.cell (GE.2 rfl);have ES:=K3.lt (GE.2 rfl);clear hrc hrpc hrf hrpf OZ tcl hlt Co;refine AG [19,20] 22 (λW=>W.cell? ⟨g.rb,0,Z⟩=U (iJ g'.pb)/\W.cell? ⟨g'.pb,0,Z⟩=U (qD (U ⟨tb,0,Z⟩) (J EA+1) tc)/\W.cell? ⟨tb,J EA,Z⟩=U (qD c.p (J lth) c.c)/\∀i:Nat,W.cell? ⟨nb,i,Z⟩=(#[.int .u8 x.kind,iI x.v,qE x.op,qF x.a.AX,iI x.a.v,qF x.b.AX,iI x.b.v,qF x.AN.AX,iI x.AN.v,iI x.first,iI x.size,iI x.CN,iI x.n,iI (J R'.Ad)]:Array Value)[i]?) ⟨r0,p0,t0,VY⟩ ?_;refine Dr ?_;intro Kq KU;refine KU _ _ (λ_=>⟨(JA _ _ _ FQ).trans r0,(JA _ _ _ hpl).trans p0,(JA _ _ _ tl).trans t0,λi=>(JA _ _ _ ES).trans (VY i)⟩) ?_;clear KU;refine AJ rfl (λKq KU=>?_);refine BW 120 _ _ _ j0 _ #[.int .u8 x.kind,iI x.v,qE x.op,qF x.a.AX,iI x.a.v,qF x.b.AX,iI x.b.v,qF x.AN.AX,iI x.AN.v,iI x.first,iI x.size,iI x.CN,iI x.n,iI (J R'.Ad)] _ S3.Ak (k:=J EA+10) (v:= qD c.p (J lth) c.c) (xs:=Bk lth) (n:=J lth) (e:=110) (size:=14) (Hit _ _ rfl rfl rfl) Eq Eq underlying72 hj LP KZ MH rfl Do Eq Eq rfl (by simp[Value.oneCell']) AcS AcU ?_;intro g9 Lg w9 Ay _;have Rp:=K3.step Ay;have z0:w9.cell? ⟨g.rb,0,Z⟩=U (iJ g'.pb):=Hg.out▸(Ay.Ak.Ao (i:=0) rfl).cell 0;have z1:w9.cell? ⟨g'.pb,0,Z⟩=U (qD (U ⟨tb,0,Z⟩) (J EA+1) tc):=((Ay.Ak.Ao (i:=1) rfl).cell 0).trans (JM U cG);obtain⟨tcl9,tf9,tl9⟩:=AZ (Ay.Ak.row (i:=7) (H7 {g' with o:=⟨U ⟨g6,0,Z⟩,AI⟩} {R' with Ai:=R'.Ai+1,Ad:=R'.Ad++[J lth]} rfl rfl rfl));have z2:w9.cell? ⟨tb,J EA,Z⟩=U (qD c.p (J lth) c.c):=(tcl9 (J EA) fE).trans (JM U zT);have z3:∀i:Nat,w9.cell? ⟨nb,i,Z⟩=(#[.int .u8 x.kind,iI x.v,qE x.op,qF x.a.AX,iI x.a.v,qF x.b.AX,iI x.b.v,qF x.AN.AX,iI x.AN.v,iI x.first,iI x.size,iI x.CN,iI x.n,iI (J R'.Ad)]:Array Value)[i]?:=Rp.cell (GE.2 rfl);refine KU _ _ (λ_=>⟨z0,z1,z2,z3⟩) (D3 rfl ?_);clear KU;simp only[FL];refine Ox ?_;have tf9':=tf9 (J EA);refine AJ rfl (λKq KU=>?_);go_simp;refine KU _ _ (λh=>Jk rfl h) ?_;clear KU;simp only[BO];have FZ:=D Ay;clear Ay Rp z0 z1 z2 z3 tcl9 tf9 tf9' tl9 r0 p0 t0 VY ES tf tl FQ hpl;go_wp2;go_ret;have Ay:=FZ.out;rw[show Bk lth++(#[.int .u8 x.kind,iI x.v,qE x.op,qF x.a.AX,iI x.a.v,qF x.b.AX,iI x.b.v,qF x.AN.AX,iI x.AN.v,iI x.first,iI x.size,iI x.CN,iI x.n,iI (J R'.Ad)]:Array Value).toList=Bk (lth++[({x with Ah:=(J R'.Ad:Int)}:Nd)]) from Gq lth ({x with Ah:=(J R'.Ad:Int)}:Nd)] at Ay;have hlen:(lth++[({x with Ah:=(J R'.Ad:Int)}:Nd)]).length=J lth+1:=EQ
       rw[<-hlen] at Ay;have hm:=ON (g:={g' with o:=⟨U ⟨g6,0,Z⟩,AI⟩}) (R:={R' with Ai:=R'.Ai+1,Ad:=R'.Ad++[J lth]}) (m:=lth++[({x with Ah:=(J R'.Ad:Int)}:Nd)]) zX od X6 cG Ay;rw[tu.out,Ux.out];show Fw (RS.Cr R' x) g R w _ _;rw[Uy.out];refine⟨rfl,{{g' with o:=⟨U ⟨g6,0,Z⟩,AI⟩} with cv:=vs++[⟨U ⟨g9,0,Z⟩,Lg⟩]},(by exact Hg.out),O5 (g:={g' with o:=⟨U ⟨g6,0,Z⟩,AI⟩}) (R:={R' with Ai:=R'.Ai+1,Ad:=R'.Ad++[J lth]}) zX od ⟨Ls.cl,Ls.dl,Ls.ql,Ls.tl,Ls.fl,Ls.zl,Ls.ll⟩ _ _ _,?_⟩;have hq:=S3.trans hm;rw[hlen] at hq;exact hq)
   .have Uy:=D (show RS.Cr R' x= .ok (RS.BB {R' with Ai:=R'.Ai+1} (lth++[x])) from
       cU Em I7 (Dy od))
    have GZ:((x.kind:Int)==122)=I:=by rw[Jh];omega
    have MU:((x.kind:Int)==108)=I:=by rw[Jh];omega
    have rV:((x.kind:Int)==40)=I:=by rw[Jh];omega
    clear I7 Em;go_upto_region 34 with fail
    clear GZ MU rV VY ES uJ;have Co:=S1.Ak;obtain⟨hrc,hrpc,hrf,hrpf,hlt,hpl,OZ⟩:=BL Co;have r0:w4.cell? ⟨g.rb,0,Z⟩=U (iJ g'.pb):=Hg.out▸hrc 0;have p0:w4.cell? ⟨g'.pb,0,Z⟩=U (qD (U ⟨tb,0,Z⟩) (J EA+1) tc):=(hrpc 0).trans (JM U cG);have FQ:g.rb<w4.heap.size:=Hg.out▸hlt;obtain⟨tcl,tf,tl⟩:=AZ (Co.row (i:=7) (H7 _ _ rfl rfl rfl));have t0:w4.cell? ⟨tb,J EA,Z⟩=U (qD c.p (J lth) c.c):=(tcl (J EA) fE).trans (JM U zT);have VY:∀i:Nat,w4.cell? ⟨nb,i,Z⟩=(#[.int .u8 x.kind,iI x.v,qE x.op,qF x.a.AX,iI x.a.v,qF x.b.AX,iI x.b.v,qF x.AN.AX,iI x.AN.v,iI x.first,iI x.size,iI x.CN,iI x.n,iI x.Ah]:Array Value)[i]?:=K1.cell (GE.2 rfl);have ES:=K1.lt (GE.2 rfl);clear hrc hrpc hrf hrpf OZ tcl hlt Co;refine AG [19,20] 22 (λW=>W.cell? ⟨g.rb,0,Z⟩=U (iJ g'.pb)/\W.cell? ⟨g'.pb,0,Z⟩=U (qD (U ⟨tb,0,Z⟩) (J EA+1) tc)/\W.cell? ⟨tb,J EA,Z⟩=U (qD c.p (J lth) c.c)/\∀i:Nat,W.cell? ⟨nb,i,Z⟩=(#[.int .u8 x.kind,iI x.v,qE x.op,qF x.a.AX,iI x.a.v,qF x.b.AX,iI x.b.v,qF x.AN.AX,iI x.AN.v,iI x.first,iI x.size,iI x.CN,iI x.n,iI x.Ah]:Array Value)[i]?) ⟨r0,p0,t0,VY⟩ ?_;refine Dr ?_;intro Kq KU;refine KU _ _ (λ_=>⟨(JA _ _ _ FQ).trans r0,(JA _ _ _ hpl).trans p0,(JA _ _ _ tl).trans t0,λi=>(JA _ _ _ ES).trans (VY i)⟩) ?_;clear KU;refine AJ rfl (λKq KU=>?_);refine BW 120 _ _ _ j0 _ #[.int .u8 x.kind,iI x.v,qE x.op,qF x.a.AX,iI x.a.v,qF x.b.AX,iI x.b.v,qF x.AN.AX,iI x.AN.v,iI x.first,iI x.size,iI x.CN,iI x.n,iI x.Ah] _ S1.Ak (k:=J EA+10) (v:= qD c.p (J lth) c.c) (xs:=Bk lth) (n:=J lth) (e:=110) (size:=14) (Hit _ _ rfl rfl rfl) Eq Eq underlying72 hj LP KZ MH rfl Do Eq Eq rfl (by simp[Value.oneCell']) AcS AcU ?_;intro g9 Lg w9 Ay _;have Rp:=K1.step Ay;have z0:w9.cell? ⟨g.rb,0,Z⟩=U (iJ g'.pb):=Hg.out▸(Ay.Ak.Ao (i:=0) rfl).cell 0;have z1:w9.cell? ⟨g'.pb,0,Z⟩=U (qD (U ⟨tb,0,Z⟩) (J EA+1) tc):=((Ay.Ak.Ao (i:=1) rfl).cell 0).trans (JM U cG);obtain⟨tcl9,tf9,tl9⟩:=AZ (Ay.Ak.row (i:=7) (H7 g' {R' with Ai:=R'.Ai+1} rfl rfl rfl));have z2:w9.cell? ⟨tb,J EA,Z⟩=U (qD c.p (J lth) c.c):=(tcl9 (J EA) fE).trans (JM U zT);have z3:∀i:Nat,w9.cell? ⟨nb,i,Z⟩=(#[.int .u8 x.kind,iI x.v,qE x.op,qF x.a.AX,iI x.a.v,qF x.b.AX,iI x.b.v,qF x.AN.AX,iI x.AN.v,iI x.first,iI x.size,iI x.CN,iI x.n,iI x.Ah]:Array Value)[i]?:=Rp.cell (GE.2 rfl);refine KU _ _ (λ_=>⟨z0,z1,z2,z3⟩) (D3 rfl ?_);clear KU;simp only[FL];refine Ox ?_;have tf9':=tf9 (J EA);refine AJ rfl (λKq KU=>?_);go_simp;refine KU _ _ (λh=>Jk rfl h) ?_;clear KU;simp only[BO];have FZ:=D Ay;clear Ay Rp z0 z1 z2 z3 tcl9 tf9 tf9' tl9 r0 p0 t0 VY ES tf tl FQ hpl;go_wp2;go_ret;have Ay:=FZ.out;rw[show Bk lth++(#[.int .u8 x.kind,iI x.v,qE x.op,qF x.a.AX,iI x.a.v,qF x.b.AX,iI x.b.v,qF x.AN.AX,iI x.AN.v,iI x.first,iI x.size,iI x.CN,iI x.n,iI x.Ah]:Array Value).toList=Bk (lth++[(x:Nd)]) from Gq lth (x:Nd)] at Ay;have hlen:(lth++[(x:Nd)]).length=J lth+1:=EQ
    rw[<-hlen] at Ay;have hm:=ON (g:=g') (R:={R' with Ai:=R'.Ai+1}) (m:=lth++[(x:Nd)]) zX od X6 cG Ay;rw[tu.out,Ux.out];show Fw (RS.Cr R' x) g R w _ _;rw[Uy.out];refine⟨rfl,{g' with cv:=vs++[⟨U ⟨g9,0,Z⟩,Lg⟩]},(by exact Hg.out),O5 (g:=g') (R:={R' with Ai:=R'.Ai+1}) zX od ⟨Ls.cl,Ls.dl,Ls.ql,Ls.tl,Ls.fl,Ls.zl,Ls.ll⟩ _ _ _,?_⟩;have hq:=S1.trans hm;rw[hlen] at hq;exact hq):p:=h
theorem mac (h:p:=by
 have Ww:k<J R.Ad:=Y
 obtain⟨vs,c,EA,l2,hv,yw,FK⟩:=Oi HL.cl (by rw[HT.out];simp:R.p.Aa≠[]);obtain⟨rfl,Pm⟩:EA=ts/\[l2]=[lth]:=QN (yw.symm.trans HT) rfl;cases Pm;clear yw;have ZW:=Zn hv HT FK;have FU:R.Ad[k]<J lth:=by rw[<-Dy HT.out];exact HO.lt _ (JO _)
 obtain⟨ob,oc,hoe,_,Afx,_,_,Rr,_⟩:=Av (ho.row (i:=6) rfl) Y;have mD:wr.cell? ⟨ob,k,Z⟩=U (iI (R.Ad[k]:Int)):=by rw[Rr k (by simp[EG,TX];exact Ww)];simp[EG,TX]
 obtain⟨tb,tc,UF,_,Afu,_,_,Ro,_⟩:=Av (ho.row (i:=7) rfl) (by rw[HT.out];simp);have gR:wr.cell? ⟨tb,J EA,Z⟩=U (qD c.p (J lth) c.c):=by
  rw[Ro (J EA) (by rw[hv,HT.out,Bm _ _ _ _ FK,GT,BT _ _ FK];simp)];simp only[hv,HT.out,Bm _ _ _ _ FK];rw[QS (by rw[BT _ _ FK];omega)];simp
 have hit:(g.Az R)[J EA+10]?=U (CM c lth):=by rw[ZW,<-ej g R FK];exact Sk
 obtain⟨lb,lc,hle,_,AfC,_,_,Rs,_⟩:=Av (ho.row hit) Y;have IL:wr.cell? ⟨lb,R.Ad[k]*14,Z⟩=U (.int .u8 (lth.getD R.Ad[k] (.of 0)).kind):=by
  have hlt:R.Ad[k]*14+0<(Bk lth).length:=by rw[D0];omega
  have:=Rs _ hlt;rw[<-Jb,Iw lth R.Ad[k] 0 FU Y] at this;exact this
 rw[hoe] at hrc;rw[show J R.p.Aa=J EA+1 by rw[HT.out];simp] at UF;rw[UF] at hrpc;rw[hle] at gR;have ZS:(R.Ad.take (k+1)).any (λj=>(lth.getD j (.of 0)).kind==40)=(((R.Ad.take k).any λj=>(lth.getD j (.of 0)).kind==40) || ((lth.getD R.Ad[k] (.of 0)).kind==40)):=by
  rw[JN Ww,m9];simp
 obtain⟨b,hb⟩:∃b,b=((R.Ad.take k).any λj=>(lth.getD j (.of 0)).kind==40):=⟨_,rfl⟩;obtain⟨x,hx⟩:∃x,x=(lth.getD R.Ad[k] (.of 0)).kind:=⟨_,rfl⟩;obtain⟨AN,Ac5⟩:∃a,a=R.Ad[k]:=⟨_,rfl⟩;rw[<-hx] at IL ZS;rw[<-hb] at ZS⊢;rw[<-Ac5] at FU mD IL;have zU:=D ZS;have Hm:=D hm;have Mp:(0:Int)<=(AN:Int):=Y
 have ha1:(AN:Int)<(J lth:Int):=Y
 have Uf:(0:Int)<=(k:Int):=Y
 have bw:k<=2000:=Y
 have hkx:((x:Int)==40)=(x==40):=by rw[Q5];simp;omega
 clear ZS hm hb hx Ac5 hoe UF hle hit ZW Rs Ro Rr hv FK ho FU;have r0:wr.cell? ⟨g.rb,0,Z⟩=U (iJ g.pb):=hrc 0;have r5:wr.cell? ⟨g.rb,5,Z⟩=U (qD (U ⟨ob,0,Z⟩) (J R.Ad) oc):=hrc 5;have p0:wr.cell? ⟨g.pb,0,Z⟩=U (qD (U ⟨tb,0,Z⟩) (J EA+1) tc):=hrpc 0;cases b with
 |true=>
  go_upto_region 20 with fail
  refine AG [] 24 (λW=>True) trivial ?_;repeat
   first
    | (refine Yz rfl rfl rfl ?_
       simp only[FL])
    | (refine Kg (v:= ?_) rfl rfl rfl (λW hW=> ?_) ?_
       rotate_left
       · go_simp;rfl
       simp only[FL])
  refine AJ rfl (λK hK=>?_);go_simp;refine hK _ _ (λh=>Jk rfl h) ?_;clear hK;simp only[BO];have inc:True->wrap64 ((k:Int)+1)=k+1:=λ_=>IntWalk.wrap64_in _ Y
  go_wp2;go_roundw;case rel=>exact⟨k+1,rfl,Ww,by rw[zU.out];rfl,Hm.drew⟩
  case measure=>simp[intOf];omega
 |false=>
  go_upto_region 20 with fail
  refine AG [] 24 (λW=>W.cell? ⟨g.rb,0,Z⟩=U (iJ g.pb)/\W.cell? ⟨g.rb,5,Z⟩=U (qD (U ⟨ob,0,Z⟩) (J R.Ad) oc)/\W.cell? ⟨g.pb,0,Z⟩=U (qD (U ⟨tb,0,Z⟩) (J EA+1) tc)/\W.cell? ⟨tb,J EA,Z⟩=U (qD (U ⟨lb,0,Z⟩) (J lth) lc)/\W.cell? ⟨ob,k,Z⟩=U (iI (AN:Int))/\W.cell? ⟨lb,AN*14,Z⟩=U (.int .u8 x)) ⟨r0,r5,p0,gR,mD,IL⟩ ?_;refine Dr ?_;intro K hK;refine hK _ _ (λh=>Jk rfl h) ?_;clear hK;simp only[BO];have inc:True->wrap64 ((k:Int)+1)=k+1:=λ_=>IntWalk.wrap64_in _ Y
  go_wp2;go_roundw;case rel=>exact⟨k+1,rfl,Ww,by rw[zU.out];simp,Hm.drew⟩
  case measure=>simp[intOf];omega):p:=h
theorem mas (h:p:=by
 have ho:R.Ad=[]:=by
  rcases Classical.em (R.Ad=[]) with h|h
  .exact h
  .exact Jk hT (hO.ne h)
 have Hr3:=D (show R.row l=.error 3 by rw[Hres.out,Jd (.inl hT)]);rw[hT] at hrpc;rw[ho] at hrc;have HT:=D hT;have Ho:=D ho;clear hO hT ho gP Wv;simp only[Jx] at hrc hrpc;go_enter func37,ntmps37;go_wp2;go_loopw [6,7] (λa i wr=>a= qF I/\i= iI 0/\wr=w) (λ_ _ _=>0);case atStart=>exact⟨rfl,rfl,rfl⟩
 case round=>
  obtain⟨rfl,rfl,yu⟩:=hrel;subst yu;go_wp2;go_ret;rw[Hr3.out];exact⟨rfl,Aw.refl _ _⟩):p:=h
theorem mbP (h:p:=by
 go_wp2;go_ret;rw[Hr3.out];exact⟨rfl,Hm.nil⟩):p:=h
variable {r q:RS} {x y:Nd} {n:ByteArray} {c:Int} {b:Bool} {l:List Nd} {w:World} {L:List Ob}
theorem lT (h:r.MQ x n=.error c):c=4\/c=5:=by
 unfold RS.MQ at h;by_cases h1:0<=Bg r.Ax n
 .rw[Jd h1] at h;injection h with h;exact .inl h.symm
 .rw[In h1] at h;by_cases h2:0<=Bg r.AA n
  .rw[Jd h2] at h;cases h
  .rw[In h2] at h;by_cases h3:J r.AA=4
   .rw[Jd h3] at h;injection h with h;exact .inr h.symm
   .rw[In h3] at h;cases h
theorem Vs {α:Type} {X:Except Int α} (h:(if b=V then X else .error 4)=.error c) (k:X=.error c->c=4\/c=5):c=4\/c=5:=by
 cases b with
 |false=>injection h with h;exact .inl h.symm
 |true=>exact k h
theorem Zq {l:Ws} (h:r.node l=.error c):c=4\/c=5:=by
 unfold RS.node at h;simp only[] at h;split at h
 .split at h<;>exact Vs h lT
 .split at h
  .exact Vs h lT
  .split at h
   .exact Vs h (λh=>by cases h)
   .split at h
    .exact Vs h (λh=>by cases h)
    .split at h
     .exact Vs h (λh=>by cases h)
     .split at h
      .cases h
      .split at h<;>cases h
theorem xL (h:r.MQ x n=.ok (q,y)):q.Ad=r.Ad/\q.p=r.p/\q.Ai=r.Ai:=by
 unfold RS.MQ at h;by_cases h1:0<=Bg r.Ax n
 .rw[Jd h1] at h;cases h
 .rw[In h1] at h;by_cases h2:0<=Bg r.AA n
  .rw[Jd h2] at h;cases h;exact⟨rfl,rfl,rfl⟩
  .rw[In h2] at h;by_cases h3:J r.AA=4
   .rw[Jd h3] at h;cases h
   .rw[In h3] at h;cases h;exact⟨rfl,rfl,rfl⟩
theorem ZN {α:Type} {X:Except Int α} {z:α} {P:Prop} (h:(if b=V then X else .error c)=.ok z) (k:X=.ok z->P):P:=by
 cases b with
 |false=>cases h
 |true=>exact k h
theorem Y9 (r:RS) (x:Nd) (n:ByteArray) (w:Ws):(r.cell x n w).1.Ad=r.Ad/\(r.cell x n w).1.p.Aa=r.p.Aa/\(r.cell x n w).1.Ai=r.Ai:=by
 unfold RS.cell;simp only[];repeat' (first|exact⟨rfl,rfl,rfl⟩|split)
theorem dH {l:Ws} (h:r.node l=.ok (q,y)):q.Ad=r.Ad/\q.p.Aa=r.p.Aa/\q.Ai=r.Ai:=by
 have hm:∀{r':RS} {x:Nd},r'.MQ x (wd l 1)=.ok (q,y)->r'.Ad=r.Ad/\r'.p.Aa=r.p.Aa/\r'.Ai=r.Ai->q.Ad=r.Ad/\q.p.Aa=r.p.Aa/\q.Ai=r.Ai:=λh1 h2=>by
  obtain⟨a,b,c⟩:=xL h1;exact⟨a.trans h2.1,(JM RP.Aa b).trans h2.2.1,c.trans h2.2.2⟩
 unfold RS.node at h;simp only[] at h;split at h
 .split at h<;>exact ZN h (λh=>hm h ⟨rfl,rfl,rfl⟩)
 .split at h
  .exact ZN h (λh=>hm h (Y9 _ _ _ _))
  .split at h
   .refine ZN h (λh=>?_);cases h;exact Y9 _ _ _ _
   .split at h
    .exact ZN h (λh=>by cases h;exact⟨rfl,rfl,rfl⟩)
    .split at h
     .exact ZN h (λh=>by cases h;exact⟨rfl,rfl,rfl⟩)
     .split at h
      .cases h;exact⟨rfl,rfl,rfl⟩
      .split at h<;>(cases h;exact⟨rfl,rfl,rfl⟩)
theorem Af.AgW {w4 w5:World} {L':List Ob} (S:Af w L w4 L') {b:Nat} (hb:b∉Er L') (hw:w.heap.size<=b) (k:Aw [b] w4 w5):Af w L w5 L':=
 ⟨S.Ak.mod k (λx hx hm=>by rw[GE] at hm;exact hb (hm▸hx)),S.mod.trans k (λx hx=>by rw[GE] at hx;exact .inr (hx▸hw)),S.fp⟩
theorem AY.Aa1 {b:Nat} {c:Array Value} {T:TypeId} (K:AY w L [(b,qK c T (0,0))]) (i:Nat) (v:Value):AY (w.setCell ⟨b,i,Z⟩ v) L [(b,qK (c.setIfInBounds i v) T (0,0))]:=
 ⟨λb' o hb=>by rw[GE] at hb;cases hb;exact Ch.set (K.heap _ _ (GE.2 rfl)) i v,λb' o hb=>by rw[GE] at hb;cases hb;exact K.out _ _ (GE.2 rfl)⟩
theorem ON {W w6:World} {g:RG} {R:RS} {vs:List SG} {c:SG} {ts:List (List Nd)} {m:List Nd} {tb tc AI g6:Nat} (hv:g.cv=vs++[c]) (ht:R.p.Aa=ts++[l]) (hl:J vs=J ts)
  (UF:qD g.t.p (J R.p.Aa) g.t.c= qD (U ⟨tb,0,Z⟩) (J ts+1) tc)
  (Ay:Af W (g.Az R) w6 ((g.Az R).set (J ts+10) (.row (qD (U ⟨g6,0,Z⟩) (J m) AI) 110 14 (J m) (Bk m)))):
  Af W (g.Az R) (w6.setCell ⟨tb,J ts,Z⟩ (qD (U ⟨g6,0,Z⟩) (J m) AI))
   (RG.Az {g with cv:=vs++[⟨U ⟨g6,0,Z⟩,AI⟩]} (R.BB m)):=by
 have h7:∀L,((g.Az R).set (J ts+10) L)[7]?=U (.row (qD (U ⟨tb,0,Z⟩) (J ts+1) tc) 72 1 (J ts+1) (A4 g.cv R.p.Aa)):=λL=>by
  exact maU
 have t2:=Ay.Ak.Eu (h7 _) (J ts) (by rw[hv,ht,Bm _ _ _ _ hl,GT,BT _ _ hl];simp) (qD (U ⟨g6,0,Z⟩) (J m) AI);have e3:(A4 g.cv R.p.Aa).set (J ts) (qD (U ⟨g6,0,Z⟩) (J m) AI)=A4 (vs++[⟨U ⟨g6,0,Z⟩,AI⟩]) (ts++[m]):=by
  exact mbq
 rw[e3] at t2;have e5:Ob.row (qD (U ⟨tb,0,Z⟩) (J ts+1) tc) 72 1 (J ts+1) (A4 (vs++[⟨U ⟨g6,0,Z⟩,AI⟩]) (ts++[m]))=
   .row (qD g.t.p (J R.p.Aa) g.t.c) 72 1 (J R.p.Aa) (A4 (vs++[⟨U ⟨g6,0,Z⟩,AI⟩]) (ts++[m])):=by
  rw[UF,ht];simp
 have e6:=u0 hv ht hl (CM ⟨U ⟨g6,0,Z⟩,AI⟩ m) ⟨U ⟨g6,0,Z⟩,AI⟩ m;rw[j7] at e6;have e7:Ob.row (qD (U ⟨g6,0,Z⟩) (J m) AI) 110 14 (J m) (Bk m)=CM ⟨U ⟨g6,0,Z⟩,AI⟩ m:=rfl;rw[e7] at Ay t2;rw[e5,e6] at t2;exact Ay.trans t2
def RS.Cr (r:RS) (x:Nd):Except Int RS:=
 if 14<r.Ai+1 then .error 5
 else if x.kind=122\/x.kind=108\/x.kind=40 then
  if J r.Ad=3 then .error 5
  else .ok ({r with Ai:=r.Ai+1,Ad:=r.Ad++[J r.CF]}.BB (r.CF++[{x with Ah:=J r.Ad}]))
 else .ok ({r with Ai:=r.Ai+1}.BB (r.CF++[x]))
theorem cV (h1:¬14<r.Ai+1) (h2:x.kind=122\/x.kind=108\/x.kind=40) (h3:¬J r.Ad=3) (hl:r.CF=l):
  r.Cr x=.ok (RS.BB {r with Ai:=r.Ai+1,Ad:=r.Ad++[J l]} (l++[{x with Ah:=(J r.Ad:Int)}])):=by
 subst hl;unfold RS.Cr;rw[In h1,Jd h2,In h3]
theorem cU (h1:¬14<r.Ai+1) (h2:¬(x.kind=122\/x.kind=108\/x.kind=40)) (hl:r.CF=l):
  r.Cr x=.ok (RS.BB {r with Ai:=r.Ai+1} (l++[x])):=by
 subst hl;unfold RS.Cr;rw[In h1,In h2]
