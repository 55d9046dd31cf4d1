/- Part 11 of the proof. -/
import Derived.Test.YtpdfifdlhpmofaaGreatDoorC10
set_option linter.unusedVariables false
set_option linter.unusedSimpArgs false
set_option maxHeartbeats 0
set_option maxRecDepth 99999
namespace Go.Proofs.YtpdfifdlhpmofaaGreatDoor
open Go.RowKit Tryz
open Value renaming slice->m9,string->qA,bool->qB,tuple->qC,agg->qD,pointer->qE
open Ending renaming returned->qF
open Obj renaming cells->qG
open Option renaming none->Z,some->U
open Bool renaming true->V,false->I
open Go.Lib renaming hid->D
open List renaming length->J
variable {p:Prop}
theorem maa (h:p:=by
 go_wp2_with fail;refine(cz l _ _ g R n (Ai.quiet H Hm).Ak HL HI HTn (Hw.mod Hm EQ) Hs Np Hlb H1 H2 H3).mono ?_;intro e w2 he;unfold mM at he;obtain⟨j0,hj,Lc,Lb,Mm⟩:=info_parts V8;obtain⟨i0,hi,Re,Va,U9⟩:=info_parts NZ;cases EG:R.node l with
 |error cc=>
  rw[EG] at he;obtain⟨x,rfl,FM⟩:=he;have Sy:=D EG;have gN:=D FM;clear FM;rcases YZ EG with rfl|rfl;all_goals (
    clear EG hrc hrpc C1;have e0:x.val= qD #[.int .u8 x.kind,iI x.v,qA x.op,qB x.a.AX,iI x.a.v,qB x.b.AX,iI x.b.v,qB x.AN.AX,iI x.AN.v,iI x.first,iI x.size,iI x.CL,iI x.n,iI x.Af]:=rfl;rw[e0];clear e0;go_upto_region 24 with fail
    have hB:Ci (World.alloc w2 (qG #[.int .u8 x.kind,iI x.v,qA x.op,qB x.a.AX,iI x.a.v,qB x.b.AX,iI x.b.v,qB x.AN.AX,iI x.AN.v,iI x.first,iI x.size,iI x.CL,iI x.n,iI x.Af] 110)) w2.heap.size #[.int .u8 x.kind,iI x.v,qA x.op,qB x.a.AX,iI x.a.v,qB x.b.AX,iI x.b.v,qB x.AN.AX,iI x.AN.v,iI x.first,iI x.size,iI x.CL,iI x.n,iI x.Af] 110:=Ci.new w2 _ _;have gZ:Az [] w2 (World.alloc w2 (qG #[.int .u8 x.kind,iI x.v,qA x.op,qB x.a.AX,iI x.a.v,qB x.b.AX,iI x.b.v,qB x.AN.AX,iI x.AN.v,iI x.first,iI x.size,iI x.CL,iI x.n,iI x.Af] 110)):=(Az.refl [] w2).alloc _;obtain⟨w3,Ld⟩:∃z,z=World.alloc w2 (qG #[.int .u8 x.kind,iI x.v,qA x.op,qB x.a.AX,iI x.a.v,qB x.b.AX,iI x.b.v,qB x.AN.AX,iI x.AN.v,iI x.first,iI x.size,iI x.CL,iI x.n,iI x.Af] 110):=⟨_,rfl⟩;rw[<-Ld] at hB gZ⊢;clear Ld;have yX:=D gZ;clear gZ hB;go_wp2;go_ret;rw[Hr4.out,Sy.out];exact⟨rfl,(Hm.nil.Yk gN).Aj yX⟩)
 |ok p=>
  obtain⟨R',x⟩:=p;rw[EG] at he;obtain⟨rfl,g',hg',hL',st⟩:=he;obtain⟨Um,gh,yO⟩:=cL EG;have Sy:=D EG;have Lh:=D hL';have Hg:=D hg';have Z5:=D st;clear EG hL' st hrc hrpc C1 hg';have e0:x.val= qD #[.int .u8 x.kind,iI x.v,qA x.op,qB x.a.AX,iI x.a.v,qB x.b.AX,iI x.b.v,qB x.AN.AX,iI x.AN.v,iI x.first,iI x.size,iI x.CL,iI x.n,iI x.Af]:=rfl;rw[e0];clear e0;go_upto_region 24 with fail
  have hB:Ci (World.alloc w2 (qG #[.int .u8 x.kind,iI x.v,qA x.op,qB x.a.AX,iI x.a.v,qB x.b.AX,iI x.b.v,qB x.AN.AX,iI x.AN.v,iI x.first,iI x.size,iI x.CL,iI x.n,iI x.Af] 110)) w2.heap.size #[.int .u8 x.kind,iI x.v,qA x.op,qB x.a.AX,iI x.a.v,qB x.b.AX,iI x.b.v,qB x.AN.AX,iI x.AN.v,iI x.first,iI x.size,iI x.CL,iI x.n,iI x.Af] 110:=Ci.new w2 _ _;have gZ:Az [] w2 (World.alloc w2 (qG #[.int .u8 x.kind,iI x.v,qA x.op,qB x.a.AX,iI x.a.v,qB x.b.AX,iI x.b.v,qB x.AN.AX,iI x.AN.v,iI x.first,iI x.size,iI x.CL,iI x.n,iI x.Af] 110)):=(Az.refl [] w2).alloc _;obtain⟨w3,Ld⟩:∃z,z=World.alloc w2 (qG #[.int .u8 x.kind,iI x.v,qA x.op,qB x.a.AX,iI x.a.v,qB x.b.AX,iI x.b.v,qB x.AN.AX,iI x.AN.v,iI x.first,iI x.size,iI x.CL,iI x.n,iI x.Af] 110):=⟨_,rfl⟩;rw[<-Ld] at hB gZ⊢;clear Ld;have hKn:AY w3 (g'.Ay R') [(w2.heap.size,qG #[.int .u8 x.kind,iI x.v,qA x.op,qB x.a.AX,iI x.a.v,qB x.b.AX,iI x.b.v,qB x.AN.AX,iI x.AN.v,iI x.first,iI x.size,iI x.CL,iI x.n,iI x.Af] 110 (0,0))]:=⟨λb o hb=>by rw[GE] at hb;cases hb;exact hB,λb o hb hl=>by rw[GE] at hb;cases hb;exact Jk (Z5.Ak.lt _ hl) (RK _)⟩;have S:=D (((Ai.quiet H Hm).trans Z5).trans (Ai.quiet Z5.Ak gZ));have K:=D hKn;have pE:w.heap.size<=w2.heap.size:=((Ai.quiet H Hm).trans Z5).mod.size;obtain⟨nb,Pr⟩:∃z,z=w2.heap.size:=⟨_,rfl⟩;rw[<-Pr] at K pE⊢;have AiP:=D pE;clear pE;clear hKn gZ hB Pr Z5;have lJ:R'.p.Aa=ts++[lth]:=gh.trans HT.out;obtain⟨vs,c,EA,l2,hv,xo,FD⟩:=NX Lh.cl (by rw[lJ];simp:R'.p.Aa≠[]);obtain⟨rfl,O9⟩:EA=ts/\[l2]=[lth]:=QH (xo.symm.trans lJ) rfl;cases O9;clear xo;obtain⟨tb,tc,Aca,_,_,_,_,_,_⟩:=Av (S.Ak.row (i:=7) rfl) (by rw[lJ];simp);have Ul:m9 g'.t.p (J R'.p.Aa) g'.t.c= m9 (U ⟨tb,0,Z⟩) (J EA+1) tc:=by rw[Aca,lJ];simp
  have mS:=D lJ;have yF:=D hv;have XH:=D FD;have bH:=D Ul;have eH:=D (show J EA<(BF g'.cv R'.p.Aa).length by rw[hv,lJ,Bu _ _ _ _ FD,GT,Ch _ _ FD];simp);have yC:=D (show(BF g'.cv R'.p.Aa)[J EA]'eH.out= m9 c.p (J lth) c.c by
    simp only[hv,lJ,Bu _ _ _ _ FD];rw[QN (by rw[Ch _ _ FD];omega)];simp)
  clear lJ hv FD Ul Aca gh;have H7:∀(G:RG) (Q:RS),Q.p=R'.p->G.t=g'.t->G.cv=g'.cv->(G.Ay Q)[7]?=U (.row (m9 (U ⟨tb,0,Z⟩) (J EA+1) tc) 72 1 (J EA+1) (BF g'.cv R'.p.Aa)):=λG Q h1 h2 h3=>by
   show U (Ob.row (m9 G.t.p (J Q.p.Aa) G.t.c) 72 1 (J Q.p.Aa) (BF G.cv Q.p.Aa))=_;rw[h1,h2,h3,bH.out,mS.out];simp
  have Hit:∀(G:RG) (Q:RS),Q.p=R'.p->G.cv=g'.cv->G.cv=g'.cv->(G.Ay Q)[J EA+10]?=U (.row (m9 c.p (J lth) c.c) 110 14 (J lth) (Bk lth)):=λG Q h1 h3 _=>by
   rw[YW (g:=G) (R:=Q) (h3.trans yF.out) (by rw[h1];exact mS.out) XH.out,<-dr G Q XH.out];exact Sg
  have Aml:=aY;have Acp:J lth+1<=maxLen:=by unfold maxLen;omega
  have Acq:(J lth+1)*120<=140737488355328:=Y
  have AhV:=HS.out;rw[<-yO] at AhV;have ho3:J R'.Ad<=3:=by rw[Um];exact Ro
  have Amf:=D Um;clear Um yO;have Pu:True->wrap64 (R'.Ah+1)=R'.Ah+1:=λ_=>IntWalk.wrap64_in _ Y
  obtain⟨hrc,hrpc,hrf,hrpf,hlt,hpl,OO⟩:=BL S.Ak;rw[Hg.out] at hrc hrf hlt;have VH:∀i:Nat,w3.cell? ⟨nb,i,Z⟩=(#[.int .u8 x.kind,iI x.v,qA x.op,qB x.a.AX,iI x.a.v,qB x.b.AX,iI x.b.v,qB x.AN.AX,iI x.AN.v,iI x.first,iI x.size,iI x.CL,iI x.n,iI x.Af]:Array Value)[i]?:=K.cell (GE.2 rfl);have Fb:=K.lt (GE.2 rfl);replace hrc:=hrc;by_cases Eo:14<R'.Ah+1
  .have Uc:=D (show RS.Cs R' x=.error 5 by unfold RS.Cs;rw[Jb Eo]);go_wp2_with fail;go_ret;have t:Ai w (g.Ay R) (World.setCell w3 ⟨g'.rb,6,Z⟩ (iI (R'.Ah+1))) (g'.Ay {R' with Ah:=R'.Ah+1}):=S.trans (S.Ak.set (i:=0) rfl 6 (iI (R'.Ah+1)));rw[Hg.out] at t;rw[Hr4.out,Sy.out];show Fs (RS.Cs R' x) g R w _ _;rw[Uc.out];exact⟨rfl,t.mod⟩
  .go_upto_region 29 with fail
   have S1:Hid (Ai w (g.Ay R) (World.setCell w3 ⟨g.rb,6,Z⟩ (iI (R'.Ah+1))) (g'.Ay {R' with Ah:=R'.Ah+1})):=D (by
     have t:Ai w (g.Ay R) (World.setCell w3 ⟨g'.rb,6,Z⟩ (iI (R'.Ah+1))) (g'.Ay {R' with Ah:=R'.Ah+1}):=S.trans (S.Ak.set (i:=0) rfl 6 (iI (R'.Ah+1)));rw[Hg.out] at t;exact t)
   have K1:Hid (AY (World.setCell w3 ⟨g.rb,6,Z⟩ (iI (R'.Ah+1))) (g'.Ay {R' with Ah:=R'.Ah+1}) [(nb,qG #[.int .u8 x.kind,iI x.v,qA x.op,qB x.a.AX,iI x.a.v,qB x.b.AX,iI x.b.v,qB x.AN.AX,iI x.AN.v,iI x.first,iI x.size,iI x.CL,iI x.n,iI x.Af] 110 (0,0))]):=D (by
     have t:AY (World.setCell w3 ⟨g'.rb,6,Z⟩ (iI (R'.Ah+1))) (g'.Ay {R' with Ah:=R'.Ah+1}) [(nb,qG #[.int .u8 x.kind,iI x.v,qA x.op,qB x.a.AX,iI x.a.v,qB x.b.AX,iI x.b.v,qB x.AN.AX,iI x.AN.v,iI x.first,iI x.size,iI x.CL,iI x.n,iI x.Af] 110 (0,0))]:=K.step (S.Ak.set (i:=0) rfl 6 (iI (R'.Ah+1)));rw[Hg.out] at t;exact t)
   clear S K hrc hrpc hrf hrpf hlt hpl OO VH Fb Pu;obtain⟨w4,aU⟩:∃z,z=World.setCell w3 ⟨g.rb,6,Z⟩ (iI (R'.Ah+1)):=⟨_,rfl⟩;rw[<-aU] at S1 K1⊢;clear aU;have VH:∀i:Nat,w4.cell? ⟨nb,i,Z⟩=(#[.int .u8 x.kind,iI x.v,qA x.op,qB x.a.AX,iI x.a.v,qB x.b.AX,iI x.b.v,qB x.AN.AX,iI x.AN.v,iI x.first,iI x.size,iI x.CL,iI x.n,iI x.Af]:Array Value)[i]?:=K1.cell (GE.2 rfl);have Fb:=K1.lt (GE.2 rfl);have tI:∀i:Nat,World.frozen? w4 ⟨nb,i,Z⟩=I:=K1.free (GE.2 rfl);by_cases IV:x.kind=122\/x.kind=108\/x.kind=40
   .obtain⟨hrc,hrpc,hrf,hrpf,hlt,hpl,OO⟩:=BL S1.Ak;rw[Hg.out] at hrc hrf hlt;by_cases Zr:J R'.Ad=3
    .have Uc:=D (show RS.Cs R' x=.error 5 by unfold RS.Cs;rw[In Eo,Jb IV,Jb Zr]);have Acl:((J R'.Ad:Int)==3)=V:=by rw[Zr];rfl
     clear Zr;rcases IV with hk|hk|hk;have GJ:((x.kind:Int)==122)=V:=by rw[hk];rfl
     clear hk Eo;rotate_left;have GJ:((x.kind:Int)==122)=I:=by rw[hk];rfl
     have Mo:((x.kind:Int)==108)=V:=by rw[hk];rfl
     clear hk Eo;rotate_left;have GJ:((x.kind:Int)==122)=I:=by rw[hk];rfl
     have Mo:((x.kind:Int)==108)=I:=by rw[hk];rfl
     have ng:((x.kind:Int)==40)=V:=by rw[hk];rfl
     clear hk Eo;rotate_left;all_goals (
       go_wp2_with fail;go_ret;rw[Hr4.out,Sy.out];show Fs (RS.Cs R' x) g R w _ _;rw[Uc.out];exact⟨rfl,S1.mod⟩)
    .have Uc:=D (show RS.Cs R' x= .ok (RS.BA {R' with Ah:=R'.Ah+1,Ad:=R'.Ad++[J lth]} (lth++[{x with Af:=(J R'.Ad:Int)}])) from
        bY Eo IV Zr (DB mS))
     have Acl:((J R'.Ad:Int)==3)=I:=by rw[Jh];omega
     clear Zr;rcases IV with hk|hk|hk;have GJ:((x.kind:Int)==122)=V:=by rw[hk];rfl
     clear hk Eo;rotate_left;have GJ:((x.kind:Int)==122)=I:=by rw[hk];rfl
     have Mo:((x.kind:Int)==108)=V:=by rw[hk];rfl
     clear hk Eo;rotate_left;have GJ:((x.kind:Int)==122)=I:=by rw[hk];rfl
     have Mo:((x.kind:Int)==108)=I:=by rw[hk];rfl
     have ng:((x.kind:Int)==40)=V:=by rw[hk];rfl
     clear hk Eo;rotate_left;all_goals (
       go_upto_region 33 with fail
       have S2:Hid (Ai w (g.Ay R) (World.setCell w4 ⟨nb,13,Z⟩ (iI (J R'.Ad))) (g'.Ay {R' with Ah:=R'.Ah+1})):=D (Ai.AgA S1 (K1.out.out _ _ (GE.2 rfl)) AiP ((Az.refl [nb] _).setCell (.inl (GE.2 rfl)) _));have K2:Hid (AY (World.setCell w4 ⟨nb,13,Z⟩ (iI (J R'.Ad))) (g'.Ay {R' with Ah:=R'.Ah+1}) [(nb,qG #[.int .u8 x.kind,iI x.v,qA x.op,qB x.a.AX,iI x.a.v,qB x.b.AX,iI x.b.v,qB x.AN.AX,iI x.AN.v,iI x.first,iI x.size,iI x.CL,iI x.n,iI (J R'.Ad)] 110 (0,0))]):=D (K1.Aat 13 (iI (J R'.Ad)));clear S1 K1 hrc hrpc hrf hrpf hlt hpl OO VH Fb tI;first
         |clear GJ Mo ng
         |clear GJ Mo
         |clear GJ
       obtain⟨w5,au⟩:∃z,z=World.setCell w4 ⟨nb,13,Z⟩ (iI (J R'.Ad)):=⟨_,rfl⟩;rw[<-au] at S2 K2⊢;clear au Acl;have Cp:=S2.Ak;obtain⟨hrc,hrpc,hrf,hrpf,hlt,hpl,OO⟩:=BL Cp;have r0:w5.cell? ⟨g.rb,0,Z⟩=U (iJ g'.pb):=Hg.out▸hrc 0;have r5:w5.cell? ⟨g.rb,5,Z⟩=U (m9 g'.o.p (J R'.Ad) g'.o.c):=Hg.out▸hrc 5;have p0:w5.cell? ⟨g'.pb,0,Z⟩=U (m9 (U ⟨tb,0,Z⟩) (J EA+1) tc):=(hrpc 0).trans (JM U bH);have GG:g.rb<w5.heap.size:=Hg.out▸hlt;obtain⟨tcl,tf,tl⟩:=A4 (Cp.row (i:=7) (H7 _ _ rfl rfl rfl));have t0:w5.cell? ⟨tb,J EA,Z⟩=U (m9 c.p (J lth) c.c):=(tcl (J EA) eH).trans (JM U yC);clear hrc hrpc hrf hrpf OO tcl hlt Cp tf;refine AF [16,17] 20 (λW=>W.cell? ⟨g.rb,0,Z⟩=U (iJ g'.pb)/\W.cell? ⟨g.rb,5,Z⟩=U (m9 g'.o.p (J R'.Ad) g'.o.c)/\W.cell? ⟨g'.pb,0,Z⟩=U (m9 (U ⟨tb,0,Z⟩) (J EA+1) tc)/\W.cell? ⟨tb,J EA,Z⟩=U (m9 c.p (J lth) c.c)) ⟨r0,r5,p0,t0⟩ ?_;refine Ds ?_;intro Kq KI;refine KI _ _ (λ_=>⟨(Jz _ _ _ GG).trans r0,(Jz _ _ _ GG).trans r5,(Jz _ _ _ hpl).trans p0,(Jz _ _ _ tl).trans t0⟩) ?_;clear KI;refine AI rfl (λKq KI=>?_);refine BV 8 _ _ _ i0 _ #[iI (J lth)] _ S2.Ak (k:=6) (v:= m9 g'.o.p (J R'.Ad) g'.o.c) (xs:=CD (Fc R'.Ad)) (n:=J R'.Ad) (e:=3) (size:=1) rfl Eq Eq underlying29 hi Re Va U9 rfl Do Eq Eq rfl (by simp[Value.oneCell']) (by unfold maxLen;omega) Y ?_;intro g6 AL w6 Aw _;rw[P1] at Aw;have Rj:=K2.step Aw;have z0:w6.cell? ⟨g.rb,0,Z⟩=U (iJ g'.pb):=Hg.out▸(Aw.Ak.Ao (i:=0) rfl).cell 0;have z5:w6.cell? ⟨g.rb,5,Z⟩=U (m9 g'.o.p (J R'.Ad) g'.o.c):=Hg.out▸(Aw.Ak.Ao (i:=0) rfl).cell 5;have zf:World.frozen? w6 ⟨g.rb,5,Z⟩=I:=Hg.out▸(Aw.Ak.Ao (i:=0) rfl).free 5;have zl:g.rb<w6.heap.size:=Hg.out▸(Aw.Ak.Ao (i:=0) rfl).lt;have z1:w6.cell? ⟨g'.pb,0,Z⟩=U (m9 (U ⟨tb,0,Z⟩) (J EA+1) tc):=((Aw.Ak.Ao (i:=1) rfl).cell 0).trans (JM U bH);obtain⟨tcl9,tf9,tl9⟩:=A4 (Aw.Ak.row (i:=7) (H7 g' {R' with Ah:=R'.Ah+1} rfl rfl rfl));have z2:w6.cell? ⟨tb,J EA,Z⟩=U (m9 c.p (J lth) c.c):=(tcl9 (J EA) eH).trans (JM U yC);refine KI _ _ (λ_=>⟨z0,z5,z1,z2⟩) (D3 rfl ?_);clear KI tcl9 tf9 tl9;simp only[FH];refine Ds ?_;intro Kq KI;refine KI _ _ (λh=>Jk rfl h) ?_;clear KI;simp only[BN];have S3:Hid (Ai w (g.Ay R) (World.setCell w6 ⟨g.rb,5,Z⟩ (m9 (U ⟨g6,0,Z⟩) (J R'.Ad+1) AL)) (RG.Ay {g' with o:=⟨U ⟨g6,0,Z⟩,AL⟩} {R' with Ah:=R'.Ah+1,Ad:=R'.Ad++[J lth]})):=D (by
         have t1:=Aw.trans (Aw.Ak.set (i:=0) rfl 5 (m9 (U ⟨g6,0,Z⟩) (J R'.Ad+1) AL));have e:(R'.Ad++[J lth]).length=J R'.Ad+1:=EQ
         have t2:Ai w (g.Ay R) (World.setCell w6 ⟨g'.rb,5,Z⟩ (m9 (U ⟨g6,0,Z⟩) (J R'.Ad+1) AL)) (RG.Ay {g' with o:=⟨U ⟨g6,0,Z⟩,AL⟩} {R' with Ah:=R'.Ah+1,Ad:=R'.Ad++[J lth]}):=by
           have t3:=S2.trans t1;unfold RG.Ay at t3⊢;simp only[e];exact t3
         exact(show World.setCell w6 ⟨g'.rb,5,Z⟩ (m9 (U ⟨g6,0,Z⟩) (J R'.Ad+1) AL)=World.setCell w6 ⟨g.rb,5,Z⟩ (m9 (U ⟨g6,0,Z⟩) (J R'.Ad+1) AL) by rw[Hg.out])▸t2)
       have K3:Hid (AY (World.setCell w6 ⟨g.rb,5,Z⟩ (m9 (U ⟨g6,0,Z⟩) (J R'.Ad+1) AL)) (RG.Ay {g' with o:=⟨U ⟨g6,0,Z⟩,AL⟩} {R' with Ah:=R'.Ah+1,Ad:=R'.Ad++[J lth]}) [(nb,qG #[.int .u8 x.kind,iI x.v,qA x.op,qB x.a.AX,iI x.a.v,qB x.b.AX,iI x.b.v,qB x.AN.AX,iI x.AN.v,iI x.first,iI x.size,iI x.CL,iI x.n,iI (J R'.Ad)] 110 (0,0))]):=D (by
         have t1:=Rj.step (Aw.Ak.set (i:=0) rfl 5 (m9 (U ⟨g6,0,Z⟩) (J R'.Ad+1) AL));have e:(R'.Ad++[J lth]).length=J R'.Ad+1:=EQ
         have t2:AY (World.setCell w6 ⟨g'.rb,5,Z⟩ (m9 (U ⟨g6,0,Z⟩) (J R'.Ad+1) AL)) (RG.Ay {g' with o:=⟨U ⟨g6,0,Z⟩,AL⟩} {R' with Ah:=R'.Ah+1,Ad:=R'.Ad++[J lth]}) [(nb,qG #[.int .u8 x.kind,iI x.v,qA x.op,qB x.a.AX,iI x.a.v,qB x.b.AX,iI x.b.v,qB x.AN.AX,iI x.AN.v,iI x.first,iI x.size,iI x.CL,iI x.n,iI (J R'.Ad)] 110 (0,0))]:=by
           unfold RG.Ay at t1⊢;simp only[e];exact t1
         exact(show World.setCell w6 ⟨g'.rb,5,Z⟩ (m9 (U ⟨g6,0,Z⟩) (J R'.Ad+1) AL)=World.setCell w6 ⟨g.rb,5,Z⟩ (m9 (U ⟨g6,0,Z⟩) (J R'.Ad+1) AL) by rw[Hg.out])▸t2)
       clear S2 K2 Aw Rj z0 z5 zf zl z1 z2 r0 r5 p0 t0 tl GG hpl;obtain⟨w7,hw7⟩:∃z,z=World.setCell w6 ⟨g.rb,5,Z⟩ (m9 (U ⟨g6,0,Z⟩) (J R'.Ad+1) AL):=⟨_,rfl⟩;rw[<-hw7] at S3 K3⊢;clear hw7;go_upto_region 34 with fail
       have Cp:=S3.Ak;obtain⟨hrc,hrpc,hrf,hrpf,hlt,hpl,OO⟩:=BL Cp;have r0:w7.cell? ⟨g.rb,0,Z⟩=U (iJ g'.pb):=Hg.out▸hrc 0;have p0:w7.cell? ⟨g'.pb,0,Z⟩=U (m9 (U ⟨tb,0,Z⟩) (J EA+1) tc):=(hrpc 0).trans (JM U bH);have GG:g.rb<w7.heap.size:=Hg.out▸hlt;obtain⟨tcl,tf,tl⟩:=A4 (Cp.row (i:=7) (H7 _ _ rfl rfl rfl));have t0:w7.cell? ⟨tb,J EA,Z⟩=U (m9 c.p (J lth) c.c):=(tcl (J EA) eH).trans (JM U yC);have VH:∀i:Nat,w7.cell? ⟨nb,i,Z⟩=(#[.int .u8 x.kind,iI x.v,qA x.op,qB x.a.AX,iI x.a.v,qB x.b.AX,iI x.b.v,qB x.AN.AX,iI x.AN.v,iI x.first,iI x.size,iI x.CL,iI x.n,iI (J R'.Ad)]:Array Value)[i]?:=K3.cell (GE.2 rfl);have Fb:=K3.lt (GE.2 rfl);clear hrc hrpc hrf hrpf OO tcl hlt Cp;refine AF [19,20] 22 (λW=>W.cell? ⟨g.rb,0,Z⟩=U (iJ g'.pb)/\W.cell? ⟨g'.pb,0,Z⟩=U (m9 (U ⟨tb,0,Z⟩) (J EA+1) tc)/\W.cell? ⟨tb,J EA,Z⟩=U (m9 c.p (J lth) c.c)/\∀i:Nat,W.cell? ⟨nb,i,Z⟩=(#[.int .u8 x.kind,iI x.v,qA x.op,qB x.a.AX,iI x.a.v,qB x.b.AX,iI x.b.v,qB x.AN.AX,iI x.AN.v,iI x.first,iI x.size,iI x.CL,iI x.n,iI (J R'.Ad)]:Array Value)[i]?) ⟨r0,p0,t0,VH⟩ ?_;refine Ds ?_;intro Kq KI;refine KI _ _ (λ_=>⟨(Jz _ _ _ GG).trans r0,(Jz _ _ _ hpl).trans p0,(Jz _ _ _ tl).trans t0,λi=>(Jz _ _ _ Fb).trans (VH i)⟩) ?_;clear KI;refine AI rfl (λKq KI=>?_);refine BV 120 _ _ _ j0 _ #[.int .u8 x.kind,iI x.v,qA x.op,qB x.a.AX,iI x.a.v,qB x.b.AX,iI x.b.v,qB x.AN.AX,iI x.AN.v,iI x.first,iI x.size,iI x.CL,iI x.n,iI (J R'.Ad)] _ S3.Ak (k:=J EA+10) (v:= m9 c.p (J lth) c.c) (xs:=Bk lth) (n:=J lth) (e:=110) (size:=14) (Hit _ _ rfl rfl rfl) Eq Eq underlying72 hj Lc Lb Mm rfl Do Eq Eq rfl (by simp[Value.oneCell']) Acp Acq ?_;intro g9 KZ w9 Aw _;have Rj:=K3.step Aw;have z0:w9.cell? ⟨g.rb,0,Z⟩=U (iJ g'.pb):=Hg.out▸(Aw.Ak.Ao (i:=0) rfl).cell 0;have z1:w9.cell? ⟨g'.pb,0,Z⟩=U (m9 (U ⟨tb,0,Z⟩) (J EA+1) tc):=((Aw.Ak.Ao (i:=1) rfl).cell 0).trans (JM U bH);obtain⟨tcl9,tf9,tl9⟩:=A4 (Aw.Ak.row (i:=7) (H7 {g' with o:=⟨U ⟨g6,0,Z⟩,AL⟩} {R' with Ah:=R'.Ah+1,Ad:=R'.Ad++[J lth]} rfl rfl rfl));have z2:w9.cell? ⟨tb,J EA,Z⟩=U (m9 c.p (J lth) c.c):=(tcl9 (J EA) eH).trans (JM U yC);have z3:∀i:Nat,w9.cell? ⟨nb,i,Z⟩=(#[.int .u8 x.kind,iI x.v,qA x.op,qB x.a.AX,iI x.a.v,qB x.b.AX,iI x.b.v,qB x.AN.AX,iI x.AN.v,iI x.first,iI x.size,iI x.CL,iI x.n,iI (J R'.Ad)]:Array Value)[i]?:=Rj.cell (GE.2 rfl);refine KI _ _ (λ_=>⟨z0,z1,z2,z3⟩) (D3 rfl ?_);clear KI;simp only[FH];refine Od ?_;have tf9':=tf9 (J EA);refine AI rfl (λKq KI=>?_);go_simp;refine KI _ _ (λh=>Jk rfl h) ?_;clear KI;simp only[BN];have GK:=D Aw;clear Aw Rj z0 z1 z2 z3 tcl9 tf9 tf9' tl9 r0 p0 t0 VH Fb tf tl GG hpl;go_wp2;go_ret;have Aw:=GK.out;rw[show Bk lth++(#[.int .u8 x.kind,iI x.v,qA x.op,qB x.a.AX,iI x.a.v,qB x.b.AX,iI x.b.v,qB x.AN.AX,iI x.AN.v,iI x.first,iI x.size,iI x.CL,iI x.n,iI (J R'.Ad)]:Array Value).toList=Bk (lth++[({x with Af:=(J R'.Ad:Int)}:Nd)]) from Gi lth ({x with Af:=(J R'.Ad:Int)}:Nd)] at Aw;have hlen:(lth++[({x with Af:=(J R'.Ad:Int)}:Nd)]).length=J lth+1:=EQ
       rw[<-hlen] at Aw;have hm:=OA (g:={g' with o:=⟨U ⟨g6,0,Z⟩,AL⟩}) (R:={R' with Ah:=R'.Ah+1,Ad:=R'.Ad++[J lth]}) (m:=lth++[({x with Af:=(J R'.Ad:Int)}:Nd)]) yF mS XH bH Aw;rw[Hr4.out,Sy.out];show Fs (RS.Cs R' x) g R w _ _;rw[Uc.out];refine⟨rfl,{{g' with o:=⟨U ⟨g6,0,Z⟩,AL⟩} with cv:=vs++[⟨U ⟨g9,0,Z⟩,KZ⟩]},(by exact Hg.out),OU (g:={g' with o:=⟨U ⟨g6,0,Z⟩,AL⟩}) (R:={R' with Ah:=R'.Ah+1,Ad:=R'.Ad++[J lth]}) yF mS ⟨Lh.cl,Lh.dl,Lh.ql,Lh.tl,Lh.fl,Lh.zl,Lh.ll⟩ _ _ _,?_⟩;have hq:=S3.trans hm;rw[hlen] at hq;exact hq)
   .have Uc:=D (show RS.Cs R' x= .ok (RS.BA {R' with Ah:=R'.Ah+1} (lth++[x])) from
       bX Eo IV (DB mS))
    have GJ:((x.kind:Int)==122)=I:=by rw[Jh];omega
    have Mo:((x.kind:Int)==108)=I:=by rw[Jh];omega
    have ng:((x.kind:Int)==40)=I:=by rw[Jh];omega
    clear IV Eo;go_upto_region 34 with fail
    clear GJ Mo ng VH Fb tI;have Cp:=S1.Ak;obtain⟨hrc,hrpc,hrf,hrpf,hlt,hpl,OO⟩:=BL Cp;have r0:w4.cell? ⟨g.rb,0,Z⟩=U (iJ g'.pb):=Hg.out▸hrc 0;have p0:w4.cell? ⟨g'.pb,0,Z⟩=U (m9 (U ⟨tb,0,Z⟩) (J EA+1) tc):=(hrpc 0).trans (JM U bH);have GG:g.rb<w4.heap.size:=Hg.out▸hlt;obtain⟨tcl,tf,tl⟩:=A4 (Cp.row (i:=7) (H7 _ _ rfl rfl rfl));have t0:w4.cell? ⟨tb,J EA,Z⟩=U (m9 c.p (J lth) c.c):=(tcl (J EA) eH).trans (JM U yC);have VH:∀i:Nat,w4.cell? ⟨nb,i,Z⟩=(#[.int .u8 x.kind,iI x.v,qA x.op,qB x.a.AX,iI x.a.v,qB x.b.AX,iI x.b.v,qB x.AN.AX,iI x.AN.v,iI x.first,iI x.size,iI x.CL,iI x.n,iI x.Af]:Array Value)[i]?:=K1.cell (GE.2 rfl);have Fb:=K1.lt (GE.2 rfl);clear hrc hrpc hrf hrpf OO tcl hlt Cp;refine AF [19,20] 22 (λW=>W.cell? ⟨g.rb,0,Z⟩=U (iJ g'.pb)/\W.cell? ⟨g'.pb,0,Z⟩=U (m9 (U ⟨tb,0,Z⟩) (J EA+1) tc)/\W.cell? ⟨tb,J EA,Z⟩=U (m9 c.p (J lth) c.c)/\∀i:Nat,W.cell? ⟨nb,i,Z⟩=(#[.int .u8 x.kind,iI x.v,qA x.op,qB x.a.AX,iI x.a.v,qB x.b.AX,iI x.b.v,qB x.AN.AX,iI x.AN.v,iI x.first,iI x.size,iI x.CL,iI x.n,iI x.Af]:Array Value)[i]?) ⟨r0,p0,t0,VH⟩ ?_;refine Ds ?_;intro Kq KI;refine KI _ _ (λ_=>⟨(Jz _ _ _ GG).trans r0,(Jz _ _ _ hpl).trans p0,(Jz _ _ _ tl).trans t0,λi=>(Jz _ _ _ Fb).trans (VH i)⟩) ?_;clear KI;refine AI rfl (λKq KI=>?_);refine BV 120 _ _ _ j0 _ #[.int .u8 x.kind,iI x.v,qA x.op,qB x.a.AX,iI x.a.v,qB x.b.AX,iI x.b.v,qB x.AN.AX,iI x.AN.v,iI x.first,iI x.size,iI x.CL,iI x.n,iI x.Af] _ S1.Ak (k:=J EA+10) (v:= m9 c.p (J lth) c.c) (xs:=Bk lth) (n:=J lth) (e:=110) (size:=14) (Hit _ _ rfl rfl rfl) Eq Eq underlying72 hj Lc Lb Mm rfl Do Eq Eq rfl (by simp[Value.oneCell']) Acp Acq ?_;intro g9 KZ w9 Aw _;have Rj:=K1.step Aw;have z0:w9.cell? ⟨g.rb,0,Z⟩=U (iJ g'.pb):=Hg.out▸(Aw.Ak.Ao (i:=0) rfl).cell 0;have z1:w9.cell? ⟨g'.pb,0,Z⟩=U (m9 (U ⟨tb,0,Z⟩) (J EA+1) tc):=((Aw.Ak.Ao (i:=1) rfl).cell 0).trans (JM U bH);obtain⟨tcl9,tf9,tl9⟩:=A4 (Aw.Ak.row (i:=7) (H7 g' {R' with Ah:=R'.Ah+1} rfl rfl rfl));have z2:w9.cell? ⟨tb,J EA,Z⟩=U (m9 c.p (J lth) c.c):=(tcl9 (J EA) eH).trans (JM U yC);have z3:∀i:Nat,w9.cell? ⟨nb,i,Z⟩=(#[.int .u8 x.kind,iI x.v,qA x.op,qB x.a.AX,iI x.a.v,qB x.b.AX,iI x.b.v,qB x.AN.AX,iI x.AN.v,iI x.first,iI x.size,iI x.CL,iI x.n,iI x.Af]:Array Value)[i]?:=Rj.cell (GE.2 rfl);refine KI _ _ (λ_=>⟨z0,z1,z2,z3⟩) (D3 rfl ?_);clear KI;simp only[FH];refine Od ?_;have tf9':=tf9 (J EA);refine AI rfl (λKq KI=>?_);go_simp;refine KI _ _ (λh=>Jk rfl h) ?_;clear KI;simp only[BN];have GK:=D Aw;clear Aw Rj z0 z1 z2 z3 tcl9 tf9 tf9' tl9 r0 p0 t0 VH Fb tf tl GG hpl;go_wp2;go_ret;have Aw:=GK.out;rw[show Bk lth++(#[.int .u8 x.kind,iI x.v,qA x.op,qB x.a.AX,iI x.a.v,qB x.b.AX,iI x.b.v,qB x.AN.AX,iI x.AN.v,iI x.first,iI x.size,iI x.CL,iI x.n,iI x.Af]:Array Value).toList=Bk (lth++[(x:Nd)]) from Gi lth (x:Nd)] at Aw;have hlen:(lth++[(x:Nd)]).length=J lth+1:=EQ
    rw[<-hlen] at Aw;have hm:=OA (g:=g') (R:={R' with Ah:=R'.Ah+1}) (m:=lth++[(x:Nd)]) yF mS XH bH Aw;rw[Hr4.out,Sy.out];show Fs (RS.Cs R' x) g R w _ _;rw[Uc.out];refine⟨rfl,{g' with cv:=vs++[⟨U ⟨g9,0,Z⟩,KZ⟩]},(by exact Hg.out),OU (g:=g') (R:={R' with Ah:=R'.Ah+1}) yF mS ⟨Lh.cl,Lh.dl,Lh.ql,Lh.tl,Lh.fl,Lh.zl,Lh.ll⟩ _ _ _,?_⟩;have hq:=S1.trans hm;rw[hlen] at hq;exact hq):p:=h
theorem mac (h:p:=by
 have Wc:k<J R.Ad:=Y
 obtain⟨vs,c,EA,l2,hv,xo,FD⟩:=NX HL.cl (by rw[HT.out];simp:R.p.Aa≠[]);obtain⟨rfl,O9⟩:EA=ts/\[l2]=[lth]:=QH (xo.symm.trans HT) rfl;cases O9;clear xo;have Zq:=YW hv HT FD;have FE:R.Ad[k]<J lth:=by rw[<-DB HT.out];exact HO.lt _ (JP _)
 obtain⟨ob,oc,hoe,_,Afa,_,_,Rp,_⟩:=Av (ho.row (i:=6) rfl) Y;have lx:wr.cell? ⟨ob,k,Z⟩=U (iI (R.Ad[k]:Int)):=by rw[Rp k (by simp[CD,Fc];exact Wc)];simp[CD,Fc]
 obtain⟨tb,tc,Ul,_,Ae7,_,_,Rh,_⟩:=Av (ho.row (i:=7) rfl) (by rw[HT.out];simp);have fW:wr.cell? ⟨tb,J EA,Z⟩=U (m9 c.p (J lth) c.c):=by
  rw[Rh (J EA) (by rw[hv,HT.out,Bu _ _ _ _ FD,GT,Ch _ _ FD];simp)];simp only[hv,HT.out,Bu _ _ _ _ FD];rw[QN (by rw[Ch _ _ FD];omega)];simp
 have hit:(g.Ay R)[J EA+10]?=U (CK c lth):=by rw[Zq,<-dr g R FD];exact Sg
 obtain⟨lb,lc,hle,_,Afd,_,_,Rq,_⟩:=Av (ho.row hit) Y;have IN:wr.cell? ⟨lb,R.Ad[k]*14,Z⟩=U (.int .u8 (lth.getD R.Ad[k] (.of 0)).kind):=by
  have hlt:R.Ad[k]*14+0<(Bk lth).length:=by rw[DZ];omega
  have:=Rq _ hlt;rw[<-Ja,Ir lth R.Ad[k] 0 FE Y] at this;exact this
 rw[hoe] at hrc;rw[show J R.p.Aa=J EA+1 by rw[HT.out];simp] at Ul;rw[Ul] at hrpc;rw[hle] at fW;have Xc:(R.Ad.take (k+1)).any (λj=>(lth.getD j (.of 0)).kind==40)=(((R.Ad.take k).any λj=>(lth.getD j (.of 0)).kind==40) || ((lth.getD R.Ad[k] (.of 0)).kind==40)):=by
  rw[JK Wc,j7];simp
 obtain⟨b,hb⟩:∃b,b=((R.Ad.take k).any λj=>(lth.getD j (.of 0)).kind==40):=⟨_,rfl⟩;obtain⟨x,hx⟩:∃x,x=(lth.getD R.Ad[k] (.of 0)).kind:=⟨_,rfl⟩;obtain⟨AN,AcC⟩:∃a,a=R.Ad[k]:=⟨_,rfl⟩;rw[<-hx] at IN Xc;rw[<-hb] at Xc⊢;rw[<-AcC] at FE lx IN;have rU:=D Xc;have Hm:=D hm;have Lp:(0:Int)<=(AN:Int):=Y
 have ha1:(AN:Int)<(J lth:Int):=Y
 have Rr:(0:Int)<=(k:Int):=Y
 have ax:k<=2000:=Y
 have hkx:((x:Int)==40)=(x==40):=by rw[Q1];simp;omega
 clear Xc hm hb hx AcC hoe Ul hle hit Zq Rq Rh Rp hv FD ho FE;have r0:wr.cell? ⟨g.rb,0,Z⟩=U (iJ g.pb):=hrc 0;have r5:wr.cell? ⟨g.rb,5,Z⟩=U (m9 (U ⟨ob,0,Z⟩) (J R.Ad) oc):=hrc 5;have p0:wr.cell? ⟨g.pb,0,Z⟩=U (m9 (U ⟨tb,0,Z⟩) (J EA+1) tc):=hrpc 0;cases b with
 |true=>
  go_upto_region 20 with fail
  refine AF [] 24 (λW=>True) trivial ?_;repeat
   first
    | (refine Yc rfl rfl rfl ?_
       simp only[FH])
    | (refine I9 (v:= ?_) rfl rfl rfl (λW hW=> ?_) ?_
       rotate_left
       · go_simp;rfl
       simp only[FH])
  refine AI rfl (λK hK=>?_);go_simp;refine hK _ _ (λh=>Jk rfl h) ?_;clear hK;simp only[BN];have inc:True->wrap64 ((k:Int)+1)=k+1:=λ_=>IntWalk.wrap64_in _ Y
  go_wp2;go_roundw;case rel=>exact⟨k+1,rfl,Wc,by rw[rU.out];rfl,Hm.drew⟩
  case measure=>simp[intOf];omega
 |false=>
  go_upto_region 20 with fail
  refine AF [] 24 (λW=>W.cell? ⟨g.rb,0,Z⟩=U (iJ g.pb)/\W.cell? ⟨g.rb,5,Z⟩=U (m9 (U ⟨ob,0,Z⟩) (J R.Ad) oc)/\W.cell? ⟨g.pb,0,Z⟩=U (m9 (U ⟨tb,0,Z⟩) (J EA+1) tc)/\W.cell? ⟨tb,J EA,Z⟩=U (m9 (U ⟨lb,0,Z⟩) (J lth) lc)/\W.cell? ⟨ob,k,Z⟩=U (iI (AN:Int))/\W.cell? ⟨lb,AN*14,Z⟩=U (.int .u8 x)) ⟨r0,r5,p0,fW,lx,IN⟩ ?_;refine Ds ?_;intro K hK;refine hK _ _ (λh=>Jk rfl h) ?_;clear hK;simp only[BN];have inc:True->wrap64 ((k:Int)+1)=k+1:=λ_=>IntWalk.wrap64_in _ Y
  go_wp2;go_roundw;case rel=>exact⟨k+1,rfl,Wc,by rw[rU.out];simp,Hm.drew⟩
  case measure=>simp[intOf];omega):p:=h
theorem mas (h:p:=by
 have ho:R.Ad=[]:=by
  rcases Classical.em (R.Ad=[]) with h|h
  .exact h
  .exact Jk hT (hO.ne h)
 have Hr3:=D (show R.row l=.error 3 by rw[Hres.out,Jb (.inl hT)]);rw[hT] at hrpc;rw[ho] at hrc;have HT:=D hT;have Ho:=D ho;clear hO hT ho xn Ro;simp only[Jw] at hrc hrpc;go_enter func37,ntmps37;go_wp2;go_loopw [6,7] (λa i wr=>a= qB I/\i= iI 0/\wr=w) (λ_ _ _=>0);case atStart=>exact⟨rfl,rfl,rfl⟩
 case round=>
  obtain⟨rfl,rfl,xi⟩:=hrel;subst xi;go_wp2;go_ret;rw[Hr3.out];exact⟨rfl,Az.refl _ _⟩):p:=h
theorem mbK (h:p:=by
 go_wp2;go_ret;rw[Hr3.out];exact⟨rfl,Hm.nil⟩):p:=h
variable {r q:RS} {x y:Nd} {n:ByteArray} {c:Int} {b:Bool} {l:List Nd} {w:World} {L:List Ob}
theorem kJ (h:r.Ml x n=.error c):c=4\/c=5:=by
 unfold RS.Ml at h;by_cases h1:0<=Be r.Ax n
 .rw[Jb h1] at h;injection h with h;exact .inl h.symm
 .rw[In h1] at h;by_cases h2:0<=Be r.AA n
  .rw[Jb h2] at h;cases h
  .rw[In h2] at h;by_cases h3:J r.AA=4
   .rw[Jb h3] at h;injection h with h;exact .inr h.symm
   .rw[In h3] at h;cases h
theorem U6 {α:Type} {X:Except Int α} (h:(if b=V then X else .error 4)=.error c) (k:X=.error c->c=4\/c=5):c=4\/c=5:=by
 cases b with
 |false=>injection h with h;exact .inl h.symm
 |true=>exact k h
theorem YZ {l:Ws} (h:r.node l=.error c):c=4\/c=5:=by
 unfold RS.node at h;simp only[] at h;split at h
 .split at h<;>exact U6 h kJ
 .split at h
  .exact U6 h kJ
  .split at h
   .exact U6 h (λh=>by cases h)
   .split at h
    .exact U6 h (λh=>by cases h)
    .split at h
     .exact U6 h (λh=>by cases h)
     .split at h
      .cases h
      .split at h<;>cases h
theorem wh (h:r.Ml x n=.ok (q,y)):q.Ad=r.Ad/\q.p=r.p/\q.Ah=r.Ah:=by
 unfold RS.Ml at h;by_cases h1:0<=Be r.Ax n
 .rw[Jb h1] at h;cases h
 .rw[In h1] at h;by_cases h2:0<=Be r.AA n
  .rw[Jb h2] at h;cases h;exact⟨rfl,rfl,rfl⟩
  .rw[In h2] at h;by_cases h3:J r.AA=4
   .rw[Jb h3] at h;cases h
   .rw[In h3] at h;cases h;exact⟨rfl,rfl,rfl⟩
theorem Zk {α:Type} {X:Except Int α} {z:α} {P:Prop} (h:(if b=V then X else .error c)=.ok z) (k:X=.ok z->P):P:=by
 cases b with
 |false=>cases h
 |true=>exact k h
theorem YI (r:RS) (x:Nd) (n:ByteArray) (w:Ws):(r.cell x n w).1.Ad=r.Ad/\(r.cell x n w).1.p.Aa=r.p.Aa/\(r.cell x n w).1.Ah=r.Ah:=by
 unfold RS.cell;simp only[];repeat' (first|exact⟨rfl,rfl,rfl⟩|split)
theorem cL {l:Ws} (h:r.node l=.ok (q,y)):q.Ad=r.Ad/\q.p.Aa=r.p.Aa/\q.Ah=r.Ah:=by
 have hm:∀{r':RS} {x:Nd},r'.Ml x (wd l 1)=.ok (q,y)->r'.Ad=r.Ad/\r'.p.Aa=r.p.Aa/\r'.Ah=r.Ah->q.Ad=r.Ad/\q.p.Aa=r.p.Aa/\q.Ah=r.Ah:=λh1 h2=>by
  obtain⟨a,b,c⟩:=wh h1;exact⟨a.trans h2.1,(JM RP.Aa b).trans h2.2.1,c.trans h2.2.2⟩
 unfold RS.node at h;simp only[] at h;split at h
 .split at h<;>exact Zk h (λh=>hm h ⟨rfl,rfl,rfl⟩)
 .split at h
  .exact Zk h (λh=>hm h (YI _ _ _ _))
  .split at h
   .refine Zk h (λh=>?_);cases h;exact YI _ _ _ _
   .split at h
    .exact Zk h (λh=>by cases h;exact⟨rfl,rfl,rfl⟩)
    .split at h
     .exact Zk h (λh=>by cases h;exact⟨rfl,rfl,rfl⟩)
     .split at h
      .cases h;exact⟨rfl,rfl,rfl⟩
      .split at h<;>(cases h;exact⟨rfl,rfl,rfl⟩)
theorem Ai.AgA {w4 w5:World} {L':List Ob} (S:Ai w L w4 L') {b:Nat} (hb:b∉Et L') (hw:w.heap.size<=b) (k:Az [b] w4 w5):Ai w L w5 L':=
 ⟨S.Ak.mod k (λx hx hm=>by rw[GE] at hm;exact hb (hm▸hx)),S.mod.trans k (λx hx=>by rw[GE] at hx;exact .inr (hx▸hw)),S.fp⟩
theorem AY.Aat {b:Nat} {c:Array Value} {T:TypeId} (K:AY w L [(b,qG c T (0,0))]) (i:Nat) (v:Value):AY (w.setCell ⟨b,i,Z⟩ v) L [(b,qG (c.setIfInBounds i v) T (0,0))]:=
 ⟨λb' o hb=>by rw[GE] at hb;cases hb;exact Ci.set (K.heap _ _ (GE.2 rfl)) i v,λb' o hb=>by rw[GE] at hb;cases hb;exact K.out _ _ (GE.2 rfl)⟩
theorem OA {W w6:World} {g:RG} {R:RS} {vs:List SG} {c:SG} {ts:List (List Nd)} {m:List Nd} {tb tc AL g6:Nat} (hv:g.cv=vs++[c]) (ht:R.p.Aa=ts++[l]) (hl:J vs=J ts)
  (Ul:m9 g.t.p (J R.p.Aa) g.t.c= m9 (U ⟨tb,0,Z⟩) (J ts+1) tc)
  (Aw:Ai W (g.Ay R) w6 ((g.Ay R).set (J ts+10) (.row (m9 (U ⟨g6,0,Z⟩) (J m) AL) 110 14 (J m) (Bk m)))):
  Ai W (g.Ay R) (w6.setCell ⟨tb,J ts,Z⟩ (m9 (U ⟨g6,0,Z⟩) (J m) AL))
   (RG.Ay {g with cv:=vs++[⟨U ⟨g6,0,Z⟩,AL⟩]} (R.BA m)):=by
 have h7:∀L,((g.Ay R).set (J ts+10) L)[7]?=U (.row (m9 (U ⟨tb,0,Z⟩) (J ts+1) tc) 72 1 (J ts+1) (BF g.cv R.p.Aa)):=λL=>by
  exact maS
 have t2:=Aw.Ak.ET (h7 _) (J ts) (by rw[hv,ht,Bu _ _ _ _ hl,GT,Ch _ _ hl];simp) (m9 (U ⟨g6,0,Z⟩) (J m) AL);have e3:(BF g.cv R.p.Aa).set (J ts) (m9 (U ⟨g6,0,Z⟩) (J m) AL)=BF (vs++[⟨U ⟨g6,0,Z⟩,AL⟩]) (ts++[m]):=by
  exact mbm
 rw[e3] at t2;have e5:Ob.row (m9 (U ⟨tb,0,Z⟩) (J ts+1) tc) 72 1 (J ts+1) (BF (vs++[⟨U ⟨g6,0,Z⟩,AL⟩]) (ts++[m]))=
   .row (m9 g.t.p (J R.p.Aa) g.t.c) 72 1 (J R.p.Aa) (BF (vs++[⟨U ⟨g6,0,Z⟩,AL⟩]) (ts++[m])):=by
  rw[Ul,ht];simp
 have e6:=tY hv ht hl (CK ⟨U ⟨g6,0,Z⟩,AL⟩ m) ⟨U ⟨g6,0,Z⟩,AL⟩ m;rw[jX] at e6;have e7:Ob.row (m9 (U ⟨g6,0,Z⟩) (J m) AL) 110 14 (J m) (Bk m)=CK ⟨U ⟨g6,0,Z⟩,AL⟩ m:=rfl;rw[e7] at Aw t2;rw[e5,e6] at t2;exact Aw.trans t2
def RS.Cs (r:RS) (x:Nd):Except Int RS:=
 if 14<r.Ah+1 then .error 5
 else if x.kind=122\/x.kind=108\/x.kind=40 then
  if J r.Ad=3 then .error 5
  else .ok ({r with Ah:=r.Ah+1,Ad:=r.Ad++[J r.Dv]}.BA (r.Dv++[{x with Af:=J r.Ad}]))
 else .ok ({r with Ah:=r.Ah+1}.BA (r.Dv++[x]))
theorem bY (h1:¬14<r.Ah+1) (h2:x.kind=122\/x.kind=108\/x.kind=40) (h3:¬J r.Ad=3) (hl:r.Dv=l):
  r.Cs x=.ok (RS.BA {r with Ah:=r.Ah+1,Ad:=r.Ad++[J l]} (l++[{x with Af:=(J r.Ad:Int)}])):=by
 subst hl;unfold RS.Cs;rw[In h1,Jb h2,In h3]
theorem bX (h1:¬14<r.Ah+1) (h2:¬(x.kind=122\/x.kind=108\/x.kind=40)) (hl:r.Dv=l):
  r.Cs x=.ok (RS.BA {r with Ah:=r.Ah+1} (l++[x])):=by
 subst hl;unfold RS.Cs;rw[In h1,In h2]
