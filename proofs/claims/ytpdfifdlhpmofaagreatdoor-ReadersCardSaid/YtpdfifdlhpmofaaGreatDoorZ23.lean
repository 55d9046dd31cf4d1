/-
  Part 23 of the proof.
-/
import Derived.Test.YtpdfifdlhpmofaaGreatDoorZ22
import Derived.Test.YtpdfifdlhpmofaaGreatDoorZ12
set_option linter.unusedVariables false
set_option linter.unusedSimpArgs false
set_option maxHeartbeats 3200000
set_option maxRecDepth 100000
namespace Go.Proofs.YtpdfifdlhpmofaaGreatDoor
open Go.RowKit Tryz
open Go.Lib (hid)
theorem maa {p:Prop} (h:p:=by
 go_wp2_with fail;refine(YJ l _ _ g R n (Ak.quiet H Hm).Am HL HI HTn (Hw.Bf Hm EQ) Hs Mr Hlb H1 H2 H3).mono ?_;intro e w2 he;unfold OW at he;obtain⟨j0,hj,KW,Fo,K7⟩:=info_parts SW;obtain⟨i0,hi,Wx,dU,aW⟩:=info_parts RN;cases GQ:R.node l with
 | error cc=>
  rw[GQ] at he;obtain⟨x,rfl,C4⟩:=he;have Pr:=hid GQ;have ZT:=hid C4;clear C4;rcases Wa GQ with rfl | rfl;all_goals (
    clear GQ Cu A8 C1;have e0:x.val= .agg #[.int .u8 x.kind,i5 x.v,.string x.op,.bool x.a.AR,i5 x.a.v,.bool x.b.AR,i5 x.b.v,.bool x.AW.AR,i5 x.AW.v,i5 x.first,i5 x.size,i5 x.Dg,i5 x.n,i5 x.Aj]:=rfl;rw[e0];clear e0;go_upto_region 24 with fail
    have hB:BM (World.alloc w2 (.cells #[.int .u8 x.kind,i5 x.v,.string x.op,.bool x.a.AR,i5 x.a.v,.bool x.b.AR,i5 x.b.v,.bool x.AW.AR,i5 x.AW.v,i5 x.first,i5 x.size,i5 x.Dg,i5 x.n,i5 x.Aj] 110)) w2.heap.size #[.int .u8 x.kind,i5 x.v,.string x.op,.bool x.a.AR,i5 x.a.v,.bool x.b.AR,i5 x.b.v,.bool x.AW.AR,i5 x.AW.v,i5 x.first,i5 x.size,i5 x.Dg,i5 x.n,i5 x.Aj] 110:=BM.new w2 _ _;have Kn:Av [] w2 (World.alloc w2 (.cells #[.int .u8 x.kind,i5 x.v,.string x.op,.bool x.a.AR,i5 x.a.v,.bool x.b.AR,i5 x.b.v,.bool x.AW.AR,i5 x.AW.v,i5 x.first,i5 x.size,i5 x.Dg,i5 x.n,i5 x.Aj] 110)):=(Av.refl [] w2).alloc _;obtain⟨w3,Ot⟩:∃z,z=World.alloc w2 (.cells #[.int .u8 x.kind,i5 x.v,.string x.op,.bool x.a.AR,i5 x.a.v,.bool x.b.AR,i5 x.b.v,.bool x.AW.AR,i5 x.AW.v,i5 x.first,i5 x.size,i5 x.Dg,i5 x.n,i5 x.Aj] 110):=⟨_,rfl⟩;rw[<-Ot] at hB Kn⊢;clear Ot;have xu:=hid Kn;clear Kn hB;go_wp2;go_ret;rw[wN.out,Pr.out];exact⟨rfl,(Hm.nil.Vz ZT).Ad xu⟩)
 | ok p=>
  obtain⟨R',x⟩:=p;rw[GQ] at he;obtain⟨rfl,g',hg',hL',st⟩:=he;obtain⟨RT,ej,uF⟩:=YV GQ;have Pr:=hid GQ;have J4:=hid hL';have Hg:=hid hg';have Xn:=hid st;clear GQ hL' st Cu A8 C1 hg';have e0:x.val= .agg #[.int .u8 x.kind,i5 x.v,.string x.op,.bool x.a.AR,i5 x.a.v,.bool x.b.AR,i5 x.b.v,.bool x.AW.AR,i5 x.AW.v,i5 x.first,i5 x.size,i5 x.Dg,i5 x.n,i5 x.Aj]:=rfl;rw[e0];clear e0;go_upto_region 24 with fail
  have hB:BM (World.alloc w2 (.cells #[.int .u8 x.kind,i5 x.v,.string x.op,.bool x.a.AR,i5 x.a.v,.bool x.b.AR,i5 x.b.v,.bool x.AW.AR,i5 x.AW.v,i5 x.first,i5 x.size,i5 x.Dg,i5 x.n,i5 x.Aj] 110)) w2.heap.size #[.int .u8 x.kind,i5 x.v,.string x.op,.bool x.a.AR,i5 x.a.v,.bool x.b.AR,i5 x.b.v,.bool x.AW.AR,i5 x.AW.v,i5 x.first,i5 x.size,i5 x.Dg,i5 x.n,i5 x.Aj] 110:=BM.new w2 _ _;have Kn:Av [] w2 (World.alloc w2 (.cells #[.int .u8 x.kind,i5 x.v,.string x.op,.bool x.a.AR,i5 x.a.v,.bool x.b.AR,i5 x.b.v,.bool x.AW.AR,i5 x.AW.v,i5 x.first,i5 x.size,i5 x.Dg,i5 x.n,i5 x.Aj] 110)):=(Av.refl [] w2).alloc _;obtain⟨w3,Ot⟩:∃z,z=World.alloc w2 (.cells #[.int .u8 x.kind,i5 x.v,.string x.op,.bool x.a.AR,i5 x.a.v,.bool x.b.AR,i5 x.b.v,.bool x.AW.AR,i5 x.AW.v,i5 x.first,i5 x.size,i5 x.Dg,i5 x.n,i5 x.Aj] 110):=⟨_,rfl⟩;rw[<-Ot] at hB Kn⊢;clear Ot;have hKn:A5 w3 (g'.Ar R') [(w2.heap.size,.cells #[.int .u8 x.kind,i5 x.v,.string x.op,.bool x.a.AR,i5 x.a.v,.bool x.b.AR,i5 x.b.v,.bool x.AW.AR,i5 x.AW.v,i5 x.first,i5 x.size,i5 x.Dg,i5 x.n,i5 x.Aj] 110 (0,0))]:=⟨fun b o hb=>by rw[Z] at hb;cases hb;exact hB,fun b o hb hl=>by rw[Z] at hb;cases hb;exact UV (Xn.Am.lt _ hl) (Qdy _)⟩;have S:=hid (((Ak.quiet H Hm).trans Xn).trans (Ak.quiet Xn.Am Kn));have K:=hid hKn;have iQ:w.heap.size<=w2.heap.size:=((Ak.quiet H Hm).trans Xn).Bf.size;obtain⟨nb,Vf⟩:∃z,z=w2.heap.size:=⟨_,rfl⟩;rw[<-Vf] at K iQ⊢;have AcI:=hid iQ;clear iQ;clear hKn Kn hB Vf Xn;have eI:R'.p.Aa=ts++[lth]:=ej.trans HT.out;obtain⟨vs,c,EK,l2,hv,bg,NG⟩:=L8 J4.cl (by rw[eI];simp:R'.p.Aa≠[]);obtain⟨rfl,LG⟩:EK=ts/\[l2]=[lth]:=Qca (bg.symm.trans eI) rfl;cases LG;clear bg;obtain⟨tb,tc,uj,_,_,_,_,_,_⟩:=AG (S.Am.row (i:=7) rfl) (by rw[eI];simp);have PC:Value.slice g'.t.p R'.p.Aa.length g'.t.c= .slice (some ⟨tb,0,none⟩) (EK.length+1) tc:=by rw[uj,eI];simp
  have fI:=hid eI;have pW:=hid hv;have jP:=hid NG;have Yh:=hid PC;have ZR:=hid (show EK.length < (BC g'.cv R'.p.Aa).length by rw[hv,eI,Bx _ _ _ _ NG,V,Cm _ _ NG];simp);have pS:=hid (show(BC g'.cv R'.p.Aa)[EK.length]'ZR.out= .slice c.p lth.length c.c by
    simp only[hv,eI,Bx _ _ _ _ NG];rw[Qcf (by rw[Cm _ _ NG];omega)];simp)
  clear eI hv NG PC uj ej;have H7:∀(G:RG) (Q:RS),Q.p=R'.p->G.t=g'.t->G.cv=g'.cv->(G.Ar Q)[7]?=some (.row (.slice (some ⟨tb,0,none⟩) (EK.length+1) tc) 72 1 (EK.length+1) (BC g'.cv R'.p.Aa)):=fun G Q h1 h2 h3=>by
   show some (Ob.row (.slice G.t.p Q.p.Aa.length G.t.c) 72 1 Q.p.Aa.length (BC G.cv Q.p.Aa))=_;rw[h1,h2,h3,Yh.out,fI.out];simp
  have Hit:∀(G:RG) (Q:RS),Q.p=R'.p->G.cv=g'.cv->G.cv=g'.cv->(G.Ar Q)[EK.length+10]?=some (.row (.slice c.p lth.length c.c) 110 14 lth.length (Bz lth)):=fun G Q h1 h3 _=>by
   rw[V9 (g:=G) (R:=Q) (h3.trans pW.out) (by rw[h1];exact fI.out) jP.out,<-Zc G Q jP.out];exact O6
  have Afu:=fS;have uM:lth.length+1<=maxLen:=by unfold maxLen;omega
  have uN:(lth.length+1)*120<=140737488355328:=Y
  have AbP:=HS.out;rw[<-uF] at AbP;have uE:R'.Af.length<=3:=by rw[RT];exact XC
  have Afp:=hid RT;clear RT uF;have Nh:True->wrap64 (R'.Ah+1)=R'.Ah+1:=fun _=>IntWalk.wrap64_in _ Y
  obtain⟨Cu,A8,C6,Bv,AX,Cq,Ng⟩:=AI S.Am;rw[Hg.out] at Cu C6 AX;have St:∀i:Nat,w3.cell? ⟨nb,i,none⟩=(#[.int .u8 x.kind,i5 x.v,.string x.op,.bool x.a.AR,i5 x.a.v,.bool x.b.AR,i5 x.b.v,.bool x.AW.AR,i5 x.AW.v,i5 x.first,i5 x.size,i5 x.Dg,i5 x.n,i5 x.Aj]:Array Value)[i]?:=K.cell (Z.2 rfl);have Fs:=K.lt (Z.2 rfl);replace Cu:=Cu;by_cases D3:14 < R'.Ah+1
  ·have QS:=hid (show RS.CQ R' x= .error 5 by unfold RS.CQ;rw[In D3]);go_wp2_with fail;go_ret;have t:Ak w (g.Ar R) (World.setCell w3 ⟨g'.rb,6,none⟩ (i5 (R'.Ah+1))) (g'.Ar {R' with Ah:=R'.Ah+1}):=S.trans (S.Am.set (i:=0) rfl 6 (i5 (R'.Ah+1)));rw[Hg.out] at t;rw[wN.out,Pr.out];show FE (RS.CQ R' x) g R w _ _;rw[QS.out];exact⟨rfl,t.Bf⟩
  ·go_upto_region 29 with fail
   have S1:Hid (Ak w (g.Ar R) (World.setCell w3 ⟨g.rb,6,none⟩ (i5 (R'.Ah+1))) (g'.Ar {R' with Ah:=R'.Ah+1})):=hid (by
     have t:Ak w (g.Ar R) (World.setCell w3 ⟨g'.rb,6,none⟩ (i5 (R'.Ah+1))) (g'.Ar {R' with Ah:=R'.Ah+1}):=S.trans (S.Am.set (i:=0) rfl 6 (i5 (R'.Ah+1)));rw[Hg.out] at t;exact t)
   have K1:Hid (A5 (World.setCell w3 ⟨g.rb,6,none⟩ (i5 (R'.Ah+1))) (g'.Ar {R' with Ah:=R'.Ah+1}) [(nb,.cells #[.int .u8 x.kind,i5 x.v,.string x.op,.bool x.a.AR,i5 x.a.v,.bool x.b.AR,i5 x.b.v,.bool x.AW.AR,i5 x.AW.v,i5 x.first,i5 x.size,i5 x.Dg,i5 x.n,i5 x.Aj] 110 (0,0))]):=hid (by
     have t:A5 (World.setCell w3 ⟨g'.rb,6,none⟩ (i5 (R'.Ah+1))) (g'.Ar {R' with Ah:=R'.Ah+1}) [(nb,.cells #[.int .u8 x.kind,i5 x.v,.string x.op,.bool x.a.AR,i5 x.a.v,.bool x.b.AR,i5 x.b.v,.bool x.AW.AR,i5 x.AW.v,i5 x.first,i5 x.size,i5 x.Dg,i5 x.n,i5 x.Aj] 110 (0,0))]:=K.step (S.Am.set (i:=0) rfl 6 (i5 (R'.Ah+1)));rw[Hg.out] at t;exact t)
   clear S K Cu A8 C6 Bv AX Cq Ng St Fs Nh;obtain⟨w4,XA⟩:∃z,z=World.setCell w3 ⟨g.rb,6,none⟩ (i5 (R'.Ah+1)):=⟨_,rfl⟩;rw[<-XA] at S1 K1⊢;clear XA;have St:∀i:Nat,w4.cell? ⟨nb,i,none⟩=(#[.int .u8 x.kind,i5 x.v,.string x.op,.bool x.a.AR,i5 x.a.v,.bool x.b.AR,i5 x.b.v,.bool x.AW.AR,i5 x.AW.v,i5 x.first,i5 x.size,i5 x.Dg,i5 x.n,i5 x.Aj]:Array Value)[i]?:=K1.cell (Z.2 rfl);have Fs:=K1.lt (Z.2 rfl);have qj:∀i:Nat,World.frozen? w4 ⟨nb,i,none⟩=false:=K1.free (Z.2 rfl);by_cases Kj:x.kind=122\/x.kind=108\/x.kind=40
   ·obtain⟨Cu,A8,C6,Bv,AX,Cq,Ng⟩:=AI S1.Am;rw[Hg.out] at Cu C6 AX;by_cases WG:R'.Af.length=3
    ·have QS:=hid (show RS.CQ R' x= .error 5 by unfold RS.CQ;rw[I D3,In Kj,In WG]);have uD:((R'.Af.length:Int)==3)=true:=by rw[WG];rfl
     clear WG;rcases Kj with hk | hk | hk;have Iu:((x.kind:Int)==122)=true:=by rw[hk];rfl
     clear hk D3;rotate_left;have Iu:((x.kind:Int)==122)=false:=by rw[hk];rfl
     have Ss:((x.kind:Int)==108)=true:=by rw[hk];rfl
     clear hk D3;rotate_left;have Iu:((x.kind:Int)==122)=false:=by rw[hk];rfl
     have Ss:((x.kind:Int)==108)=false:=by rw[hk];rfl
     have qi:((x.kind:Int)==40)=true:=by rw[hk];rfl
     clear hk D3;rotate_left;all_goals (
       go_wp2_with fail;go_ret;rw[wN.out,Pr.out];show FE (RS.CQ R' x) g R w _ _;rw[QS.out];exact⟨rfl,S1.Bf⟩)
    ·have QS:=hid (show RS.CQ R' x= .ok (RS.Be {R' with Ah:=R'.Ah+1,Af:=R'.Af++[lth.length]} (lth++[{x with Aj:=(R'.Af.length:Int)}])) from
        Yy D3 Kj WG (DH fI))
     have uD:((R'.Af.length:Int)==3)=false:=by rw[NE];omega
     clear WG;rcases Kj with hk | hk | hk;have Iu:((x.kind:Int)==122)=true:=by rw[hk];rfl
     clear hk D3;rotate_left;have Iu:((x.kind:Int)==122)=false:=by rw[hk];rfl
     have Ss:((x.kind:Int)==108)=true:=by rw[hk];rfl
     clear hk D3;rotate_left;have Iu:((x.kind:Int)==122)=false:=by rw[hk];rfl
     have Ss:((x.kind:Int)==108)=false:=by rw[hk];rfl
     have qi:((x.kind:Int)==40)=true:=by rw[hk];rfl
     clear hk D3;rotate_left;all_goals (
       go_upto_region 33 with fail
       have S2:Hid (Ak w (g.Ar R) (World.setCell w4 ⟨nb,13,none⟩ (i5 R'.Af.length)) (g'.Ar {R' with Ah:=R'.Ah+1})):=hid (Ak.AaP S1 (K1.out.out _ _ (Z.2 rfl)) AcI ((Av.refl [nb] _).setCell (.inl (Z.2 rfl)) _));have K2:Hid (A5 (World.setCell w4 ⟨nb,13,none⟩ (i5 R'.Af.length)) (g'.Ar {R' with Ah:=R'.Ah+1}) [(nb,.cells #[.int .u8 x.kind,i5 x.v,.string x.op,.bool x.a.AR,i5 x.a.v,.bool x.b.AR,i5 x.b.v,.bool x.AW.AR,i5 x.AW.v,i5 x.first,i5 x.size,i5 x.Dg,i5 x.n,i5 R'.Af.length] 110 (0,0))]):=hid (K1.rF 13 (i5 R'.Af.length));clear S1 K1 Cu A8 C6 Bv AX Cq Ng St Fs qj;first
         | clear Iu Ss qi
         | clear Iu Ss
         | clear Iu
       obtain⟨w5,Ud⟩:∃z,z=World.setCell w4 ⟨nb,13,none⟩ (i5 R'.Af.length):=⟨_,rfl⟩;rw[<-Ud] at S2 K2⊢;clear Ud uD;have Ct:=S2.Am;obtain⟨Cu,A8,C6,Bv,AX,Cq,Ng⟩:=AI Ct;have r0:w5.cell? ⟨g.rb,0,none⟩=some (i6 g'.pb):=Hg.out▸Cu 0;have r5:w5.cell? ⟨g.rb,5,none⟩=some (.slice g'.o.p R'.Af.length g'.o.c):=Hg.out▸Cu 5;have p0:w5.cell? ⟨g'.pb,0,none⟩=some (.slice (some ⟨tb,0,none⟩) (EK.length+1) tc):=(A8 0).trans (Qao some Yh);have P2:g.rb < w5.heap.size:=Hg.out▸AX;obtain⟨tcl,tf,tl⟩:=Bm (Ct.row (i:=7) (H7 _ _ rfl rfl rfl));have t0:w5.cell? ⟨tb,EK.length,none⟩=some (.slice c.p lth.length c.c):=(tcl EK.length ZR).trans (Qao some pS);clear Cu A8 C6 Bv Ng tcl AX Ct tf;refine Ap (l:=[(0,true),(1,true),(2,true),(3,true),(4,true),(5,true),(6,true),(7,true),(8,true),(9,true),(10,true),(11,true),(12,true),(13,true),(14,true),(15,true),(16,false),(17,false),(18,true),(19,true),(20,false)]) (fun W=>W.cell? ⟨g.rb,0,none⟩=some (i6 g'.pb)/\W.cell? ⟨g.rb,5,none⟩=some (.slice g'.o.p R'.Af.length g'.o.c)/\W.cell? ⟨g'.pb,0,none⟩=some (.slice (some ⟨tb,0,none⟩) (EK.length+1) tc)/\W.cell? ⟨tb,EK.length,none⟩=some (.slice c.p lth.length c.c)) 20 ⟨r0,r5,p0,t0⟩ ?_;refine detE ?_;intro Kq JD;refine JD _ _ (fun _=>⟨(Qac _ _ _ P2).trans r0,(Qac _ _ _ P2).trans r5,(Qac _ _ _ Cq).trans p0,(Qac _ _ _ tl).trans t0⟩) ?_;clear JD;refine Ai rfl (fun Kq JD=> ?_);refine B5 8 _ _ _ i0 _ #[i5 lth.length] _ S2.Am (k:=6) (v:= .slice g'.o.p R'.Af.length g'.o.c) (xs:=Es (Qv R'.Af)) (n:=R'.Af.length) (e:=3) (size:=1) rfl Do Do underlying29 hi Wx dU aW rfl AC Do Do rfl (by simp[Value.oneCell']) (by unfold maxLen;omega) Y ?_;intro g6 AZ w6 AD _;rw[T2] at AD;have Ow:=K2.step AD;have z0:w6.cell? ⟨g.rb,0,none⟩=some (i6 g'.pb):=Hg.out▸(AD.Am.Au (i:=0) rfl).cell 0;have z5:w6.cell? ⟨g.rb,5,none⟩=some (.slice g'.o.p R'.Af.length g'.o.c):=Hg.out▸(AD.Am.Au (i:=0) rfl).cell 5;have zf:World.frozen? w6 ⟨g.rb,5,none⟩=false:=Hg.out▸(AD.Am.Au (i:=0) rfl).free 5;have zl:g.rb < w6.heap.size:=Hg.out▸(AD.Am.Au (i:=0) rfl).lt;have z1:w6.cell? ⟨g'.pb,0,none⟩=some (.slice (some ⟨tb,0,none⟩) (EK.length+1) tc):=((AD.Am.Au (i:=1) rfl).cell 0).trans (Qao some Yh);obtain⟨tcl9,tf9,tl9⟩:=Bm (AD.Am.row (i:=7) (H7 g' {R' with Ah:=R'.Ah+1} rfl rfl rfl));have z2:w6.cell? ⟨tb,EK.length,none⟩=some (.slice c.p lth.length c.c):=(tcl9 EK.length ZR).trans (Qao some pS);refine JD _ _ (fun _=>⟨z0,z5,z1,z2⟩) (D9 rfl ?_);clear JD tcl9 tf9 tl9;simp only[FQ];refine detE ?_;intro Kq JD;refine JD _ _ (fun h=>UV rfl h) ?_;clear JD;simp only[BB];have S3:Hid (Ak w (g.Ar R) (World.setCell w6 ⟨g.rb,5,none⟩ (.slice (some ⟨g6,0,none⟩) (R'.Af.length+1) AZ)) (RG.Ar {g' with o:=⟨some ⟨g6,0,none⟩,AZ⟩} {R' with Ah:=R'.Ah+1,Af:=R'.Af++[lth.length]})):=hid (by
         have t1:=AD.trans (AD.Am.set (i:=0) rfl 5 (.slice (some ⟨g6,0,none⟩) (R'.Af.length+1) AZ));have e:(R'.Af++[lth.length]).length=R'.Af.length+1:=EQ
         have t2:Ak w (g.Ar R) (World.setCell w6 ⟨g'.rb,5,none⟩ (.slice (some ⟨g6,0,none⟩) (R'.Af.length+1) AZ)) (RG.Ar {g' with o:=⟨some ⟨g6,0,none⟩,AZ⟩} {R' with Ah:=R'.Ah+1,Af:=R'.Af++[lth.length]}):=by
           have t3:=S2.trans t1;unfold RG.Ar at t3⊢;simp only[e];exact t3
         exact(show World.setCell w6 ⟨g'.rb,5,none⟩ (.slice (some ⟨g6,0,none⟩) (R'.Af.length+1) AZ)=World.setCell w6 ⟨g.rb,5,none⟩ (.slice (some ⟨g6,0,none⟩) (R'.Af.length+1) AZ) by rw[Hg.out])▸t2)
       have K3:Hid (A5 (World.setCell w6 ⟨g.rb,5,none⟩ (.slice (some ⟨g6,0,none⟩) (R'.Af.length+1) AZ)) (RG.Ar {g' with o:=⟨some ⟨g6,0,none⟩,AZ⟩} {R' with Ah:=R'.Ah+1,Af:=R'.Af++[lth.length]}) [(nb,.cells #[.int .u8 x.kind,i5 x.v,.string x.op,.bool x.a.AR,i5 x.a.v,.bool x.b.AR,i5 x.b.v,.bool x.AW.AR,i5 x.AW.v,i5 x.first,i5 x.size,i5 x.Dg,i5 x.n,i5 R'.Af.length] 110 (0,0))]):=hid (by
         have t1:=Ow.step (AD.Am.set (i:=0) rfl 5 (.slice (some ⟨g6,0,none⟩) (R'.Af.length+1) AZ));have e:(R'.Af++[lth.length]).length=R'.Af.length+1:=EQ
         have t2:A5 (World.setCell w6 ⟨g'.rb,5,none⟩ (.slice (some ⟨g6,0,none⟩) (R'.Af.length+1) AZ)) (RG.Ar {g' with o:=⟨some ⟨g6,0,none⟩,AZ⟩} {R' with Ah:=R'.Ah+1,Af:=R'.Af++[lth.length]}) [(nb,.cells #[.int .u8 x.kind,i5 x.v,.string x.op,.bool x.a.AR,i5 x.a.v,.bool x.b.AR,i5 x.b.v,.bool x.AW.AR,i5 x.AW.v,i5 x.first,i5 x.size,i5 x.Dg,i5 x.n,i5 R'.Af.length] 110 (0,0))]:=by
           unfold RG.Ar at t1⊢;simp only[e];exact t1
         exact(show World.setCell w6 ⟨g'.rb,5,none⟩ (.slice (some ⟨g6,0,none⟩) (R'.Af.length+1) AZ)=World.setCell w6 ⟨g.rb,5,none⟩ (.slice (some ⟨g6,0,none⟩) (R'.Af.length+1) AZ) by rw[Hg.out])▸t2)
       clear S2 K2 AD Ow z0 z5 zf zl z1 z2 r0 r5 p0 t0 tl P2 Cq;obtain⟨w7,hw7⟩:∃z,z=World.setCell w6 ⟨g.rb,5,none⟩ (.slice (some ⟨g6,0,none⟩) (R'.Af.length+1) AZ):=⟨_,rfl⟩;rw[<-hw7] at S3 K3⊢;clear hw7;go_upto_region 34 with fail
       have Ct:=S3.Am;obtain⟨Cu,A8,C6,Bv,AX,Cq,Ng⟩:=AI Ct;have r0:w7.cell? ⟨g.rb,0,none⟩=some (i6 g'.pb):=Hg.out▸Cu 0;have p0:w7.cell? ⟨g'.pb,0,none⟩=some (.slice (some ⟨tb,0,none⟩) (EK.length+1) tc):=(A8 0).trans (Qao some Yh);have P2:g.rb < w7.heap.size:=Hg.out▸AX;obtain⟨tcl,tf,tl⟩:=Bm (Ct.row (i:=7) (H7 _ _ rfl rfl rfl));have t0:w7.cell? ⟨tb,EK.length,none⟩=some (.slice c.p lth.length c.c):=(tcl EK.length ZR).trans (Qao some pS);have St:∀i:Nat,w7.cell? ⟨nb,i,none⟩=(#[.int .u8 x.kind,i5 x.v,.string x.op,.bool x.a.AR,i5 x.a.v,.bool x.b.AR,i5 x.b.v,.bool x.AW.AR,i5 x.AW.v,i5 x.first,i5 x.size,i5 x.Dg,i5 x.n,i5 R'.Af.length]:Array Value)[i]?:=K3.cell (Z.2 rfl);have Fs:=K3.lt (Z.2 rfl);clear Cu A8 C6 Bv Ng tcl AX Ct;refine Ap (l:=[(0,true),(1,true),(2,true),(3,true),(4,true),(5,true),(6,true),(7,true),(8,true),(9,true),(10,true),(11,true),(12,true),(13,true),(14,true),(15,true),(16,true),(17,true),(18,true),(19,false),(20,false),(21,true),(22,false)]) (fun W=>W.cell? ⟨g.rb,0,none⟩=some (i6 g'.pb)/\W.cell? ⟨g'.pb,0,none⟩=some (.slice (some ⟨tb,0,none⟩) (EK.length+1) tc)/\W.cell? ⟨tb,EK.length,none⟩=some (.slice c.p lth.length c.c)/\∀i:Nat,W.cell? ⟨nb,i,none⟩=(#[.int .u8 x.kind,i5 x.v,.string x.op,.bool x.a.AR,i5 x.a.v,.bool x.b.AR,i5 x.b.v,.bool x.AW.AR,i5 x.AW.v,i5 x.first,i5 x.size,i5 x.Dg,i5 x.n,i5 R'.Af.length]:Array Value)[i]?) 22 ⟨r0,p0,t0,St⟩ ?_;refine detE ?_;intro Kq JD;refine JD _ _ (fun _=>⟨(Qac _ _ _ P2).trans r0,(Qac _ _ _ Cq).trans p0,(Qac _ _ _ tl).trans t0,fun i=>(Qac _ _ _ Fs).trans (St i)⟩) ?_;clear JD;refine Ai rfl (fun Kq JD=> ?_);refine B5 120 _ _ _ j0 _ #[.int .u8 x.kind,i5 x.v,.string x.op,.bool x.a.AR,i5 x.a.v,.bool x.b.AR,i5 x.b.v,.bool x.AW.AR,i5 x.AW.v,i5 x.first,i5 x.size,i5 x.Dg,i5 x.n,i5 R'.Af.length] _ S3.Am (k:=EK.length+10) (v:= .slice c.p lth.length c.c) (xs:=Bz lth) (n:=lth.length) (e:=110) (size:=14) (Hit _ _ rfl rfl rfl) Do Do underlying72 hj KW Fo K7 rfl AC Do Do rfl (by simp[Value.oneCell']) uM uN ?_;intro g9 JU w9 AD _;have Ow:=K3.step AD;have z0:w9.cell? ⟨g.rb,0,none⟩=some (i6 g'.pb):=Hg.out▸(AD.Am.Au (i:=0) rfl).cell 0;have z1:w9.cell? ⟨g'.pb,0,none⟩=some (.slice (some ⟨tb,0,none⟩) (EK.length+1) tc):=((AD.Am.Au (i:=1) rfl).cell 0).trans (Qao some Yh);obtain⟨tcl9,tf9,tl9⟩:=Bm (AD.Am.row (i:=7) (H7 {g' with o:=⟨some ⟨g6,0,none⟩,AZ⟩} {R' with Ah:=R'.Ah+1,Af:=R'.Af++[lth.length]} rfl rfl rfl));have z2:w9.cell? ⟨tb,EK.length,none⟩=some (.slice c.p lth.length c.c):=(tcl9 EK.length ZR).trans (Qao some pS);have z3:∀i:Nat,w9.cell? ⟨nb,i,none⟩=(#[.int .u8 x.kind,i5 x.v,.string x.op,.bool x.a.AR,i5 x.a.v,.bool x.b.AR,i5 x.b.v,.bool x.AW.AR,i5 x.AW.v,i5 x.first,i5 x.size,i5 x.Dg,i5 x.n,i5 R'.Af.length]:Array Value)[i]?:=Ow.cell (Z.2 rfl);refine JD _ _ (fun _=>⟨z0,z1,z2,z3⟩) (D9 rfl ?_);clear JD;simp only[FQ];refine AY ?_;have tf9':=tf9 EK.length;refine Ai rfl (fun Kq JD=> ?_);go_simp;refine JD _ _ (fun h=>UV rfl h) ?_;clear JD;simp only[BB];have KT:=hid AD;clear AD Ow z0 z1 z2 z3 tcl9 tf9 tf9' tl9 r0 p0 t0 St Fs tf tl P2 Cq;go_wp2;go_ret;have AD:=KT.out;rw[show Bz lth++(#[.int .u8 x.kind,i5 x.v,.string x.op,.bool x.a.AR,i5 x.a.v,.bool x.b.AR,i5 x.b.v,.bool x.AW.AR,i5 x.AW.v,i5 x.first,i5 x.size,i5 x.Dg,i5 x.n,i5 R'.Af.length]:Array Value).toList=Bz (lth++[({x with Aj:=(R'.Af.length:Int)}:Nd)]) from Gp lth ({x with Aj:=(R'.Af.length:Int)}:Nd)] at AD;have hlen:(lth++[({x with Aj:=(R'.Af.length:Int)}:Nd)]).length=lth.length+1:=EQ
       rw[<-hlen] at AD;have hm:=MP (g:={g' with o:=⟨some ⟨g6,0,none⟩,AZ⟩}) (R:={R' with Ah:=R'.Ah+1,Af:=R'.Af++[lth.length]}) (m:=lth++[({x with Aj:=(R'.Af.length:Int)}:Nd)]) pW fI jP Yh AD;rw[wN.out,Pr.out];show FE (RS.CQ R' x) g R w _ _;rw[QS.out];refine⟨rfl,{{g' with o:=⟨some ⟨g6,0,none⟩,AZ⟩} with cv:=vs++[⟨some ⟨g9,0,none⟩,JU⟩]},(by exact Hg.out),No (g:={g' with o:=⟨some ⟨g6,0,none⟩,AZ⟩}) (R:={R' with Ah:=R'.Ah+1,Af:=R'.Af++[lth.length]}) pW fI ⟨J4.cl,J4.dl,J4.ql,J4.tl,J4.fl,J4.zl,J4.ll⟩ _ _ _,?_⟩;have hq:=S3.trans hm;rw[hlen] at hq;exact hq)
   ·have QS:=hid (show RS.CQ R' x= .ok (RS.Be {R' with Ah:=R'.Ah+1} (lth++[x])) from
       Yx D3 Kj (DH fI))
    have Iu:((x.kind:Int)==122)=false:=by rw[NE];omega
    have Ss:((x.kind:Int)==108)=false:=by rw[NE];omega
    have qi:((x.kind:Int)==40)=false:=by rw[NE];omega
    clear Kj D3;go_upto_region 34 with fail
    clear Iu Ss qi St Fs qj;have Ct:=S1.Am;obtain⟨Cu,A8,C6,Bv,AX,Cq,Ng⟩:=AI Ct;have r0:w4.cell? ⟨g.rb,0,none⟩=some (i6 g'.pb):=Hg.out▸Cu 0;have p0:w4.cell? ⟨g'.pb,0,none⟩=some (.slice (some ⟨tb,0,none⟩) (EK.length+1) tc):=(A8 0).trans (Qao some Yh);have P2:g.rb < w4.heap.size:=Hg.out▸AX;obtain⟨tcl,tf,tl⟩:=Bm (Ct.row (i:=7) (H7 _ _ rfl rfl rfl));have t0:w4.cell? ⟨tb,EK.length,none⟩=some (.slice c.p lth.length c.c):=(tcl EK.length ZR).trans (Qao some pS);have St:∀i:Nat,w4.cell? ⟨nb,i,none⟩=(#[.int .u8 x.kind,i5 x.v,.string x.op,.bool x.a.AR,i5 x.a.v,.bool x.b.AR,i5 x.b.v,.bool x.AW.AR,i5 x.AW.v,i5 x.first,i5 x.size,i5 x.Dg,i5 x.n,i5 x.Aj]:Array Value)[i]?:=K1.cell (Z.2 rfl);have Fs:=K1.lt (Z.2 rfl);clear Cu A8 C6 Bv Ng tcl AX Ct;refine Ap (l:=[(0,true),(1,true),(2,true),(3,true),(4,true),(5,true),(6,true),(7,true),(8,true),(9,true),(10,true),(11,true),(12,true),(13,true),(14,true),(15,true),(16,true),(17,true),(18,true),(19,false),(20,false),(21,true),(22,false)]) (fun W=>W.cell? ⟨g.rb,0,none⟩=some (i6 g'.pb)/\W.cell? ⟨g'.pb,0,none⟩=some (.slice (some ⟨tb,0,none⟩) (EK.length+1) tc)/\W.cell? ⟨tb,EK.length,none⟩=some (.slice c.p lth.length c.c)/\∀i:Nat,W.cell? ⟨nb,i,none⟩=(#[.int .u8 x.kind,i5 x.v,.string x.op,.bool x.a.AR,i5 x.a.v,.bool x.b.AR,i5 x.b.v,.bool x.AW.AR,i5 x.AW.v,i5 x.first,i5 x.size,i5 x.Dg,i5 x.n,i5 x.Aj]:Array Value)[i]?) 22 ⟨r0,p0,t0,St⟩ ?_;refine detE ?_;intro Kq JD;refine JD _ _ (fun _=>⟨(Qac _ _ _ P2).trans r0,(Qac _ _ _ Cq).trans p0,(Qac _ _ _ tl).trans t0,fun i=>(Qac _ _ _ Fs).trans (St i)⟩) ?_;clear JD;refine Ai rfl (fun Kq JD=> ?_);refine B5 120 _ _ _ j0 _ #[.int .u8 x.kind,i5 x.v,.string x.op,.bool x.a.AR,i5 x.a.v,.bool x.b.AR,i5 x.b.v,.bool x.AW.AR,i5 x.AW.v,i5 x.first,i5 x.size,i5 x.Dg,i5 x.n,i5 x.Aj] _ S1.Am (k:=EK.length+10) (v:= .slice c.p lth.length c.c) (xs:=Bz lth) (n:=lth.length) (e:=110) (size:=14) (Hit _ _ rfl rfl rfl) Do Do underlying72 hj KW Fo K7 rfl AC Do Do rfl (by simp[Value.oneCell']) uM uN ?_;intro g9 JU w9 AD _;have Ow:=K1.step AD;have z0:w9.cell? ⟨g.rb,0,none⟩=some (i6 g'.pb):=Hg.out▸(AD.Am.Au (i:=0) rfl).cell 0;have z1:w9.cell? ⟨g'.pb,0,none⟩=some (.slice (some ⟨tb,0,none⟩) (EK.length+1) tc):=((AD.Am.Au (i:=1) rfl).cell 0).trans (Qao some Yh);obtain⟨tcl9,tf9,tl9⟩:=Bm (AD.Am.row (i:=7) (H7 g' {R' with Ah:=R'.Ah+1} rfl rfl rfl));have z2:w9.cell? ⟨tb,EK.length,none⟩=some (.slice c.p lth.length c.c):=(tcl9 EK.length ZR).trans (Qao some pS);have z3:∀i:Nat,w9.cell? ⟨nb,i,none⟩=(#[.int .u8 x.kind,i5 x.v,.string x.op,.bool x.a.AR,i5 x.a.v,.bool x.b.AR,i5 x.b.v,.bool x.AW.AR,i5 x.AW.v,i5 x.first,i5 x.size,i5 x.Dg,i5 x.n,i5 x.Aj]:Array Value)[i]?:=Ow.cell (Z.2 rfl);refine JD _ _ (fun _=>⟨z0,z1,z2,z3⟩) (D9 rfl ?_);clear JD;simp only[FQ];refine AY ?_;have tf9':=tf9 EK.length;refine Ai rfl (fun Kq JD=> ?_);go_simp;refine JD _ _ (fun h=>UV rfl h) ?_;clear JD;simp only[BB];have KT:=hid AD;clear AD Ow z0 z1 z2 z3 tcl9 tf9 tf9' tl9 r0 p0 t0 St Fs tf tl P2 Cq;go_wp2;go_ret;have AD:=KT.out;rw[show Bz lth++(#[.int .u8 x.kind,i5 x.v,.string x.op,.bool x.a.AR,i5 x.a.v,.bool x.b.AR,i5 x.b.v,.bool x.AW.AR,i5 x.AW.v,i5 x.first,i5 x.size,i5 x.Dg,i5 x.n,i5 x.Aj]:Array Value).toList=Bz (lth++[(x:Nd)]) from Gp lth (x:Nd)] at AD;have hlen:(lth++[(x:Nd)]).length=lth.length+1:=EQ
    rw[<-hlen] at AD;have hm:=MP (g:=g') (R:={R' with Ah:=R'.Ah+1}) (m:=lth++[(x:Nd)]) pW fI jP Yh AD;rw[wN.out,Pr.out];show FE (RS.CQ R' x) g R w _ _;rw[QS.out];refine⟨rfl,{g' with cv:=vs++[⟨some ⟨g9,0,none⟩,JU⟩]},(by exact Hg.out),No (g:=g') (R:={R' with Ah:=R'.Ah+1}) pW fI ⟨J4.cl,J4.dl,J4.ql,J4.tl,J4.fl,J4.zl,J4.ll⟩ _ _ _,?_⟩;have hq:=S1.trans hm;rw[hlen] at hq;exact hq):p:=h
theorem mac {p:Prop} (h:p:=by
 have S9:k < R.Af.length:=Y
 obtain⟨vs,c,EK,l2,hv,bg,NG⟩:=L8 HL.cl (by rw[HT.out];simp:R.p.Aa≠[]);obtain⟨rfl,LG⟩:EK=ts/\[l2]=[lth]:=Qca (bg.symm.trans HT) rfl;cases LG;clear bg;have UD:=V9 hv HT NG;have FA:R.Af[k] < lth.length:=by rw[<-DH HT.out];exact HO.lt _ (Qab _)
 obtain⟨ob,oc,xi,_,y7,_,_,Oy,_⟩:=AG (ho.row (i:=6) rfl) Y;have eg:wr.cell? ⟨ob,k,none⟩=some (i5 (R.Af[k]:Int)):=by rw[Oy k (by simp[Es,Qv];exact S9)];simp[Es,Qv]
 obtain⟨tb,tc,PC,_,yU,_,_,Ov,_⟩:=AG (ho.row (i:=7) rfl) (by rw[HT.out];simp);have aZ:wr.cell? ⟨tb,EK.length,none⟩=some (.slice c.p lth.length c.c):=by
  rw[Ov EK.length (by rw[hv,HT.out,Bx _ _ _ _ NG,V,Cm _ _ NG];simp)];simp only[hv,HT.out,Bx _ _ _ _ NG];rw[Qcf (by rw[Cm _ _ NG];omega)];simp
 have hit:(g.Ar R)[EK.length+10]?=some (DQ c lth):=by rw[UD,<-Zc g R NG];exact O6
 obtain⟨lb,lc,hle,_,za,_,_,OA,_⟩:=AG (ho.row hit) Y;have Gu:wr.cell? ⟨lb,R.Af[k]*14,none⟩=some (.int .u8 (lth.getD R.Af[k] (.of 0)).kind):=by
  have AX:R.Af[k]*14+0 < (Bz lth).length:=by rw[EN];omega
  have:=OA _ AX;rw[<-Id,Jz lth R.Af[k] 0 FA Y] at this;exact this
 rw[xi] at Cu;rw[show R.p.Aa.length=EK.length+1 by rw[HT.out];simp] at PC;rw[PC] at A8;rw[hle] at aZ;have WA:(R.Af.take (k+1)).any (fun j=>(lth.getD j (.of 0)).kind==40)=(((R.Af.take k).any fun j=>(lth.getD j (.of 0)).kind==40) || ((lth.getD R.Af[k] (.of 0)).kind==40)):=by
  rw[Qar S9,List.any_append];simp
 obtain⟨b,hb⟩:∃b,b=((R.Af.take k).any fun j=>(lth.getD j (.of 0)).kind==40):=⟨_,rfl⟩;obtain⟨x,hx⟩:∃x,x=(lth.getD R.Af[k] (.of 0)).kind:=⟨_,rfl⟩;obtain⟨AW,u5⟩:∃a,a=R.Af[k]:=⟨_,rfl⟩;rw[<-hx] at Gu WA;rw[<-hb] at WA⊢;rw[<-u5] at FA eg Gu;have Xm:=hid WA;have Hm:=hid hm;have ha0:(0:Int)<=(AW:Int):=Y
 have ha1:(AW:Int) < (lth.length:Int):=Y
 have PG:(0:Int)<=(k:Int):=Y
 have Ta:k<=2000:=Y
 have hkx:((x:Int)==40)=(x==40):=by rw[Qcp];simp;omega
 clear WA hm hb hx u5 xi PC hle hit UD OA Ov Oy hv NG ho FA;have r0:wr.cell? ⟨g.rb,0,none⟩=some (i6 g.pb):=Cu 0;have r5:wr.cell? ⟨g.rb,5,none⟩=some (.slice (some ⟨ob,0,none⟩) R.Af.length oc):=Cu 5;have p0:wr.cell? ⟨g.pb,0,none⟩=some (.slice (some ⟨tb,0,none⟩) (EK.length+1) tc):=A8 0;cases b with
 | true=>
  go_upto_region 20 with fail
  refine Ap (l:=[(0,true),(1,true),(2,true),(3,true),(4,true),(5,true),(6,true),(7,true),(8,true),(9,true),(10,true),(11,true),(12,true),(13,true),(14,true),(15,true),(16,true),(17,true),(18,true),(19,true),(20,true),(21,true),(22,true),(23,true),(24,false)]) (fun W=>True) 24 trivial ?_;repeat
   first
    | (refine Vr rfl rfl rfl ?_
       simp only[FQ])
    | (refine I0 (v:= ?_) rfl rfl rfl (fun W hW=> ?_) ?_
       rotate_left
       · go_simp;rfl
       simp only[FQ])
  refine Ai rfl (fun K hK=> ?_);go_simp;refine hK _ _ (fun h=>UV rfl h) ?_;clear hK;simp only[BB];have inc:True->wrap64 ((k:Int)+1)=k+1:=fun _=>IntWalk.wrap64_in _ Y
  go_wp2;go_roundw;case rel=>exact⟨k+1,rfl,S9,by rw[Xm.out];rfl,Hm.drew⟩
  case measure=>simp[intOf];omega
 | false=>
  go_upto_region 20 with fail
  refine Ap (l:=[(0,true),(1,true),(2,true),(3,true),(4,true),(5,true),(6,true),(7,true),(8,true),(9,true),(10,true),(11,true),(12,true),(13,true),(14,true),(15,true),(16,true),(17,true),(18,true),(19,true),(20,true),(21,true),(22,true),(23,true),(24,false)]) (fun W=>W.cell? ⟨g.rb,0,none⟩=some (i6 g.pb)/\W.cell? ⟨g.rb,5,none⟩=some (.slice (some ⟨ob,0,none⟩) R.Af.length oc)/\W.cell? ⟨g.pb,0,none⟩=some (.slice (some ⟨tb,0,none⟩) (EK.length+1) tc)/\W.cell? ⟨tb,EK.length,none⟩=some (.slice (some ⟨lb,0,none⟩) lth.length lc)/\W.cell? ⟨ob,k,none⟩=some (i5 (AW:Int))/\W.cell? ⟨lb,AW*14,none⟩=some (.int .u8 x)) 24 ⟨r0,r5,p0,aZ,eg,Gu⟩ ?_;refine detE ?_;intro K hK;refine hK _ _ (fun h=>UV rfl h) ?_;clear hK;simp only[BB];have inc:True->wrap64 ((k:Int)+1)=k+1:=fun _=>IntWalk.wrap64_in _ Y
  go_wp2;go_roundw;case rel=>exact⟨k+1,rfl,S9,by rw[Xm.out];simp,Hm.drew⟩
  case measure=>simp[intOf];omega):p:=h
theorem maw {p:Prop} (h:p:=by
 have ho:R.Af=[]:=by
  rcases Classical.em (R.Af=[]) with h | h
  ·exact h
  ·exact UV hT (hO.ne h)
 have Hr3:=hid (show R.row l= .error 3 by rw[AJ.out,In (.inl hT)]);rw[hT] at A8;rw[ho] at Cu;have HT:=hid hT;have Ho:=hid ho;clear hO hT ho oy XC;simp only[m7] at Cu A8;go_enter func37,ntmps37;go_wp2;go_loopw [6,7] (fun a i wr=>a= .bool false/\i= i5 0/\wr=w) (fun _ _ _=>0);case atStart=>exact⟨rfl,rfl,rfl⟩
 case round=>
  obtain⟨rfl,rfl,kJ⟩:=hrel;subst kJ;go_wp2;go_ret;rw[Hr3.out];exact⟨rfl,Av.refl _ _⟩):p:=h
theorem mch {p:Prop} (h:p:=by
 go_wp2;go_ret;rw[Hr3.out];exact⟨rfl,Hm.nil⟩):p:=h
variable {w:World} {B L:List Ob} {ts:List (List Nd)} {b:Nat} {n:ByteArray} {r q:RS} {x y:Nd} {c:Int} {l:List Nd}
theorem tV:(prog.info? 72).map (fun i=>(i.zero,i.size,i.bytes))=some (some (.slice none 0 0),1,24):=Fd
theorem yR:(prog.info? 51).map (fun i=>(i.zero,i.size,i.bytes))=some (some (.slice none 0 0),1,24):=Fd
theorem Zb:(prog.info? 4).map (fun i=>(i.zero,i.size,i.bytes))=some (some (.bool false),1,1):=Fd
theorem Ak.jI {A:List Ob} {o:Ob} (h:Az w (A++B)) (ho:o.holds w) (hf:o.fp=[]):Ak w (A++B) w (A++o::B):=by
 have e:D4 (A++o::B)=D4 (A++B):=by rw[A4,Gd,hf,A4];rfl
 refine⟨⟨fun p hp=> ?_,by rw[e];exact h.KE⟩,Av.refl _ _,fun b hb=> .inl (by rw[e] at hb;exact hb)⟩;rcases Nm.1 hp with hp | hp
 ·exact h.holds p (D _ hp)
 ·rcases Pi.1 hp with rfl | hp
  ·exact ho
  ·exact h.holds p (GT _ hp)
theorem xL {T:List Ob} {cv:List SG} (hl:cv.length=ts.length) (h:Az w (T++(List.zipWith DQ cv ts++B))):
  Ak w (T++(List.zipWith DQ cv ts++B)) w (T++(List.zipWith DQ (cv++[⟨none,0⟩]) (ts++[[]])++B)):=by
 rw[<-PP] at h;have:=Ak.jI (A:=T++List.zipWith DQ cv ts) (B:=B) (o:=DQ ⟨none,0⟩ []) h (Da _ _ _ _) rfl;rw[Qb4 hl];simpa using this
theorem xG {n:Nat} (hn:n<=maxLen) (h:Az w (L++[.Au b (Array.replicate n (.bool false)) 4])):Ak w (L++[.Au b (Array.replicate n (.bool false)) 4]) w (L++[Cd ⟨some ⟨b,0,none⟩,n⟩ (List.replicate n false)]):=by
 have k:=h.swap (i:=L.length) (o':=Cd ⟨some ⟨b,0,none⟩,n⟩ (List.replicate n false)) (o:= .Au b (Array.replicate n (.bool false)) 4) EQ (Av.refl _ _) ?_ (by simp[Cd,Ob.fp,Value.ownBlock]) (fun x hx=> .inl (by simpa[Cd,Ob.fp,Value.ownBlock] using hx))
 ·simpa using k
 ·have hb:=h.Au (i:=L.length) (b:=b) (c:=Array.replicate n (.bool false)) (T:=4) EQ;refine⟨by simp[FK],.inr ⟨b,n,Array.replicate n (.bool false),EQ,d6 _,hb,EQ,hn,EQ,by simp[FK]⟩⟩
theorem aj (l:Ws) (lw:Value) (w:World) (g:RG) (R:RS) (n:Nat) (h:Az w (g.Ar R)) (hL:Dq g R) (hI:Mo R n)
  (hw:Sl w (fun b=>b∉D4 (g.Ar R)) lw (A3 l)) (Bi:l≠[]) (NH:Br l=true) (hk:bs (wd l 0)=AE) (ho:R.Af=[]):
  Calls prog 37 #[i6 g.rb,lw] w (FE (R.row l) g R w):=by
 have hl:0 < l.length:=Qae.2 Bi;have AF:R.row l= .ok {R with p:={R.p with Aa:=R.p.Aa++[[]],Ao:=R.p.Ao++[List.replicate R.p.cells.toNat false],BJ:=R.p.BJ++[false]},AA:=[],Ah:=0}:=by
  unfold RS.row;simp only[hk];rw[I AC,In trivial,I (fun h=>h ho)]
 obtain⟨j0,hj,KW,Fo,K7⟩:=info_parts tV;obtain⟨i0,hi,Wx,dU,aW⟩:=info_parts yR;obtain⟨k0,PG,xe,GG,IG⟩:=info_parts Zb;obtain⟨wb,woff,wcap,rfl,hd⟩:=Fz hw hl;have c0:=hd.c 0 Y;simp only[Qaj] at c0;have q0:=BO hk;unfold AE at q0;have q1:=An (x:=wd l 0) (k:=AK) (by rw[hk];decide);unfold AK at q1;have Mu:(0:Int) < (l.length:Int):=Y
 obtain⟨Cu,A8,C6,Bv,AX,Cq,oC⟩:=AI h;have oy:R.p.Aa.length<=2500:=by have:=hI.bn;have:=hI.nn;omega
 have hun:R.p.Ao.length<=2500:=by rw[hL.tl];exact oy
 have hqn:R.p.BJ.length<=2500:=by rw[hL.ql];exact oy
 have ho0:¬(0:Int) < (R.Af.length:Int):=by rw[ho];decide
 obtain⟨cn,UG⟩:∃m:Nat,R.p.cells=m:=⟨R.p.cells.toNat,by have:=hI.c0;omega⟩;have Pb:cn<=15000:=by have:=hI.c1;have:=hI.bn;have:=hI.nn;omega
 have qg:∀W:World,(Instr.makeSlice 51 (i5 (cn:Int)) (i5 (cn:Int))).run prog W= .ok (.slice (some ⟨W.heap.size,0,none⟩) cn cn) (W.alloc (.cells (Array.replicate cn (.bool false)) 4)):=fun W=>by
  rw[run_make_row' 51 4 (.bool false) 1 underlying51 Zb rfl .i64 .i64 cn Y Y W];congr 3;apply Array.ext
  ·simp[madeCells]
  ·intro i h1 h2;simp[madeCells,Nat.mod_one]
 have Gu:=hd.n0;have K8:=hd.n1;have Fb:=hd.lt;unfold maxLen at K8;have AJ:=hid AF;have H:=hid h;have HL:=hid hL;have Hcn:=hid UG;have Hmk:=hid qg;have Ho:=hid ho;clear AF hw hl hk hd h hI Bi ho hL UG qg NH;go_enter func37,ntmps37;go_upto_region 8 with fail
 refine Ap (l:=[(0,true),(1,true),(2,true),(3,true),(4,true),(5,true),(6,true),(7,true),(8,true),(9,true),(10,true),(11,false),(12,false),(13,true),(14,true),(15,false)]) (fun W=>W.cell? ⟨g.rb,0,none⟩=some (i6 g.pb)/\W.cell? ⟨g.pb,0,none⟩=some (.slice g.t.p R.p.Aa.length g.t.c)) 15 ?_ ?_
 ·exact mbq
 refine detE ?_;intro K hK;refine hK _ _ (fun _=>⟨by go_simp,by go_simp⟩) ?_;refine Ai rfl (fun K hK=> ?_);refine B5 24 _ _ _ j0 _ #[.slice none 0 0] _ H (k:=7) rfl Do Do underlying50 hj KW Fo K7 rfl Y Do Do rfl (by simp[Value.oneCell']) (by unfold maxLen;omega) Y ?_;intro g6 AZ w6 AD _;have z1:w6.cell? ⟨g.rb,0,none⟩=some (i6 g.pb):=(AD.Am.Au (i:=0) rfl).cell 0;have z2:w6.cell? ⟨g.pb,0,none⟩=some (.slice g.t.p R.p.Aa.length g.t.c):=(AD.Am.Au (i:=1) rfl).cell 0;have zf:w6.frozen? ⟨g.pb,0,none⟩=false:=(AD.Am.Au (i:=1) rfl).free 0;have zl:g.pb < w6.heap.size:=(AD.Am.Au (i:=1) rfl).lt;refine hK _ _ (fun _=>⟨z1,z2⟩) (D9 rfl ?_);simp only[FQ];refine detE ?_;intro K hK;refine hK _ _ (fun h=>UV rfl h) ?_;simp only[BB];clear z1 z2;have t1:=AD.Am.set (i:=1) rfl 0 (.slice (some ⟨g6,0,none⟩) (R.p.Aa.length+1) AZ);have s1:Ak w (g.Ar R) (w6.setCell ⟨g.pb,0,none⟩ (.slice (some ⟨g6,0,none⟩) (R.p.Aa.length+1) AZ)) (RG.Ar {g with t:=⟨some ⟨g6,0,none⟩,AZ⟩,cv:=g.cv++[⟨none,0⟩]} {R with p:={R.p with Aa:=R.p.Aa++[[]]}}):=by
  have e:(R.p.Aa++[[]]).length=R.p.Aa.length+1:=EQ
  have e2:BC (g.cv++[⟨none,0⟩]) (R.p.Aa++[[]])=BC g.cv R.p.Aa++[.slice none 0 0]:=Bx _ _ _ _ HL.cl;have t2:=AD.trans t1;have t3:=t2.trans (xL (T:=[_,_,_,_,_,_,_,_,_,_]) HL.cl t2.Am);unfold RG.Ar;unfold RG.Ar at t3;rw[e,e2];exact t3
 clear t1 AD Cu A8 C6 Bv AX Cq oC c0 Fb zf zl;generalize w6.setCell {block:=g.pb,off:=0} (Value.slice (some {block:=g6,off:=0}) (R.p.Aa.length+1) AZ)=w1 at s1⊢;obtain⟨Cu,A8,C6,Bv,AX,Cq,Bi⟩:=AI s1.Am;have S:=hid s1;clear s1;rw[Hcn.out] at A8;have qg:=Hmk.out;go_upto_region 9 with fail
 refine Ap (l:=[(0,true),(1,true),(2,true),(3,true),(4,true),(5,true),(6,true),(7,true),(8,true),(9,true),(10,true),(11,true),(12,true),(13,true),(14,true),(15,true),(16,true),(17,true),(18,false),(19,false),(20,false),(21,true),(22,true),(23,false)]) (fun W=>W.cell? ⟨g.rb,0,none⟩=some (i6 g.pb)/\W.cell? ⟨g.pb,2,none⟩=some (.slice g.u.p R.p.Ao.length g.u.c)/\W.cell? ⟨g.pb,1,none⟩=some (i5 (cn:Int))) 23 ?_ ?_
 ·exact mck
 refine detE ?_;intro K hK;refine hK _ _ (fun _=>⟨by go_simp,by go_simp,by go_simp⟩) ?_;refine Ai rfl (fun K hK=> ?_);go_simp;refine hK _ _ (fun _=>⟨by go_simp,by go_simp,by go_simp⟩) ?_;clear qg;have a1:=Ak.new S.Am (.cells (Array.replicate cn (.bool false)) 4);have a2:=a1.trans (Ak.alloc a1.Am (.cells #[.slice (some ⟨w1.heap.size,0,none⟩) cn cn] 51));have a3:=a2.trans (Ak.drew a2.Am);refine Ai rfl (fun K hK=> ?_);refine VK 24 _ _ _ i0 _ #[.slice (some ⟨w1.heap.size,0,none⟩) cn cn] _ (w1.heap.size+1) a3.Am (k:=8) rfl (Xi w1 _ _) Do Do underlying44 hi Wx dU aW rfl Y Do Do rfl (by simp[Value.oneCell']) (show R.p.Ao.length+1<=maxLen by unfold maxLen;omega) (show(R.p.Ao.length+1)*24<=_ by omega) ?_;intro g7 Se w7 AD _;have z1:w7.cell? ⟨g.rb,0,none⟩=some (i6 g.pb):=(AD.Am.Au (i:=0) rfl).cell 0;have z2:w7.cell? ⟨g.pb,2,none⟩=some (.slice g.u.p R.p.Ao.length g.u.c):=(AD.Am.Au (i:=1) rfl).cell 2;have z3:w7.cell? ⟨g.pb,1,none⟩=some (i5 (cn:Int)):=by rw[<-Hcn.out];exact(AD.Am.Au (i:=1) rfl).cell 1
 have zf:w7.frozen? ⟨g.pb,2,none⟩=false:=(AD.Am.Au (i:=1) rfl).free 2;have zl:g.pb < w7.heap.size:=(AD.Am.Au (i:=1) rfl).lt;refine hK _ _ (fun _=>⟨z1,z2,z3⟩) (D9 rfl ?_);simp only[FQ];refine detE ?_;intro K hK;refine hK _ _ (fun h=>UV rfl h) ?_;simp only[BB];clear z1 z2 z3;have t1:=AD.Am.set (i:=1) rfl 2 (.slice (some ⟨g7,0,none⟩) (R.p.Ao.length+1) Se);have s2:Ak w (g.Ar R) (w7.setCell ⟨g.pb,2,none⟩ (.slice (some ⟨g7,0,none⟩) (R.p.Ao.length+1) Se)) (RG.Ar {g with t:=⟨some ⟨g6,0,none⟩,AZ⟩,cv:=g.cv++[⟨none,0⟩],u:=⟨some ⟨g7,0,none⟩,Se⟩,dv:=g.dv++[⟨some ⟨w1.heap.size,0,none⟩,cn⟩]} {R with p:={R.p with Aa:=R.p.Aa++[[]],Ao:=R.p.Ao++[List.replicate cn false]}}):=by
  have e:(R.p.Ao++[List.replicate cn false]).length=R.p.Ao.length+1:=EQ
  have e2:BC (g.dv++[⟨some ⟨w1.heap.size,0,none⟩,cn⟩]) (R.p.Ao++[List.replicate cn false])=BC g.dv R.p.Ao++[.slice (some ⟨w1.heap.size,0,none⟩) cn cn]:=by
   rw[Bx _ _ _ _ HL.out.dl];simp
  have e3:List.zipWith Cd (g.dv++[⟨some ⟨w1.heap.size,0,none⟩,cn⟩]) (R.p.Ao++[List.replicate cn false])=List.zipWith Cd g.dv R.p.Ao++[Cd ⟨some ⟨w1.heap.size,0,none⟩,cn⟩ (List.replicate cn false)]:=by
   rw[Qb4 HL.out.dl];rfl
  have t2:=S.trans (a3.trans (AD.trans t1));have t3:=t2.trans (xG (L:=[_,_,_,_,_,_,_,_,_,_]++(List.zipWith DQ (g.cv++[⟨none,0⟩]) (R.p.Aa++[[]])++List.zipWith Cd g.dv R.p.Ao)) (b:=w1.heap.size) (n:=cn) (by unfold maxLen;omega) t2.Am);rw[PP,PP,<-e3] at t3;unfold RG.Ar;unfold RG.Ar at t3;rw[e,e2];exact t3
 clear t1 AD a1 a2 a3 Cu A8 C6 Bv AX Cq Bi zf zl S;have Vf:w1.heap.size=w1.heap.size:=rfl;generalize w1.heap.size=nb at s2;generalize w7.setCell {block:=g.pb,off:=2} (Value.slice (some {block:=g7,off:=0}) (R.p.Ao.length+1) Se)=w2 at s2⊢;obtain⟨Cu,A8,C6,Bv,AX,Cq,Bi⟩:=AI s2.Am;have S:=hid s2;clear s2;go_upto_region 10 with fail
 refine Ap (l:=[(0,true),(1,true),(2,true),(3,true),(4,true),(5,true),(6,true),(7,true),(8,true),(9,true),(10,true),(11,false),(12,false),(13,true),(14,true),(15,false)]) (fun W=>W.cell? ⟨g.rb,0,none⟩=some (i6 g.pb)/\W.cell? ⟨g.pb,3,none⟩=some (.slice g.q.p R.p.BJ.length g.q.c)) 15 ?_ ?_
 ·exact mbq
 refine detE ?_;intro K hK;refine hK _ _ (fun _=>⟨by go_simp,by go_simp⟩) ?_;refine Ai rfl (fun K hK=> ?_);refine B5 1 _ _ _ k0 _ #[.bool false] _ S.Am (k:=9) rfl Do Do underlying51 PG xe GG IG rfl Y Do Do rfl (by simp[Value.oneCell']) (show R.p.BJ.length+1<=maxLen by unfold maxLen;omega) (show(R.p.BJ.length+1)*1<=_ by omega) ?_;intro g8 UP w8 AD _;rw[bS] at AD;have z1:w8.cell? ⟨g.rb,0,none⟩=some (i6 g.pb):=(AD.Am.Au (i:=0) rfl).cell 0;have z2:w8.cell? ⟨g.pb,3,none⟩=some (.slice g.q.p R.p.BJ.length g.q.c):=(AD.Am.Au (i:=1) rfl).cell 3;have zf:w8.frozen? ⟨g.pb,3,none⟩=false:=(AD.Am.Au (i:=1) rfl).free 3;have zl:g.pb < w8.heap.size:=(AD.Am.Au (i:=1) rfl).lt;refine hK _ _ (fun _=>⟨z1,z2⟩) (D9 rfl ?_);simp only[FQ];refine detE ?_;intro K hK;refine hK _ _ (fun h=>UV rfl h) ?_;simp only[BB];clear z1 z2;have t1:=AD.Am.set (i:=1) rfl 3 (.slice (some ⟨g8,0,none⟩) (R.p.BJ.length+1) UP);have s3:Ak w (g.Ar R) (w8.setCell ⟨g.pb,3,none⟩ (.slice (some ⟨g8,0,none⟩) (R.p.BJ.length+1) UP)) (RG.Ar {g with t:=⟨some ⟨g6,0,none⟩,AZ⟩,cv:=g.cv++[⟨none,0⟩],u:=⟨some ⟨g7,0,none⟩,Se⟩,dv:=g.dv++[⟨some ⟨nb,0,none⟩,cn⟩],q:=⟨some ⟨g8,0,none⟩,UP⟩} {R with p:={R.p with Aa:=R.p.Aa++[[]],Ao:=R.p.Ao++[List.replicate cn false],BJ:=R.p.BJ++[false]}}):=by
  have e:(R.p.BJ++[false]).length=R.p.BJ.length+1:=EQ
  exact ma1
 clear t1 AD Cu A8 C6 Bv AX Cq Bi S zf zl;generalize w8.setCell {block:=g.pb,off:=3} (Value.slice (some {block:=g8,off:=0}) (R.p.BJ.length+1) UP)=w3 at s3⊢;obtain⟨Cu,A8,C6,Bv,AX,Cq,Bi⟩:=AI s3.Am;have S:=hid s3;clear s3;go_wp2_with fail;go_ret;rw[AJ.out];have t1:=S.Am.set (i:=0) rfl 4 (.slice none 0 0);have t2:=t1.Am.set (i:=0) rfl 6 (i5 0);have t3:=t2.Am.swap (i:=5) (o':=Kw ⟨none,0⟩ []) rfl (Av.refl _ _) (Da _ _ _ _) (by simp[Kw,Ob.fp,Value.ownBlock]) (fun b hb=>by simp[Kw,Ob.fp,Value.ownBlock] at hb);have t4:=S.trans (t1.trans (t2.trans t3));have ecn:R.p.cells.toNat=cn:=by rw[Hcn.out];simp
 rw[ecn];refine⟨rfl,{g with l:=⟨none,0⟩,t:=⟨some ⟨g6,0,none⟩,AZ⟩,cv:=g.cv++[⟨none,0⟩],u:=⟨some ⟨g7,0,none⟩,Se⟩,dv:=g.dv++[⟨some ⟨nb,0,none⟩,cn⟩],q:=⟨some ⟨g8,0,none⟩,UP⟩},rfl,⟨by simp[HL.out.cl],by simp[HL.out.dl],by simp[HL.out.ql],by simp[HL.out.tl],HL.fl,HL.zl,d6 _⟩,?_⟩;exact t4
theorem dG (h:r.JA x n= .error c):c=4\/c=5:=by
 unfold RS.JA at h;by_cases h1:0<=A6 r.As n
 ·rw[In h1] at h;injection h with h;exact .inl h.symm
 ·rw[I h1] at h;by_cases h2:0<=A6 r.AA n
  ·rw[In h2] at h;cases h
  ·rw[I h2] at h;by_cases h3:r.AA.length=4
   ·rw[In h3] at h;injection h with h;exact .inr h.symm
   ·rw[I h3] at h;cases h
theorem RJ {α:Type} {b:Bool} {X:Except Int α} (h:(if b=true then X else .error 4)= .error c) (k:X= .error c->c=4\/c=5):c=4\/c=5:=by
 cases b with
 | false=>injection h with h;exact .inl h.symm
 | true=>exact k h
theorem Wa {l:Ws} (h:r.node l= .error c):c=4\/c=5:=by
 unfold RS.node at h;simp only[] at h;split at h
 ·split at h <;>exact RJ h dG
 ·split at h
  ·exact RJ h dG
  ·split at h
   ·exact RJ h (fun h=>by cases h)
   ·split at h
    ·exact RJ h (fun h=>by cases h)
    ·split at h
     ·exact RJ h (fun h=>by cases h)
     ·split at h
      ·cases h
      ·split at h <;>cases h
theorem nE (h:r.JA x n= .ok (q,y)):q.Af=r.Af/\q.p=r.p/\q.Ah=r.Ah:=by
 unfold RS.JA at h;by_cases h1:0<=A6 r.As n
 ·rw[In h1] at h;cases h
 ·rw[I h1] at h;by_cases h2:0<=A6 r.AA n
  ·rw[In h2] at h;cases h;exact⟨rfl,rfl,rfl⟩
  ·rw[I h2] at h;by_cases h3:r.AA.length=4
   ·rw[In h3] at h;cases h
   ·rw[I h3] at h;cases h;exact⟨rfl,rfl,rfl⟩
theorem Wq {α:Type} {b:Bool} {X:Except Int α} {z:α} {P:Prop} (h:(if b=true then X else .error c)= .ok z) (k:X= .ok z->P):P:=by
 cases b with
 | false=>cases h
 | true=>exact k h
theorem VW (r:RS) (x:Nd) (n:ByteArray) (w:Ws):(r.cell x n w).1.Af=r.Af/\(r.cell x n w).1.p.Aa=r.p.Aa/\(r.cell x n w).1.Ah=r.Ah:=by
 unfold RS.cell;simp only[];repeat' (first | exact⟨rfl,rfl,rfl⟩ | split)
theorem YV {l:Ws} (h:r.node l= .ok (q,y)):q.Af=r.Af/\q.p.Aa=r.p.Aa/\q.Ah=r.Ah:=by
 have hm:∀{r':RS} {x:Nd},r'.JA x (wd l 1)= .ok (q,y)->r'.Af=r.Af/\r'.p.Aa=r.p.Aa/\r'.Ah=r.Ah->q.Af=r.Af/\q.p.Aa=r.p.Aa/\q.Ah=r.Ah:=fun h1 h2=>by
  obtain⟨a,b,c⟩:=nE h1;exact⟨a.trans h2.1,(Qao RP.Aa b).trans h2.2.1,c.trans h2.2.2⟩
 unfold RS.node at h;simp only[] at h;split at h
 ·split at h <;>exact Wq h (fun h=>hm h ⟨rfl,rfl,rfl⟩)
 ·split at h
  ·exact Wq h (fun h=>hm h (VW _ _ _ _))
  ·split at h
   ·refine Wq h (fun h=> ?_);cases h;exact VW _ _ _ _
   ·split at h
    ·exact Wq h (fun h=>by cases h;exact⟨rfl,rfl,rfl⟩)
    ·split at h
     ·exact Wq h (fun h=>by cases h;exact⟨rfl,rfl,rfl⟩)
     ·split at h
      ·cases h;exact⟨rfl,rfl,rfl⟩
      ·split at h <;>(cases h;exact⟨rfl,rfl,rfl⟩)
theorem Ak.AaP {w4 w5:World} {L':List Ob} (S:Ak w L w4 L') {b:Nat} (hb:b∉D4 L') (hw:w.heap.size<=b) (k:Av [b] w4 w5):Ak w L w5 L':=
 ⟨S.Am.Bf k (fun x hx hm=>by rw[Z] at hm;exact hb (hm▸hx)),S.Bf.trans k (fun x hx=>by rw[Z] at hx;exact .inr (hx▸hw)),S.fp⟩
theorem A5.rF {c:Array Value} {T:TypeId} (K:A5 w L [(b,.cells c T (0,0))]) (i:Nat) (v:Value):A5 (w.setCell ⟨b,i,none⟩ v) L [(b,.cells (c.setIfInBounds i v) T (0,0))]:=
 ⟨fun b' o hb=>by rw[Z] at hb;cases hb;exact BM.set (K.heap _ _ (Z.2 rfl)) i v,fun b' o hb=>by rw[Z] at hb;cases hb;exact K.out _ _ (Z.2 rfl)⟩
theorem MP {W w6:World} {g:RG} {R:RS} {vs:List SG} {c:SG} {m:List Nd} {tb tc AZ g6:Nat} (hv:g.cv=vs++[c]) (ht:R.p.Aa=ts++[l]) (hl:vs.length=ts.length)
  (PC:Value.slice g.t.p R.p.Aa.length g.t.c= .slice (some ⟨tb,0,none⟩) (ts.length+1) tc)
  (AD:Ak W (g.Ar R) w6 ((g.Ar R).set (ts.length+10) (.row (.slice (some ⟨g6,0,none⟩) m.length AZ) 110 14 m.length (Bz m)))):
  Ak W (g.Ar R) (w6.setCell ⟨tb,ts.length,none⟩ (.slice (some ⟨g6,0,none⟩) m.length AZ))
   (RG.Ar {g with cv:=vs++[⟨some ⟨g6,0,none⟩,AZ⟩]} (R.Be m)):=by
 have h7:∀L:Ob,((g.Ar R).set (ts.length+10) L)[7]?=some (.row (.slice (some ⟨tb,0,none⟩) (ts.length+1) tc) 72 1 (ts.length+1) (BC g.cv R.p.Aa)):=fun L=>by
  exact ma6
 have t2:=AD.Am.HU (h7 _) ts.length (by rw[hv,ht,Bx _ _ _ _ hl,V,Cm _ _ hl];simp) (.slice (some ⟨g6,0,none⟩) m.length AZ);have e3:(BC g.cv R.p.Aa).set ts.length (.slice (some ⟨g6,0,none⟩) m.length AZ)=BC (vs++[⟨some ⟨g6,0,none⟩,AZ⟩]) (ts++[m]):=by
  exact mbL
 rw[e3] at t2;have e5:Ob.row (.slice (some ⟨tb,0,none⟩) (ts.length+1) tc) 72 1 (ts.length+1) (BC (vs++[⟨some ⟨g6,0,none⟩,AZ⟩]) (ts++[m]))=
   .row (.slice g.t.p R.p.Aa.length g.t.c) 72 1 R.p.Aa.length (BC (vs++[⟨some ⟨g6,0,none⟩,AZ⟩]) (ts++[m])):=by
  rw[PC,ht];simp
 have e6:=lu hv ht hl (DQ ⟨some ⟨g6,0,none⟩,AZ⟩ m) ⟨some ⟨g6,0,none⟩,AZ⟩ m;rw[List.set_set] at e6;have e7:Ob.row (.slice (some ⟨g6,0,none⟩) m.length AZ) 110 14 m.length (Bz m)=DQ ⟨some ⟨g6,0,none⟩,AZ⟩ m:=rfl;rw[e7] at AD t2;rw[e5,e6] at t2;exact AD.trans t2
def RS.CQ (r:RS) (x:Nd):Except Int RS:=
 if 14 < r.Ah+1 then .error 5
 else if x.kind=122\/x.kind=108\/x.kind=40 then
  if r.Af.length=3 then .error 5
  else .ok ({r with Ah:=r.Ah+1,Af:=r.Af++[r.CM.length]}.Be (r.CM++[{x with Aj:=r.Af.length}]))
 else .ok ({r with Ah:=r.Ah+1}.Be (r.CM++[x]))
theorem Yy (h1:¬14 < r.Ah+1) (h2:x.kind=122\/x.kind=108\/x.kind=40) (h3:¬r.Af.length=3) (hl:r.CM=l):
  r.CQ x= .ok (RS.Be {r with Ah:=r.Ah+1,Af:=r.Af++[l.length]} (l++[{x with Aj:=(r.Af.length:Int)}])):=by
 subst hl;unfold RS.CQ;rw[I h1,In h2,I h3]
theorem Yx (h1:¬14 < r.Ah+1) (h2:¬(x.kind=122\/x.kind=108\/x.kind=40)) (hl:r.CM=l):
  r.CQ x= .ok (RS.Be {r with Ah:=r.Ah+1} (l++[x])):=by
 subst hl;unfold RS.CQ;rw[I h1,I h2]
end Go.Proofs.YtpdfifdlhpmofaaGreatDoor
