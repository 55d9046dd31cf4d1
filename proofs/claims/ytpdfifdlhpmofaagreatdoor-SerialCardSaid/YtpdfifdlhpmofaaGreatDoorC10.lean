/- Part 10 of the proof. -/
import Derived.Test.YtpdfifdlhpmofaaGreatDoorC08
import Derived.Test.YtpdfifdlhpmofaaGreatDoorC09
set_option linter.unusedVariables false
set_option linter.unusedSimpArgs false
set_option maxHeartbeats 0
set_option maxRecDepth 99999
namespace Go.Proofs.YtpdfifdlhpmofaaGreatDoor
open Go.RowKit Tryz
open Value renaming slice->m9,string->qA,bool->qB,tuple->qC,agg->qD,pointer->qE
open Ending renaming returned->qF
open Obj renaming cells->qG
open Option renaming none->Z,some->U
open Bool renaming true->V,false->I
open Go.Lib renaming hid->D
open List renaming length->J
variable {w:World} {B:List Ob}
theorem AbZ:(prog.info? 72).map (λi=>(i.zero,i.size,i.bytes))=U (U (m9 Z 0 0),1,24):=Fd
theorem Ae5:(prog.info? 51).map (λi=>(i.zero,i.size,i.bytes))=U (U (m9 Z 0 0),1,24):=Fd
theorem dq:(prog.info? 4).map (λi=>(i.zero,i.size,i.bytes))=U (U (qB I),1,1):=Fd
theorem Ai.rJ {A:List Ob} {o:Ob} (h:Aq w (A++B)) (ho:o.holds w) (hf:o.fp=[]):Ai w (A++B) w (A++o::B):=by
 have e:Et (A++o::B)=Et (A++B):=by rw[Bo,GV,hf,Bo];rfl
 refine⟨⟨λp hp=>?_,by rw[e];exact h.K7⟩,Az.refl _ _,λb hb=> .inl (by rw[e] at hb;exact hb)⟩;rcases Jp.1 hp with hp|hp
 .exact h.holds p (IR _ hp)
 .rcases Jl.1 hp with rfl|hp
  .exact ho
  .exact h.holds p (Jc _ hp)
theorem AdW {T:List Ob} {cv:List SG} {ts:List (List Nd)} (hl:J cv=J ts) (h:Aq w (T++(List.zipWith CK cv ts++B))):
  Ai w (T++(List.zipWith CK cv ts++B)) w (T++(List.zipWith CK (cv++[⟨Z,0⟩]) (ts++[[]])++B)):=by
 rw[<-Ji] at h;have:=Ai.rJ (o:=CK ⟨Z,0⟩ []) h (ownsRow_nil _ _ _ _) rfl;rw[Qs hl];simpa using this
theorem AdT {L:List Ob} {b n:Nat} (hn:n<=maxLen) (h:Aq w (L++[.Ao b (Array.replicate n (qB I)) 4])):Ai w (L++[.Ao b (Array.replicate n (qB I)) 4]) w (L++[Cq ⟨U ⟨b,0,Z⟩,n⟩ (List.replicate n I)]):=by
 have k:=h.swap (i:=J L) (o':=Cq ⟨U ⟨b,0,Z⟩,n⟩ (List.replicate n I)) (o:=.Ao b (Array.replicate n (qB I)) 4) EQ (Az.refl _ _) ?_ (by simp[Cq,Ob.fp,Value.ownBlock]) (λx hx=> .inl (by simpa[Cq,Ob.fp,Value.ownBlock] using hx))
 .simpa using k
 .have hb:=h.Ao (i:=J L) (b:=b) (c:=Array.replicate n (qB I)) (T:=4) EQ;refine⟨by simp[Iw],.inr ⟨b,n,Array.replicate n (qB I),EQ,Jr _,hb,EQ,hn,EQ,by simp[Iw]⟩⟩
theorem fk (l:Ws) (lw:Value) (w:World) (g:RG) (R:RS) (n:Nat) (h:Aq w (g.Ay R)) (hL:C9 g R) (hI:Pj R n)
  (hw:Sl w (λb=>b∉Et (g.Ay R)) lw (Bq l)) (hne:l≠[]) (N6:Bv l=V) (hk:bs (wd l 0)=AE) (ho:R.Ad=[]):
  Calls prog 37 #[iJ g.rb,lw] w (Fs (R.row l) g R w):=by
 have hl:=JE.2 hne;have AG:R.row l=.ok {R with p:={R.p with Aa:=R.p.Aa++[[]],Ap:=R.p.Ap++[List.replicate R.p.cells.toNat I],BX:=R.p.BX++[I]},AA:=[],Ah:=0}:=by
  unfold RS.row;simp only[hk];rw[In Do,Jb trivial,In (λh=>h ho)]
 obtain⟨j0,hj,Lc,Lb,Mm⟩:=info_parts AbZ;obtain⟨i0,hi,Re,Va,U9⟩:=info_parts Ae5;obtain⟨k0,Rr,kZ,hx1,hx2⟩:=info_parts dq;obtain⟨wb,woff,wcap,rfl,hd⟩:=M3 hw hl;have c0:=hd.c 0 Y;simp only[JX] at c0;have q0:=CZ hk;unfold AE at q0;have q1:=Bx (k:=AR) (by rw[hk];decide);unfold AR at q1;have Le:0<(J l:Int):=Y
 obtain⟨hrc,hrpc,hrf,hrpf,hlt,hpl,lA⟩:=BL h;have xn:J R.p.Aa<=2500:=by have:=hI.bn;have:=hI.nn;omega
 have hun:J R.p.Ap<=2500:=by rw[hL.tl];exact xn
 have hqn:J R.p.BX<=2500:=by rw[hL.ql];exact xn
 have ho0:¬0<(J R.Ad:Int):=by rw[ho];decide
 obtain⟨cn,hcn⟩:∃m:Nat,R.p.cells=m:=⟨R.p.cells.toNat,by have:=hI.c0;omega⟩;have Ln:cn<=15000:=by have:=hI.c1;have:=hI.bn;have:=hI.nn;omega
 have hmk:∀W,(Instr.makeSlice 51 (iI cn) (iI cn)).run prog W=.ok (m9 (U ⟨W.heap.size,0,Z⟩) cn cn) (W.alloc (qG (Array.replicate cn (qB I)) 4)):=λW=>by
  rw[run_make_row' 51 4 (qB I) 1 underlying51 dq rfl .i64 .i64 cn Y Y W];exact mbJ
 have TN:=hd.n1;unfold maxLen at TN;have Hres:=D AG;have H:=D h;have HL:=D hL;have Hcn:=D hcn;have Hmk:=D hmk;clear AG hw hl hk hd h hI hne ho hL hcn hmk N6;go_enter func37,ntmps37;go_upto_region 8 with fail
 refine AF [11,12] 15 (λW=>W.cell? ⟨g.rb,0,Z⟩=U (iJ g.pb)/\W.cell? ⟨g.pb,0,Z⟩=U (m9 g.t.p (J R.p.Aa) g.t.c)) ?_ ?_
 .exact mbO
 refine Ds ?_;intro K hK;refine hK _ _ (λ_=>⟨by go_simp,by go_simp⟩) ?_;refine AI rfl (λK hK=>?_);refine BV 24 _ _ _ j0 _ #[m9 Z 0 0] _ H (k:=7) rfl Eq Eq underlying50 hj Lc Lb Mm rfl Y Eq Eq rfl (by simp[Value.oneCell']) (by unfold maxLen;omega) Y ?_;intro g6 AL w6 Aw _;have z1:w6.cell? ⟨g.rb,0,Z⟩=U (iJ g.pb):=(Aw.Ak.Ao (i:=0) rfl).cell 0;have z2:w6.cell? ⟨g.pb,0,Z⟩=U (m9 g.t.p (J R.p.Aa) g.t.c):=(Aw.Ak.Ao (i:=1) rfl).cell 0;have zf:=(Aw.Ak.Ao (i:=1) rfl).free 0;refine hK _ _ (λ_=>⟨z1,z2⟩) (D3 rfl ?_);simp only[FH];refine Ds ?_;intro K hK;refine hK _ _ (λh=>Jk rfl h) ?_;simp only[BN];clear z1 z2;have t1:=Aw.Ak.set (i:=1) rfl 0 (m9 (U ⟨g6,0,Z⟩) (J R.p.Aa+1) AL);have s1:Ai w (g.Ay R) (w6.setCell ⟨g.pb,0,Z⟩ (m9 (U ⟨g6,0,Z⟩) (J R.p.Aa+1) AL)) (RG.Ay {g with t:=⟨U ⟨g6,0,Z⟩,AL⟩,cv:=g.cv++[⟨Z,0⟩]} {R with p:={R.p with Aa:=R.p.Aa++[[]]}}):=by
  have e:(R.p.Aa++[[]]).length=J R.p.Aa+1:=EQ
  have e2:BF (g.cv++[⟨Z,0⟩]) (R.p.Aa++[[]])=BF g.cv R.p.Aa++[m9 Z 0 0]:=Bu _ _ _ _ HL.cl;have t2:=Aw.trans t1;have t3:=t2.trans (AdW (T:=[_,_,_,_,_,_,_,_,_,_]) HL.cl t2.Ak);unfold RG.Ay;unfold RG.Ay at t3;rw[e,e2];exact t3
 clear t1 Aw hrc hrpc hrf hrpf hlt hpl lA c0 zf;generalize w6.setCell {block:=g.pb,off:=0} (m9 (U {block:=g6,off:=0}) (J R.p.Aa+1) AL)=w1 at s1⊢;obtain⟨hrc,hrpc,hrf,hrpf,hlt,hpl,hne⟩:=BL s1.Ak;have S:=D s1;clear s1;rw[Hcn.out] at hrpc;have hmk:=Hmk.out;go_upto_region 9 with fail
 refine AF [18,19,20] 23 (λW=>W.cell? ⟨g.rb,0,Z⟩=U (iJ g.pb)/\W.cell? ⟨g.pb,2,Z⟩=U (m9 g.u.p (J R.p.Ap) g.u.c)/\W.cell? ⟨g.pb,1,Z⟩=U (iI cn)) ?_ ?_
 .exact mbP
 refine Ds ?_;intro K hK;refine hK _ _ (λ_=>⟨by go_simp,by go_simp,by go_simp⟩) ?_;refine AI rfl (λK hK=>?_);go_simp;refine hK _ _ (λ_=>⟨by go_simp,by go_simp,by go_simp⟩) ?_;clear hmk;have a1:=Ai.new S.Ak (qG (Array.replicate cn (qB I)) 4);have a2:=a1.trans (Ai.alloc a1.Ak (qG #[m9 (U ⟨w1.heap.size,0,Z⟩) cn cn] 51));have a3:=a2.trans (Ai.drew a2.Ak);refine AI rfl (λK hK=>?_);refine Ys 24 _ _ _ i0 _ #[m9 (U ⟨w1.heap.size,0,Z⟩) cn cn] _ (w1.heap.size+1) a3.Ak (k:=8) rfl (Z2 w1 _ _) Eq Eq underlying44 hi Re Va U9 rfl Y Eq Eq rfl (by simp[Value.oneCell']) (show J R.p.Ap+1<=maxLen by unfold maxLen;omega) (show(J R.p.Ap+1)*24<=_ by omega) ?_;intro g7 Vq w7 Aw _;have z1:w7.cell? ⟨g.rb,0,Z⟩=U (iJ g.pb):=(Aw.Ak.Ao (i:=0) rfl).cell 0;have z2:w7.cell? ⟨g.pb,2,Z⟩=U (m9 g.u.p (J R.p.Ap) g.u.c):=(Aw.Ak.Ao (i:=1) rfl).cell 2;have z3:w7.cell? ⟨g.pb,1,Z⟩=U (iI cn):=by rw[<-Hcn.out];exact(Aw.Ak.Ao (i:=1) rfl).cell 1
 have zf:=(Aw.Ak.Ao (i:=1) rfl).free 2;refine hK _ _ (λ_=>⟨z1,z2,z3⟩) (D3 rfl ?_);simp only[FH];refine Ds ?_;intro K hK;refine hK _ _ (λh=>Jk rfl h) ?_;simp only[BN];clear z1 z2 z3;have t1:=Aw.Ak.set (i:=1) rfl 2 (m9 (U ⟨g7,0,Z⟩) (J R.p.Ap+1) Vq);have s2:Ai w (g.Ay R) (w7.setCell ⟨g.pb,2,Z⟩ (m9 (U ⟨g7,0,Z⟩) (J R.p.Ap+1) Vq)) (RG.Ay {g with t:=⟨U ⟨g6,0,Z⟩,AL⟩,cv:=g.cv++[⟨Z,0⟩],u:=⟨U ⟨g7,0,Z⟩,Vq⟩,dv:=g.dv++[⟨U ⟨w1.heap.size,0,Z⟩,cn⟩]} {R with p:={R.p with Aa:=R.p.Aa++[[]],Ap:=R.p.Ap++[List.replicate cn I]}}):=by
  have e:(R.p.Ap++[List.replicate cn I]).length=J R.p.Ap+1:=EQ
  have e2:BF (g.dv++[⟨U ⟨w1.heap.size,0,Z⟩,cn⟩]) (R.p.Ap++[List.replicate cn I])=BF g.dv R.p.Ap++[m9 (U ⟨w1.heap.size,0,Z⟩) cn cn]:=by
   rw[Bu _ _ _ _ HL.out.dl];simp
  have e3:List.zipWith Cq (g.dv++[⟨U ⟨w1.heap.size,0,Z⟩,cn⟩]) (R.p.Ap++[List.replicate cn I])=List.zipWith Cq g.dv R.p.Ap++[Cq ⟨U ⟨w1.heap.size,0,Z⟩,cn⟩ (List.replicate cn I)]:=by
   rw[Qs HL.out.dl];rfl
  have t2:=S.trans (a3.trans (Aw.trans t1));have t3:=t2.trans (AdT (L:=[_,_,_,_,_,_,_,_,_,_]++(List.zipWith CK (g.cv++[⟨Z,0⟩]) (R.p.Aa++[[]])++List.zipWith Cq g.dv R.p.Ap)) (by unfold maxLen;omega) t2.Ak);rw[Ji,Ji,<-e3] at t3;unfold RG.Ay;unfold RG.Ay at t3;rw[e,e2];exact t3
 clear t1 Aw a1 a2 a3 hrc hrpc hrf hrpf hlt hpl hne zf S;generalize w1.heap.size=nb at s2;generalize w7.setCell {block:=g.pb,off:=2} (m9 (U {block:=g7,off:=0}) (J R.p.Ap+1) Vq)=w2 at s2⊢;obtain⟨hrc,hrpc,hrf,hrpf,hlt,hpl,hne⟩:=BL s2.Ak;have S:=D s2;clear s2;go_upto_region 10 with fail
 refine AF [11,12] 15 (λW=>W.cell? ⟨g.rb,0,Z⟩=U (iJ g.pb)/\W.cell? ⟨g.pb,3,Z⟩=U (m9 g.q.p (J R.p.BX) g.q.c)) ?_ ?_
 .exact mbO
 refine Ds ?_;intro K hK;refine hK _ _ (λ_=>⟨by go_simp,by go_simp⟩) ?_;refine AI rfl (λK hK=>?_);refine BV 1 _ _ _ k0 _ #[qB I] _ S.Ak (k:=9) rfl Eq Eq underlying51 Rr kZ hx1 hx2 rfl Y Eq Eq rfl (by simp[Value.oneCell']) (show J R.p.BX+1<=maxLen by unfold maxLen;omega) (show(J R.p.BX+1)*1<=_ by omega) ?_;intro g8 XE w8 Aw _;rw[gA] at Aw;have z1:w8.cell? ⟨g.rb,0,Z⟩=U (iJ g.pb):=(Aw.Ak.Ao (i:=0) rfl).cell 0;have z2:w8.cell? ⟨g.pb,3,Z⟩=U (m9 g.q.p (J R.p.BX) g.q.c):=(Aw.Ak.Ao (i:=1) rfl).cell 3;have zf:=(Aw.Ak.Ao (i:=1) rfl).free 3;refine hK _ _ (λ_=>⟨z1,z2⟩) (D3 rfl ?_);simp only[FH];refine Ds ?_;intro K hK;refine hK _ _ (λh=>Jk rfl h) ?_;simp only[BN];clear z1 z2;have t1:=Aw.Ak.set (i:=1) rfl 3 (m9 (U ⟨g8,0,Z⟩) (J R.p.BX+1) XE);have s3:Ai w (g.Ay R) (w8.setCell ⟨g.pb,3,Z⟩ (m9 (U ⟨g8,0,Z⟩) (J R.p.BX+1) XE)) (RG.Ay {g with t:=⟨U ⟨g6,0,Z⟩,AL⟩,cv:=g.cv++[⟨Z,0⟩],u:=⟨U ⟨g7,0,Z⟩,Vq⟩,dv:=g.dv++[⟨U ⟨nb,0,Z⟩,cn⟩],q:=⟨U ⟨g8,0,Z⟩,XE⟩} {R with p:={R.p with Aa:=R.p.Aa++[[]],Ap:=R.p.Ap++[List.replicate cn I],BX:=R.p.BX++[I]}}):=by
  have e:(R.p.BX++[I]).length=J R.p.BX+1:=EQ
  exact maP
 clear t1 Aw hrc hrpc hrf hrpf hlt hpl hne S zf;generalize w8.setCell {block:=g.pb,off:=3} (m9 (U {block:=g8,off:=0}) (J R.p.BX+1) XE)=w3 at s3⊢;obtain⟨hrc,hrpc,hrf,hrpf,hlt,hpl,hne⟩:=BL s3.Ak;have S:=D s3;clear s3;go_wp2_with fail;go_ret;rw[Hres.out];have t1:=S.Ak.set (i:=0) rfl 4 (m9 Z 0 0);have t2:=t1.Ak.set (i:=0) rfl 6 (iI 0);have t3:=t2.Ak.swap (i:=5) (o':=LP ⟨Z,0⟩ []) rfl (Az.refl _ _) (ownsRow_nil _ _ _ _) (by simp[LP,Ob.fp,Value.ownBlock]) (λb hb=>by simp[LP,Ob.fp,Value.ownBlock] at hb);have t4:=S.trans (t1.trans (t2.trans t3));have ecn:R.p.cells.toNat=cn:=by rw[Hcn.out];simp
 rw[ecn];refine⟨rfl,{g with l:=⟨Z,0⟩,t:=⟨U ⟨g6,0,Z⟩,AL⟩,cv:=g.cv++[⟨Z,0⟩],u:=⟨U ⟨g7,0,Z⟩,Vq⟩,dv:=g.dv++[⟨U ⟨nb,0,Z⟩,cn⟩],q:=⟨U ⟨g8,0,Z⟩,XE⟩},rfl,⟨by simp[HL.out.cl],by simp[HL.out.dl],by simp[HL.out.ql],by simp[HL.out.tl],HL.fl,HL.zl,Jr _⟩,?_⟩;exact t4
