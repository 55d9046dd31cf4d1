/- Part 10 of the proof. -/
import Derived.Test.YtpdfifdlhpmofaaGreatDoorA08
import Derived.Test.YtpdfifdlhpmofaaGreatDoorA09
set_option linter.unusedVariables false
set_option linter.unusedSimpArgs false
set_option maxHeartbeats 0
set_option maxRecDepth 99999
namespace Go.Proofs.YtpdfifdlhpmofaaGreatDoor
open Go.RowKit Tryz
open Value renaming slice->qD,string->qE,bool->qF,tuple->qG,agg->qH,pointer->qI
open Ending renaming returned->qJ
open Obj renaming cells->qK
open Option renaming none->Z,some->U
open Bool renaming true->V,false->I
open Go.Lib renaming hid->D
open List renaming length->J
variable {w:World} {B:List Ob}
theorem Acs:(prog.info? 72).map (λi=>(i.zero,i.size,i.bytes))=U (U (qD Z 0 0),1,24):=Fd
theorem Afs:(prog.info? 51).map (λi=>(i.zero,i.size,i.bytes))=U (U (qD Z 0 0),1,24):=Fd
theorem Ok:(prog.info? 4).map (λi=>(i.zero,i.size,i.bytes))=U (U (qF I),1,1):=Fd
theorem Af.sT {A:List Ob} {o:Ob} (h:Aq w (A++B)) (ho:o.holds w) (hf:o.fp=[]):Af w (A++B) w (A++o::B):=by
 have e:Er (A++o::B)=Er (A++B):=by rw[Bo,G9,hf,Bo];rfl
 refine⟨⟨λp hp=>?_,by rw[e];exact h.Lk⟩,Aw.refl _ _,λb hb=> .inl (by rw[e] at hb;exact hb)⟩;rcases Jq.1 hp with hp|hp
 .exact h.holds p (IR _ hp)
 .rcases Jl.1 hp with rfl|hp
  .exact ho
  .exact h.holds p (Jc _ hp)
theorem Aem {T:List Ob} {cv:List SG} {ts:List (List Nd)} (hl:J cv=J ts) (h:Aq w (T++(List.zipWith CM cv ts++B))):
  Af w (T++(List.zipWith CM cv ts++B)) w (T++(List.zipWith CM (cv++[⟨Z,0⟩]) (ts++[[]])++B)):=by
 rw[<-Jj] at h;have:=Af.sT (o:=CM ⟨Z,0⟩ []) h (ownsRow_nil _ _ _ _) rfl;rw[Qz hl];simpa using this
theorem Aej {L:List Ob} {b n:Nat} (hn:n<=maxLen) (h:Aq w (L++[.Ao b (Array.replicate n (qF I)) 4])):Af w (L++[.Ao b (Array.replicate n (qF I)) 4]) w (L++[Bw ⟨U ⟨b,0,Z⟩,n⟩ (List.replicate n I)]):=by
 have k:=h.swap (i:=J L) (o':=Bw ⟨U ⟨b,0,Z⟩,n⟩ (List.replicate n I)) (o:=.Ao b (Array.replicate n (qF I)) 4) EQ (Aw.refl _ _) ?_ (by simp[Bw,Ob.fp,Value.ownBlock]) (λx hx=> .inl (by simpa[Bw,Ob.fp,Value.ownBlock] using hx))
 .simpa using k
 .have hb:=h.Ao (i:=J L) (b:=b) (c:=Array.replicate n (qF I)) (T:=4) EQ;refine⟨by simp[DE],.inr ⟨b,n,Array.replicate n (qF I),EQ,Jo _,hb,EQ,hn,EQ,by simp[DE]⟩⟩
theorem gj (l:Ws) (lw:Value) (w:World) (g:RG) (R:RS) (n:Nat) (h:Aq w (g.Az R)) (hL:C5 g R) (hI:Ps R n)
  (hw:Sl w (λb=>b∉Er (g.Az R)) lw (Bp l)) (hne:l≠[]) (MT:Bv l=V) (hk:bs (wd l 0)=AE) (ho:R.Ad=[]):
  Calls prog 37 #[iJ g.rb,lw] w (Fw (R.row l) g R w):=by
 have hl:=JI.2 hne;have AF:R.row l=.ok {R with p:={R.p with Aa:=R.p.Aa++[[]],Ap:=R.p.Ap++[List.replicate R.p.cells.toNat I],BX:=R.p.BX++[I]},AA:=[],Ai:=0}:=by
  unfold RS.row;simp only[hk];rw[In Do,Jd trivial,In (λh=>h ho)]
 obtain⟨j0,hj,LP,KZ,MH⟩:=info_parts Acs;obtain⟨i0,hi,I6,K6,LQ⟩:=info_parts Afs;obtain⟨k0,Uf,hx0,hx1,hx2⟩:=info_parts Ok;obtain⟨wb,woff,wcap,rfl,hd⟩:=Nr hw hl;have c0:=hd.c 0 Y;simp only[J4] at c0;have q0:=CZ hk;unfold AE at q0;have q1:=Bz (k:=AQ) (by rw[hk];decide);unfold AQ at q1;have O0:0<(J l:Int):=Y
 obtain⟨hrc,hrpc,hrf,hrpf,hlt,hpl,bW⟩:=BL h;have gP:J R.p.Aa<=2500:=by have:=hI.bn;have:=hI.nn;omega
 have hun:J R.p.Ap<=2500:=by rw[hL.tl];exact gP
 have hqn:J R.p.BX<=2500:=by rw[hL.ql];exact gP
 have ho0:¬0<(J R.Ad:Int):=by rw[ho];decide
 obtain⟨cn,hcn⟩:∃m:Nat,R.p.cells=m:=⟨R.p.cells.toNat,by have:=hI.c0;omega⟩;have LA:cn<=15000:=by have:=hI.c1;have:=hI.bn;have:=hI.nn;omega
 have gV:∀W,(Instr.makeSlice 51 (iI cn) (iI cn)).run prog W=.ok (qD (U ⟨W.heap.size,0,Z⟩) cn cn) (W.alloc (qK (Array.replicate cn (qF I)) 4)):=λW=>by
  rw[run_make_row' 51 4 (qF I) 1 underlying51 Ok rfl .i64 .i64 cn Y Y W];exact mbO
 have Ud:=hd.n1;unfold maxLen at Ud;have Hres:=D AF;have H:=D h;have HL:=D hL;have Hcn:=D hcn;have Hmk:=D gV;clear AF hw hl hk hd h hI hne ho hL hcn gV MT;go_enter func37,ntmps37;go_upto_region 8 with fail
 refine AG [11,12] 15 (λW=>W.cell? ⟨g.rb,0,Z⟩=U (iJ g.pb)/\W.cell? ⟨g.pb,0,Z⟩=U (qD g.t.p (J R.p.Aa) g.t.c)) ?_ ?_
 .exact mbT
 refine Dr ?_;intro K hK;refine hK _ _ (λ_=>⟨by go_simp,by go_simp⟩) ?_;refine AJ rfl (λK hK=>?_);refine BW 24 _ _ _ j0 _ #[qD Z 0 0] _ H (k:=7) rfl Eq Eq underlying50 hj LP KZ MH rfl Y Eq Eq rfl (by simp[Value.oneCell']) (by unfold maxLen;omega) Y ?_;intro g6 AI w6 Ay _;have z1:w6.cell? ⟨g.rb,0,Z⟩=U (iJ g.pb):=(Ay.Ak.Ao (i:=0) rfl).cell 0;have z2:w6.cell? ⟨g.pb,0,Z⟩=U (qD g.t.p (J R.p.Aa) g.t.c):=(Ay.Ak.Ao (i:=1) rfl).cell 0;have zf:=(Ay.Ak.Ao (i:=1) rfl).free 0;refine hK _ _ (λ_=>⟨z1,z2⟩) (D3 rfl ?_);simp only[FL];refine Dr ?_;intro K hK;refine hK _ _ (λh=>Jk rfl h) ?_;simp only[BO];clear z1 z2;have t1:=Ay.Ak.set (i:=1) rfl 0 (qD (U ⟨g6,0,Z⟩) (J R.p.Aa+1) AI);have s1:Af w (g.Az R) (w6.setCell ⟨g.pb,0,Z⟩ (qD (U ⟨g6,0,Z⟩) (J R.p.Aa+1) AI)) (RG.Az {g with t:=⟨U ⟨g6,0,Z⟩,AI⟩,cv:=g.cv++[⟨Z,0⟩]} {R with p:={R.p with Aa:=R.p.Aa++[[]]}}):=by
  have e:(R.p.Aa++[[]]).length=J R.p.Aa+1:=EQ
  have e2:A4 (g.cv++[⟨Z,0⟩]) (R.p.Aa++[[]])=A4 g.cv R.p.Aa++[qD Z 0 0]:=Bm _ _ _ _ HL.cl;have t2:=Ay.trans t1;have t3:=t2.trans (Aem (T:=[_,_,_,_,_,_,_,_,_,_]) HL.cl t2.Ak);unfold RG.Az;unfold RG.Az at t3;rw[e,e2];exact t3
 clear t1 Ay hrc hrpc hrf hrpf hlt hpl bW c0 zf;generalize w6.setCell {block:=g.pb,off:=0} (qD (U {block:=g6,off:=0}) (J R.p.Aa+1) AI)=w1 at s1⊢;obtain⟨hrc,hrpc,hrf,hrpf,hlt,hpl,hne⟩:=BL s1.Ak;have S:=D s1;clear s1;rw[Hcn.out] at hrpc;have gV:=Hmk.out;go_upto_region 9 with fail
 refine AG [18,19,20] 23 (λW=>W.cell? ⟨g.rb,0,Z⟩=U (iJ g.pb)/\W.cell? ⟨g.pb,2,Z⟩=U (qD g.u.p (J R.p.Ap) g.u.c)/\W.cell? ⟨g.pb,1,Z⟩=U (iI cn)) ?_ ?_
 .exact mbU
 refine Dr ?_;intro K hK;refine hK _ _ (λ_=>⟨by go_simp,by go_simp,by go_simp⟩) ?_;refine AJ rfl (λK hK=>?_);go_simp;refine hK _ _ (λ_=>⟨by go_simp,by go_simp,by go_simp⟩) ?_;clear gV;have a1:=Af.new S.Ak (qK (Array.replicate cn (qF I)) 4);have a2:=a1.trans (Af.alloc a1.Ak (qK #[qD (U ⟨w1.heap.size,0,Z⟩) cn cn] 51));have a3:=a2.trans (Af.drew a2.Ak);refine AJ rfl (λK hK=>?_);refine YS 24 _ _ _ i0 _ #[qD (U ⟨w1.heap.size,0,Z⟩) cn cn] _ (w1.heap.size+1) a3.Ak (k:=8) rfl (aQ w1 _ _) Eq Eq underlying44 hi I6 K6 LQ rfl Y Eq Eq rfl (by simp[Value.oneCell']) (show J R.p.Ap+1<=maxLen by unfold maxLen;omega) (show(J R.p.Ap+1)*24<=_ by omega) ?_;intro g7 VK w7 Ay _;have z1:w7.cell? ⟨g.rb,0,Z⟩=U (iJ g.pb):=(Ay.Ak.Ao (i:=0) rfl).cell 0;have z2:w7.cell? ⟨g.pb,2,Z⟩=U (qD g.u.p (J R.p.Ap) g.u.c):=(Ay.Ak.Ao (i:=1) rfl).cell 2;have z3:w7.cell? ⟨g.pb,1,Z⟩=U (iI cn):=by rw[<-Hcn.out];exact(Ay.Ak.Ao (i:=1) rfl).cell 1
 have zf:=(Ay.Ak.Ao (i:=1) rfl).free 2;refine hK _ _ (λ_=>⟨z1,z2,z3⟩) (D3 rfl ?_);simp only[FL];refine Dr ?_;intro K hK;refine hK _ _ (λh=>Jk rfl h) ?_;simp only[BO];clear z1 z2 z3;have t1:=Ay.Ak.set (i:=1) rfl 2 (qD (U ⟨g7,0,Z⟩) (J R.p.Ap+1) VK);have s2:Af w (g.Az R) (w7.setCell ⟨g.pb,2,Z⟩ (qD (U ⟨g7,0,Z⟩) (J R.p.Ap+1) VK)) (RG.Az {g with t:=⟨U ⟨g6,0,Z⟩,AI⟩,cv:=g.cv++[⟨Z,0⟩],u:=⟨U ⟨g7,0,Z⟩,VK⟩,dv:=g.dv++[⟨U ⟨w1.heap.size,0,Z⟩,cn⟩]} {R with p:={R.p with Aa:=R.p.Aa++[[]],Ap:=R.p.Ap++[List.replicate cn I]}}):=by
  have e:(R.p.Ap++[List.replicate cn I]).length=J R.p.Ap+1:=EQ
  have e2:A4 (g.dv++[⟨U ⟨w1.heap.size,0,Z⟩,cn⟩]) (R.p.Ap++[List.replicate cn I])=A4 g.dv R.p.Ap++[qD (U ⟨w1.heap.size,0,Z⟩) cn cn]:=by
   rw[Bm _ _ _ _ HL.out.dl];simp
  have e3:List.zipWith Bw (g.dv++[⟨U ⟨w1.heap.size,0,Z⟩,cn⟩]) (R.p.Ap++[List.replicate cn I])=List.zipWith Bw g.dv R.p.Ap++[Bw ⟨U ⟨w1.heap.size,0,Z⟩,cn⟩ (List.replicate cn I)]:=by
   rw[Qz HL.out.dl];rfl
  have t2:=S.trans (a3.trans (Ay.trans t1));have t3:=t2.trans (Aej (L:=[_,_,_,_,_,_,_,_,_,_]++(List.zipWith CM (g.cv++[⟨Z,0⟩]) (R.p.Aa++[[]])++List.zipWith Bw g.dv R.p.Ap)) (by unfold maxLen;omega) t2.Ak);rw[Jj,Jj,<-e3] at t3;unfold RG.Az;unfold RG.Az at t3;rw[e,e2];exact t3
 clear t1 Ay a1 a2 a3 hrc hrpc hrf hrpf hlt hpl hne zf S;generalize w1.heap.size=nb at s2;generalize w7.setCell {block:=g.pb,off:=2} (qD (U {block:=g7,off:=0}) (J R.p.Ap+1) VK)=w2 at s2⊢;obtain⟨hrc,hrpc,hrf,hrpf,hlt,hpl,hne⟩:=BL s2.Ak;have S:=D s2;clear s2;go_upto_region 10 with fail
 refine AG [11,12] 15 (λW=>W.cell? ⟨g.rb,0,Z⟩=U (iJ g.pb)/\W.cell? ⟨g.pb,3,Z⟩=U (qD g.q.p (J R.p.BX) g.q.c)) ?_ ?_
 .exact mbT
 refine Dr ?_;intro K hK;refine hK _ _ (λ_=>⟨by go_simp,by go_simp⟩) ?_;refine AJ rfl (λK hK=>?_);refine BW 1 _ _ _ k0 _ #[qF I] _ S.Ak (k:=9) rfl Eq Eq underlying51 Uf hx0 hx1 hx2 rfl Y Eq Eq rfl (by simp[Value.oneCell']) (show J R.p.BX+1<=maxLen by unfold maxLen;omega) (show(J R.p.BX+1)*1<=_ by omega) ?_;intro g8 XY w8 Ay _;rw[iz] at Ay;have z1:w8.cell? ⟨g.rb,0,Z⟩=U (iJ g.pb):=(Ay.Ak.Ao (i:=0) rfl).cell 0;have z2:w8.cell? ⟨g.pb,3,Z⟩=U (qD g.q.p (J R.p.BX) g.q.c):=(Ay.Ak.Ao (i:=1) rfl).cell 3;have zf:=(Ay.Ak.Ao (i:=1) rfl).free 3;refine hK _ _ (λ_=>⟨z1,z2⟩) (D3 rfl ?_);simp only[FL];refine Dr ?_;intro K hK;refine hK _ _ (λh=>Jk rfl h) ?_;simp only[BO];clear z1 z2;have t1:=Ay.Ak.set (i:=1) rfl 3 (qD (U ⟨g8,0,Z⟩) (J R.p.BX+1) XY);have s3:Af w (g.Az R) (w8.setCell ⟨g.pb,3,Z⟩ (qD (U ⟨g8,0,Z⟩) (J R.p.BX+1) XY)) (RG.Az {g with t:=⟨U ⟨g6,0,Z⟩,AI⟩,cv:=g.cv++[⟨Z,0⟩],u:=⟨U ⟨g7,0,Z⟩,VK⟩,dv:=g.dv++[⟨U ⟨nb,0,Z⟩,cn⟩],q:=⟨U ⟨g8,0,Z⟩,XY⟩} {R with p:={R.p with Aa:=R.p.Aa++[[]],Ap:=R.p.Ap++[List.replicate cn I],BX:=R.p.BX++[I]}}):=by
  have e:(R.p.BX++[I]).length=J R.p.BX+1:=EQ
  exact maR
 clear t1 Ay hrc hrpc hrf hrpf hlt hpl hne S zf;generalize w8.setCell {block:=g.pb,off:=3} (qD (U {block:=g8,off:=0}) (J R.p.BX+1) XY)=w3 at s3⊢;obtain⟨hrc,hrpc,hrf,hrpf,hlt,hpl,hne⟩:=BL s3.Ak;have S:=D s3;clear s3;go_wp2_with fail;go_ret;rw[Hres.out];have t1:=S.Ak.set (i:=0) rfl 4 (qD Z 0 0);have t2:=t1.Ak.set (i:=0) rfl 6 (iI 0);have t3:=t2.Ak.swap (i:=5) (o':=L7 ⟨Z,0⟩ []) rfl (Aw.refl _ _) (ownsRow_nil _ _ _ _) (by simp[L7,Ob.fp,Value.ownBlock]) (λb hb=>by simp[L7,Ob.fp,Value.ownBlock] at hb);have t4:=S.trans (t1.trans (t2.trans t3));have ecn:R.p.cells.toNat=cn:=by rw[Hcn.out];simp
 rw[ecn];refine⟨rfl,{g with l:=⟨Z,0⟩,t:=⟨U ⟨g6,0,Z⟩,AI⟩,cv:=g.cv++[⟨Z,0⟩],u:=⟨U ⟨g7,0,Z⟩,VK⟩,dv:=g.dv++[⟨U ⟨nb,0,Z⟩,cn⟩],q:=⟨U ⟨g8,0,Z⟩,XY⟩},rfl,⟨by simp[HL.out.cl],by simp[HL.out.dl],by simp[HL.out.ql],by simp[HL.out.tl],HL.fl,HL.zl,Jo _⟩,?_⟩;exact t4
