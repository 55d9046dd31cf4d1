/-
  Part 31 of the proof, packed by program out of R11, R12, R13.
-/
import Derived.Test.YtpdfifdlhpmofaaGreatDoorZ30
set_option linter.unusedVariables false
set_option linter.unusedSimpArgs false
set_option maxHeartbeats 3200000
set_option maxRecDepth 100000
namespace Go.Proofs.YtpdfifdlhpmofaaGreatDoor
open Go.RowKit
open Go.Lib (hid)
def Fe (res:Except Int RS) (g:RG) (R:RS) (w:World) (e:Ending) (w':World):Prop:=
 match res with
 | .error c=>e= .returned (.int .i64 c)∧Av (En (g.Ax R)) w w'
 | .ok R'=>e= .returned (.int .i64 0)∧∃g',g'.rb=g.rb∧Dl g' R'∧Ad w (g.Ax R) w' (g'.Ax R')
theorem Ou:(Tryz.prog.info? 3).map (fun i=>(i.zero,i.size,i.bytes))=some (some (.int .i64 0),1,8):=by kernel_rfl
theorem Yt (l:Ws) (lw:Value) (w:World) (g:RG) (R:RS) (n:Nat) (h:AK w (g.Ax R)) (hL:Dl g R) (hI:KL R n)
  (hw:Sl w (fun b=>b∉En (g.Ax R)) lw (AY l)) (hs:∀a,a∈l→a.size≤maxLen) (hl:l.length=2∨(l.length=3∧Fz (bs (wd l 2)) 6=true)):
  Calls Tryz.prog 59 #[.pointer (some ⟨g.rb,0,none⟩),lw] w (Fe (R.DU l) g R w):=by
 obtain⟨wb,woff,wcap,rfl,hd⟩:=Fa hw (by omega);obtain⟨j0,hj,I9,EK,JW⟩:=info_parts P6;obtain⟨i0,hi,ad,mi,mh⟩:=info_parts Ou;have hp:=fun w' (k:Av [] w w')=>FH R.Aw (wd l 1) (.slice g.s.p R.Aw.length g.s.c) w' _ ((Sl.Lg (h.row (i:=2) rfl)).Bh k (by simp))
 have AU:R.DU l=R.DU l:=rfl
 conv at AU=>rhs;unfold RS.DU
 generalize vq:Bf R.Aw (wd l 1)=pk at*;have c1:=hd.c 1 (by omega);have Pb:(0:Int) < (l.length:Int):=by omega
 have JD:(1:Int) < (l.length:Int):=by omega
 obtain⟨Cp,A6,CR,Bt,Bi,CM,BQ⟩:=AG h;have Gb:=hd.n0;have Kc:=hd.n1;have EA:=hd.lt;unfold maxLen at Kc;have H:=hid h;have HL:=hid hL;have HI:=hid hI;have Hp:=hid hp;have Hs:=hid hs;have Hd:=hid hd;clear h hL hI hp hw vq hs hd;by_cases ht:R.p.Aa=[]
 ·have tS:¬(0:Int) < (R.p.Aa.length:Int):=by rw[ht];decide
  rw[if_neg (fun h=>h ht)] at AU;have Ht:=hid ht;clear ht;by_cases hk:0≤pk
  ·rw[if_pos hk] at AU;have Bg:=hid AU;clear AU;go_enter Tryz.func59,Tryz.ntmps59;go_upto_region 3 with fail
   go_quiet (((go_at_call 58);(refine Calls.quiet_of_same (Hp.out _ ((Av.refl _ _).drewN _)))))
   go_wp2;go_ret;rw[Bg.out];exact⟨rfl,((Av.refl _ _).drewN _)⟩
  ·rw[if_neg hk] at AU;have QQ:pk < 0:=by omega
   have GK:∃z:Int,0 < z∧z≤6∧R.DU l= .ok {R with Aw:=R.Aw++[wd l 1],first:=R.first++[R.p.cells],size:=R.size++[z],p:={R.p with cells:=R.p.cells+z}}∧
     ((l.length=2∧z=1)∨(l.length=3∧(number (bs (wd l 2))).getD 0=z)):=by
    rcases hl with h2 | ⟨h3,h4⟩
    ·exact⟨1,by omega,by omega,by rw[AU];simp[h2],.inl ⟨h2,rfl⟩⟩
    ·unfold Fz at h4;cases ld:number (bs (wd l 2)) with
     | none=>rw[ld] at h4;cases h4
     | some v=>
      rw[ld] at h4;simp only[Bool.and_eq_true,decide_eq_true_eq] at h4;exact⟨v,by omega,by omega,by rw[AU];simp[h3,ld],.inr ⟨h3,by simp⟩⟩
   obtain⟨z,hz,hz6,Qq,hlz⟩:=GK;have Bg:=hid Qq;clear AU Qq hl hk;have NU:R.Aw.length≤2500:=by have:=HI.out.bn;have:=HI.out.nn;omega
   have ug:R.first.length≤2500:=by rw[HL.out.fl];exact NU
   have hzn:R.size.length≤2500:=by rw[HL.out.zl];exact NU
   have QR:=HI.out.c0;have LC:R.p.cells≤15000:=by have:=HI.out.c1;omega
   go_enter Tryz.func59,Tryz.ntmps59;go_upto_region 3 with fail
   go_quiet (((go_at_call 58);(refine Calls.quiet_of_same (Hp.out _ ((Av.refl _ _).drewN _)))))
   go_upto_if 28 with fail
   go_cut [6] (fun q w'=>w'=w.drewN nq∧q= .int .i64 z)
   case first=>
    rcases hlz with⟨h2,rfl⟩ | ⟨h3,h4⟩
    ·have Na:¬(2:Int) < (l.length:Int):=by omega
     clear h2;go_wp2_with fail;all_goals go_meet
     exact⟨rfl,rfl⟩
    ·have Na:(2:Int) < (l.length:Int):=by omega
     have c2:=Hd.out.c 2 (by omega);clear h3;have cP:=fun w=>Vr (wd l 2) w (GO Hs.out 2)
     rw[h4] at cP;have pP:=hid cP;clear cP h4;go_wp2_with fail;refine(pP.out _).mono ?_;rintro e w' ⟨rfl,rfl⟩;go_wp2_with fail;all_goals go_meet
     exact⟨rfl,rfl⟩
   case rest=>
    obtain⟨hwq,rfl⟩:=hcut;obtain rfl:=hwq;have s1:Ad w (g.Ax R) (w.drewN nq) (g.Ax R):=Ad.quiet H.out ((Av.refl _ _).drewN _);clear Cp A6 CR Bt Bi CM BQ c1 EA Hp;have oG:1 < l.length:=by omega
    generalize w.drewN nq=w1 at s1⊢;have c1:=(Hd.out.Bh s1.Bh).c 1 oG;have EA:=(Hd.out.Bh s1.Bh).lt;obtain⟨Cp,A6,CR,Bt,Bi,CM,BQ⟩:=AG s1.Al;have S:=hid s1;clear s1;go_upto_region 9 with fail
    refine Ao (l:=[(0,true),(1,true),(2,true),(3,true),(4,true),(5,true),(6,true),(7,true),(8,false),(9,false),(10,true),(11,true),(12,false)]) (fun W=>W.cell? ⟨g.rb,1,none⟩=some (.slice g.s.p R.Aw.length g.s.c)∧W.cell? ⟨wb,woff+1,none⟩=some (.string (wd l 1))) 12 (by kernel_rfl) (by kernel_rfl) (by kernel_rfl) (by kernel_rfl) (by kernel_rfl) (fun c a d v w h=>by cases d <;>exact h) ?_ ?_
    ·exact⟨by go_simp,by go_simp⟩
    repeat
     refine Ak (v:= ?_) rfl rfl rfl (fun W hW=> ?_) ?_;rotate_left
     ·obtain⟨s1,s2⟩:=hW;go_simp;rfl
     simp only[Bo]
    refine Ab rfl (fun K hK=> ?_);go_simp;refine hK _ _ (fun _=>⟨by go_simp,by go_simp⟩) ?_;refine Ab rfl (fun K hK=> ?_);refine BY 16 _ _ _ j0 _ #[.string (wd l 1)] _ S.out.Al (k:=2) rfl (by rfl) (by rfl) Tryz.underlying90 hj I9 EK JW rfl (by omega) (by rfl) (by rfl) rfl (by simp[Value.oneCell']) (by unfold maxLen;omega) (by omega) ?_;intro g6 Bb w6 AI _;rw[PE] at AI;have z1:w6.cell? ⟨g.rb,1,none⟩=some (.slice g.s.p R.Aw.length g.s.c):=(AI.Al.AP (i:=0) rfl).cell 1;have z2:=(Hd.out.Bh (S.out.trans AI).Bh).c 1 oG;have zf:=(AI.Al.AP (i:=0) rfl).free 1;have zl:=(AI.Al.AP (i:=0) rfl).lt;refine hK _ _ (fun _=>⟨z1,z2⟩) (DM rfl ?_);simp only[Bo];repeat
     refine Ak (v:= ?_) rfl rfl rfl (fun W hW=> ?_) ?_;rotate_left
     ·obtain⟨s1,s2⟩:=hW;go_simp;rfl
     simp only[Bo]
    refine Ab rfl (fun K hK=> ?_);go_simp;refine hK _ _ (fun h=>absurd rfl h) ?_;simp only[A0];clear z1 z2;have t1:=AI.Al.set (i:=0) rfl 1 (.slice (some ⟨g6,0,none⟩) (R.Aw.length+1) Bb);have s2:Ad w (g.Ax R) (w6.setCell ⟨g.rb,1,none⟩ (.slice (some ⟨g6,0,none⟩) (R.Aw.length+1) Bb)) (RG.Ax {g with s:=⟨some ⟨g6,0,none⟩,Bb⟩} {R with Aw:=R.Aw++[wd l 1]}):=by
     have e:(R.Aw++[wd l 1]).length=R.Aw.length+1:=by simp
     have:=S.out.trans (AI.trans t1);unfold RG.Ax;unfold RG.Ax at this;rw[e];exact this
    clear t1 AI Cp A6 CR Bt Bi CM BQ c1 EA S zf zl;generalize w6.setCell {block:=g.rb,off:=1} (Value.slice (some {block:=g6,off:=0}) (R.Aw.length+1) Bb)=w2 at s2⊢;have c1:=(Hd.out.Bh s2.Bh).c 1 oG;have EA:=(Hd.out.Bh s2.Bh).lt;obtain⟨Cp,A6,CR,Bt,Bi,CM,BQ⟩:=AG s2.Al;have S:=hid s2;clear s2;go_upto_region 10 with fail
    refine Ao (l:=[(0,true),(1,true),(2,true),(3,true),(4,true),(5,true),(6,true),(7,true),(8,true),(9,true),(10,true),(11,true),(12,false),(13,false),(14,true),(15,true),(16,false)]) (fun W=>W.cell? ⟨g.rb,2,none⟩=some (.slice g.f.p R.first.length g.f.c)∧W.cell? ⟨g.rb,0,none⟩=some (.pointer (some ⟨g.pb,0,none⟩))∧W.cell? ⟨g.pb,1,none⟩=some (.int .i64 R.p.cells)) 16 (by kernel_rfl) (by kernel_rfl) (by kernel_rfl) (by kernel_rfl) (by kernel_rfl) (fun c a d v w h=>by cases d <;>exact h) ?_ ?_
    ·exact⟨by go_simp,by go_simp,by go_simp⟩
    repeat
     refine Ak (v:= ?_) rfl rfl rfl (fun W hW=> ?_) ?_;rotate_left
     ·obtain⟨s1,s2,s3⟩:=hW;go_simp;rfl
     simp only[Bo]
    refine Ab rfl (fun K hK=> ?_);go_simp;refine hK _ _ (fun _=>⟨by go_simp,by go_simp,by go_simp⟩) ?_;refine Ab rfl (fun K hK=> ?_);refine BY 8 _ _ _ i0 _ #[.int .i64 R.p.cells] _ S.out.Al (k:=3) rfl (by rfl) (by rfl) Tryz.underlying29 hi ad mi mh rfl (by omega) (by rfl) (by rfl) rfl (by simp[Value.oneCell']) (show R.first.length+1≤maxLen by unfold maxLen;omega) (show(R.first.length+1)*8≤_ by omega) ?_;intro g7 OE w7 AI _;rw[P4] at AI;have z1:w7.cell? ⟨g.rb,2,none⟩=some (.slice g.f.p R.first.length g.f.c):=(AI.Al.AP (i:=0) rfl).cell 2;have z2:w7.cell? ⟨g.rb,0,none⟩=some (.pointer (some ⟨g.pb,0,none⟩)):=(AI.Al.AP (i:=0) rfl).cell 0;have z3:w7.cell? ⟨g.pb,1,none⟩=some (.int .i64 R.p.cells):=(AI.Al.AP (i:=1) rfl).cell 1;have zf:w7.frozen? ⟨g.rb,2,none⟩=false:=(AI.Al.AP (i:=0) rfl).free 2;have zl:g.rb < w7.heap.size:=(AI.Al.AP (i:=0) rfl).lt;refine hK _ _ (fun _=>⟨z1,z2,z3⟩) (DM rfl ?_);simp only[Bo];repeat
     refine Ak (v:= ?_) rfl rfl rfl (fun W hW=> ?_) ?_;rotate_left
     ·obtain⟨s1,s2,s3⟩:=hW;go_simp;rfl
     simp only[Bo]
    refine Ab rfl (fun K hK=> ?_);go_simp;refine hK _ _ (fun h=>absurd rfl h) ?_;simp only[A0];clear z1 z2 z3;have t1:=AI.Al.set (i:=0) rfl 2 (.slice (some ⟨g7,0,none⟩) (R.first.length+1) OE);have s3:Ad w (g.Ax R) (w7.setCell ⟨g.rb,2,none⟩ (.slice (some ⟨g7,0,none⟩) (R.first.length+1) OE)) (RG.Ax {g with s:=⟨some ⟨g6,0,none⟩,Bb⟩,f:=⟨some ⟨g7,0,none⟩,OE⟩} {R with Aw:=R.Aw++[wd l 1],first:=R.first++[R.p.cells]}):=by
     have e:(R.first++[R.p.cells]).length=R.first.length+1:=by simp
     have:=S.out.trans (AI.trans t1);unfold RG.Ax;unfold RG.Ax at this;rw[e];exact this
    clear t1 AI Cp A6 CR Bt Bi CM BQ c1 EA S zf zl;generalize w7.setCell {block:=g.rb,off:=2} (Value.slice (some {block:=g7,off:=0}) (R.first.length+1) OE)=w3 at s3⊢;obtain⟨Cp,A6,CR,Bt,Bi,CM,BQ⟩:=AG s3.Al;have S:=hid s3;clear s3;go_upto_region 12 with(first | (at_builtin;refine CH 8 _ _ _ i0 _ #[.int .i64 z] _ S.out.Al (k:=4) rfl (by rfl) (by rfl) Tryz.underlying29 hi ad mi mh rfl (by omega) (by rfl) (by rfl) rfl (by simp[Value.oneCell']) (show R.size.length+1≤maxLen by unfold maxLen;omega) (show(R.size.length+1)*8≤_ by omega) ?_;intro g8 QA w8 AI _;rw[P4] at AI;have q1:=(AI.Al.AP (i:=0) rfl).cell;have q2:∀i:Nat,w8.frozen? ⟨g.rb,i,none⟩=false:=(AI.Al.AP (i:=0) rfl).free;have q3:g.rb < w8.heap.size:=(AI.Al.AP (i:=0) rfl).lt;have KS:=hid AI;clear AI Cp A6 CR Bt Bi CM BQ))
    have AI:=KS.out;have t1:=AI.Al.set (i:=0) rfl 3 (.slice (some ⟨g8,0,none⟩) (R.size.length+1) QA);have s4:Ad w (g.Ax R) (w8.setCell ⟨g.rb,3,none⟩ (.slice (some ⟨g8,0,none⟩) (R.size.length+1) QA)) (RG.Ax {g with s:=⟨some ⟨g6,0,none⟩,Bb⟩,f:=⟨some ⟨g7,0,none⟩,OE⟩,z:=⟨some ⟨g8,0,none⟩,QA⟩} {R with Aw:=R.Aw++[wd l 1],first:=R.first++[R.p.cells],size:=R.size++[z]}):=by
     have e:(R.size++[z]).length=R.size.length+1:=by simp
     have:=S.out.trans (AI.trans t1);unfold RG.Ax;unfold RG.Ax at this;rw[e];exact this
    clear t1 AI q1 q2 q3 S KS;generalize w8.setCell {block:=g.rb,off:=3} (Value.slice (some {block:=g8,off:=0}) (R.size.length+1) QA)=w4 at s4⊢;obtain⟨Cp,A6,CR,Bt,Bi,CM,BQ⟩:=AG s4.Al;have S:=hid s4;clear s4;have mj:IntKind.i64.wrap (R.p.cells+z)=R.p.cells+z:=IntWalk.i64_in _ (by omega);go_upto_region 12 with fail
    refine Ao (l:=[(0,true),(1,true),(2,true),(3,true),(4,true),(5,true),(6,true),(7,true),(8,true),(9,true),(10,true),(11,true),(12,true),(13,true),(14,true),(15,false)]) (fun W=>W.cell? ⟨g.rb,0,none⟩=some (.pointer (some ⟨g.pb,0,none⟩))∧W.cell? ⟨g.pb,1,none⟩=some (.int .i64 R.p.cells)) 15 (by kernel_rfl) (by kernel_rfl) (by kernel_rfl) (by kernel_rfl) (by kernel_rfl) (fun c a d v w h=>by cases d <;>exact h) ?_ ?_
    ·exact⟨by go_simp,by go_simp⟩
    repeat
     refine Ak (v:= ?_) rfl rfl rfl (fun W hW=> ?_) ?_;rotate_left
     ·obtain⟨s1,s2⟩:=hW;go_simp;rfl
     simp only[Bo]
    refine Ab rfl (fun K hK=> ?_);go_simp;refine hK _ _ (fun h=>absurd rfl h) ?_;simp only[A0];have t1:=S.out.Al.set (i:=1) rfl 1 (.int .i64 (R.p.cells+z));have s5:Ad w (g.Ax R) (w4.setCell ⟨g.pb,1,none⟩ (.int .i64 (R.p.cells+z))) (RG.Ax {g with s:=⟨some ⟨g6,0,none⟩,Bb⟩,f:=⟨some ⟨g7,0,none⟩,OE⟩,z:=⟨some ⟨g8,0,none⟩,QA⟩} {R with Aw:=R.Aw++[wd l 1],first:=R.first++[R.p.cells],size:=R.size++[z],p:={R.p with cells:=R.p.cells+z}}):=S.out.trans t1;have s6:=s5.trans (Ad.drew s5.Al);go_wp2;go_ret;rw[Bg.out];exact⟨rfl,{g with s:=⟨some ⟨g6,0,none⟩,Bb⟩,f:=⟨some ⟨g7,0,none⟩,OE⟩,z:=⟨some ⟨g8,0,none⟩,QA⟩},rfl,⟨HL.out.cl,HL.out.dl,HL.out.ql,HL.out.tl,by simp[HL.out.fl],by simp[HL.out.zl],HL.out.ll⟩,s6⟩
 ·have tS:(0:Int) < (R.p.Aa.length:Int):=by have:=List.length_pos_iff.2 ht;omega
  rw[if_pos ht] at AU;have Bg:=hid AU;clear AU;go_enter Tryz.func59,Tryz.ntmps59;go_wp2_with fail;go_ret;rw[Bg.out];exact⟨rfl,Av.refl _ _⟩
theorem El (l:List Nd):(Bx l).length=l.length*14:=by
 induction l with
 | nil=>rfl
 | cons a r ih=>
  have:(Nd.cells a).length=14:=rfl;simp only[Bx,List.flatMap_cons,List.length_append,List.length_cons] at ih⊢;omega
theorem IA (l:List Nd) (i j:Nat) (hi:i < l.length) (hj:j < 14):(Bx l)[i*14+j]?=(Nd.cells (l.getD i (.of 0)))[j]?:=by
 induction l generalizing i with
 | nil=>simp at hi
 | cons a r ih=>
  have Kj:(Nd.cells a).length=14:=rfl;cases i with
  | zero=>
   simp only[Bx,List.flatMap_cons,Nat.zero_mul,Nat.zero_add,List.getD_cons_zero];rw[List.getElem?_append_left (by omega)]
  | succ i=>
   simp only[Bx,List.flatMap_cons,List.getD_cons_succ];rw[List.getElem?_append_right (by omega),Kj,show(i+1)*14+j - 14=i*14+j by omega];exact ih i (by simpa using hi)
theorem WQ (l:List Nd) (i:Nat) (hi:i < l.length) (n:Int):(Bx l).set (i*14+11) (.int .i64 n)=Bx (l.set i {l.getD i (.of 0) with C2:=n}):=by
 induction l generalizing i with
 | nil=>simp at hi
 | cons a r ih=>
  cases i with
  | zero=>rfl
  | succ i=>
   have Kj:(Nd.cells a).length=14:=rfl;simp only[Bx,List.flatMap_cons,List.getD_cons_succ,List.set_cons_succ];rw[List.set_append_right _ _ (by omega),Kj,show(i+1)*14+11 - 14=i*14+11 by omega];congr 1;exact ih i (by simpa using hi)
theorem FK (l:List Nd) (x:Nd):Bx l++x.cells=Bx (l++[x]):=by simp[Bx]
theorem O6:(Tryz.prog.info? 110).map (fun i=>(i.zero,i.size,i.bytes))=some (some (Nd.of 0).val,14,120):=by kernel_rfl
def RG.qB (g:RG) (R:RS):List Ob:=
 [.AP g.rb #[.pointer (some ⟨g.pb,0,none⟩),.slice g.s.p R.Aw.length g.s.c,.slice g.f.p R.first.length g.f.c,.slice g.z.p R.size.length g.z.c,.slice g.l.p R.AB.length g.l.c,.slice g.o.p R.Ai.length g.o.c,.int .i64 R.Am,.bool false,.int .i64 0] 94,
  .AP g.pb #[.slice g.t.p R.p.Aa.length g.t.c,.int .i64 R.p.cells,.slice g.u.p R.p.AD.length g.u.c,.slice g.q.p R.p.Cu.length g.q.c] 53,
  Jn g.s R.Aw,L0 g.f R.first,L0 g.z R.size,Jn g.l R.AB,NB g.o R.Ai,
  .row (.slice g.t.p R.p.Aa.length g.t.c) 72 1 R.p.Aa.length (BL g.cv R.p.Aa),
  .row (.slice g.u.p R.p.AD.length g.u.c) 51 1 R.p.AD.length (BL g.dv R.p.AD),
  CF g.q R.p.Cu]
theorem RB {g:RG} {R:RS} {vs:List SG} {c:SG} {ts:List (List Nd)} {l:List Nd} (hv:g.cv=vs++[c]) (ht:R.p.Aa=ts++[l]) (hl:vs.length=ts.length):
  g.Ax R=(g.qB R++List.zipWith Dv vs ts)++Dv c l::List.zipWith CF g.dv R.p.AD:=by
 show g.qB R++(List.zipWith Dv g.cv R.p.Aa++List.zipWith CF g.dv R.p.AD)=_;rw[hv,ht,List.zipWith_append hl];simp
theorem j8 (g:RG) (R:RS):(g.qB R).length=10:=rfl
theorem Uv (g:RG) (R:RS) {vs:List SG} {ts:List (List Nd)} (hl:vs.length=ts.length):(g.qB R++List.zipWith Dv vs ts).length=ts.length+10:=by
 simp[j8,hl];omega
theorem aA {g:RG} {R:RS} {vs:List SG} {c:SG} {ts:List (List Nd)} {l:List Nd} (hv:g.cv=vs++[c]) (ht:R.p.Aa=ts++[l]) (hl:vs.length=ts.length) (a:Ob) (c':SG) (l':List Nd):
  (((g.Ax R).set (ts.length+10) a).set (ts.length+10) (Dv c' l')).set 7 (.row (.slice g.t.p R.p.Aa.length g.t.c) 72 1 R.p.Aa.length (BL (vs++[c']) (ts++[l'])))=RG.Ax {g with cv:=vs++[c']} (R.Bs l'):=by
 have e1:(R.Bs l').p.Aa=ts++[l']:=JS ht;have e2:(R.Bs l').p.Aa.length=R.p.Aa.length:=by rw[e1,ht];simp
 rw[RB (g:={g with cv:=vs++[c']}) (R:=R.Bs l') rfl e1 hl,RB hv ht hl];rw[←Uv g R hl,Vu,Vu];unfold RG.qB;rw[e2,e1];rfl
theorem Lt {g:RG} {R:RS} {vs:List SG} {c:SG} {ts:List (List Nd)} {l:List Nd} (hv:g.cv=vs++[c]) (ht:R.p.Aa=ts++[l]) (h:Dl g R) (c':SG) (l':List Nd) (o:SG):Dl {g with cv:=vs++[c'],o:=o} (R.Bs l'):=by
 have e1:(R.Bs l').p.Aa=ts++[l']:=JS ht;have e2:(R.Bs l').p.Aa.length=R.p.Aa.length:=by rw[e1,ht];simp
 refine⟨?_,h.dl,h.ql.trans e2.symm,h.tl.trans e2.symm,h.fl,h.zl,h.ll⟩;rw[e2,←h.cl,hv];simp
theorem Vs {w:World} {L:List Ob} (h:AK w L) {i j b c:Nat} {e e':TypeId} {s s' n n' m m' cap cap':Nat} {xs ys:List Value} (hi:L[i]?=some (.row (.slice (some ⟨b,0,none⟩) m cap) e s n xs)) (hj:L[j]?=some (.row (.slice (some ⟨c,0,none⟩) m' cap') e' s' n' ys)) (ij:i≠j):b≠c:=fun h'=>by
 have:=h.jP hi hj ij b (by simp[Ob.fp,Value.ownBlock]);exact this (by rw[h'];simp[Ob.fp,Value.ownBlock])
theorem I0 {α:Type} {L:List α} {i:Nat} {o x:α} (h:L[i]?=some o):(L.set i x)[i]?=some x:=by
 rw[List.getElem?_set_self];exact(List.getElem?_eq_some_iff.1 h).1
theorem Pl {W w6:World} {g:RG} {R:RS} {vs:List SG} {c:SG} {ts:List (List Nd)} {l m:List Nd} {lb lc tb tc Bb g6 A5:Nat} (hv:g.cv=vs++[c]) (ht:R.p.Aa=ts++[l]) (hl:vs.length=ts.length) (Fh:A5 < m.length)
  (hit:(g.Ax R)[ts.length+10]?=some (.row (.slice (some ⟨lb,0,none⟩) l.length lc) 110 14 l.length (Bx l)))
  (NT:Value.slice g.t.p R.p.Aa.length g.t.c= .slice (some ⟨tb,0,none⟩) (ts.length+1) tc)
  (AI:Ad W (g.Ax R) w6 ((g.Ax R).set (ts.length+10) (.row (.slice (some ⟨g6,0,none⟩) m.length Bb) 110 14 m.length (Bx m)))):
  Ad W (g.Ax R) ((w6.setCell ⟨g6,A5*14+11,none⟩ (.int .i64 m.length)).setCell ⟨tb,ts.length,none⟩ (.slice (some ⟨g6,0,none⟩) m.length Bb))
   (RG.Ax {g with cv:=vs++[⟨some ⟨g6,0,none⟩,Bb⟩]} (R.Bs (m.set A5 {m.getD A5 (.of 0) with C2:=m.length}))):=by
 have t1:=AI.Al.Jp (I0 hit) (A5*14+11) (by rw[El];omega) (.int .i64 m.length);rw[WQ _ _ Fh] at t1;have h7:∀L:Ob,∀M:Ob,(((g.Ax R).set (ts.length+10) L).set (ts.length+10) M)[7]?=some (.row (.slice (some ⟨tb,0,none⟩) (ts.length+1) tc) 72 1 (ts.length+1) (BL g.cv R.p.Aa)):=fun L M=>by
  show some (Ob.row (.slice g.t.p R.p.Aa.length g.t.c) 72 1 R.p.Aa.length (BL g.cv R.p.Aa))=_;rw[NT,ht];simp
 have t2:=t1.Al.Jp (h7 _ _) ts.length (by rw[hv,ht,Bw _ _ _ _ hl,List.length_append,Cl _ _ hl];simp) (.slice (some ⟨g6,0,none⟩) m.length Bb);have e3:(BL g.cv R.p.Aa).set ts.length (.slice (some ⟨g6,0,none⟩) m.length Bb)=BL (vs++[⟨some ⟨g6,0,none⟩,Bb⟩]) (ts++[m.set A5 {m.getD A5 (.of 0) with C2:=m.length}]):=by
  rw[hv,ht,Bw _ _ _ _ hl,Bw _ _ _ _ hl,List.set_append_right _ _ (by rw[Cl _ _ hl];exact Nat.le_refl _),Cl _ _ hl];simp
 rw[e3] at t2;have e4:Ob.row (.slice (some ⟨g6,0,none⟩) m.length Bb) 110 14 m.length (Bx (m.set A5 {m.getD A5 (.of 0) with C2:=m.length}))=Dv ⟨some ⟨g6,0,none⟩,Bb⟩ (m.set A5 {m.getD A5 (.of 0) with C2:=m.length}):=by
  unfold Dv;rw[List.length_set]
 rw[e4] at t1 t2;have e5:Ob.row (.slice (some ⟨tb,0,none⟩) (ts.length+1) tc) 72 1 (ts.length+1) (BL (vs++[⟨some ⟨g6,0,none⟩,Bb⟩]) (ts++[m.set A5 {m.getD A5 (.of 0) with C2:=m.length}]))=
   .row (.slice g.t.p R.p.Aa.length g.t.c) 72 1 R.p.Aa.length (BL (vs++[⟨some ⟨g6,0,none⟩,Bb⟩]) (ts++[m.set A5 {m.getD A5 (.of 0) with C2:=m.length}])):=by
  rw[NT,ht];simp
 rw[e5,aA hv ht hl] at t2;exact AI.trans (t1.trans t2)
theorem Zn {W:World} {g:RG} {R:RS} {vs:List SG} {c:SG} {ts:List (List Nd)} {l:List Nd} {lb lc tb tc A5:Nat} (hv:g.cv=vs++[c]) (ht:R.p.Aa=ts++[l]) (hl:vs.length=ts.length) (Fh:A5 < l.length)
  (hit:(g.Ax R)[ts.length+10]?=some (.row (.slice (some ⟨lb,0,none⟩) l.length lc) 110 14 l.length (Bx l)))
  (NT:Value.slice g.t.p R.p.Aa.length g.t.c= .slice (some ⟨tb,0,none⟩) (ts.length+1) tc) (Al:AK W (g.Ax R)):
  Ad W (g.Ax R) ((W.setCell ⟨lb,A5*14+11,none⟩ (.int .i64 l.length)).setCell ⟨tb,ts.length,none⟩ (.slice (some ⟨lb,0,none⟩) l.length lc))
   (RG.Ax {g with cv:=vs++[⟨some ⟨lb,0,none⟩,lc⟩]} (R.Bs (l.set A5 {l.getD A5 (.of 0) with C2:=l.length}))):=by
 refine Pl (m:=l) hv ht hl Fh hit NT ?_;obtain⟨Bi,he⟩:=List.getElem?_eq_some_iff.1 hit;rw[←he,List.set_getElem_self];exact Ad.refl Al
theorem fk (w:World) (g:RG) (R:RS) (n:Nat) (h:AK w (g.Ax R)) (hL:Dl g R) (hI:KL R n) (hO:Pp R):
  Calls Tryz.prog 60 #[.pointer (some ⟨g.rb,0,none⟩)] w (Fe R.LG g R w):=by
 obtain⟨j0,hj,I9,EK,JW⟩:=info_parts O6;obtain⟨Cp,A6,CR,Bt,Bi,CM,BQ⟩:=AG h;have AU:R.LG=R.LG:=rfl
 conv at AU=>rhs;unfold RS.LG
 rcases List.eq_nil_or_concat R.Ai with h0 | ⟨os,A5,h0⟩
 ·rw[h0] at AU;simp only[List.getLast?_nil] at AU;rw[h0] at Cp;have H:=hid h;have Bg:=hid AU;clear h hL hI hO AU h0 hj I9 EK JW;simp only[List.length_nil] at Cp;go_enter Tryz.func60,Tryz.ntmps60;go_wp2_with fail;go_ret;rw[Bg.out];exact⟨rfl,Av.refl _ _⟩
 ·rw[List.concat_eq_append] at h0;rw[h0] at AU;simp only[List.getLast?_append,List.getLast?_singleton,Option.some_or,List.dropLast_concat] at AU;have hT:=hO.ne (by rw[h0];simp);obtain⟨vs,c,ts,l,hv,ht,Kb⟩:=KA hL.cl hT;have FA:R.Dg=l:=Dr ht;rw[FA] at AU;have Fh:A5 < l.length:=by rw[←FA];exact hO.lt A5 (by rw[h0];simp)
  have XX:l.length≤100:=by rw[←FA];exact hO.nl
  have cN:os.length≤2:=by have:=hO.ol;rw[h0] at this;simp at this;omega
  have cH:ts.length≤2500:=by have:=hI.bn;have:=hI.nn;rw[ht] at*;simp at*;omega
  have Qr:=RB hv ht Kb;have mu:=h.row (i:=6) rfl;obtain⟨ob,oc,jK,_,kZ,vu,Aao,L5,gQ⟩:=AX mu (by rw[h0];simp);rw[h0,List.length_append,List.length_singleton] at vu;have Xa:w.cell? ⟨ob,os.length,none⟩=some (.int .i64 (A5:Int)):=by
   rw[L5 os.length (by simp[D0,NA,h0])];simp[D0,NA,h0]
  have mr:=h.row (i:=7) rfl;obtain⟨tb,tc,NT,_,kY,_,Aai,L3,gC⟩:=AX mr (by rw[ht];simp);have Vy:w.cell? ⟨tb,ts.length,none⟩=some (.slice c.p l.length c.c):=by
   rw[L3 ts.length (by rw[hv,ht,Bw _ _ _ _ Kb,List.length_append,Cl _ _ Kb];simp)];simp only[hv,ht,Bw _ _ _ _ Kb];rw[List.getElem_append_right (by rw[Cl _ _ Kb];omega)];simp
  have hit:(g.Ax R)[ts.length+10]?=some (Dv c l):=by rw[Qr,←Uv g R Kb];exact Mz
  have mn:=h.row hit;obtain⟨lb,lc,hle,_,lh,_,Aau,L6,gW⟩:=AX mn (by omega);have GH:∀j,j < 14→w.cell? ⟨lb,A5*14+j,none⟩=(Nd.cells (l.getD A5 (.of 0)))[j]?:=fun j hj=>by
   have Bi:A5*14+j < (Bx l).length:=by rw[El];omega
   rw[L6 _ Bi,←List.getElem?_eq_getElem,IA l A5 j Fh hj]
  rw[jK,h0] at Cp;rw[NT,ht] at A6;rw[hle] at Vy;simp only[List.length_append,List.length_singleton] at Cp A6;generalize hx:l.getD A5 (.of 0)=x at*;have Gb:w.cell? ⟨lb,A5*14,none⟩=some (.int .u8 x.kind):=GH 0 (by omega);have rM:w.cell? ⟨lb,A5*14+13,none⟩=some (.int .i64 x.Aj):=GH 13 (by omega);have ig:(g.Ax R)[ts.length+10]?=some (.row (.slice (some ⟨lb,0,none⟩) l.length lc) 110 14 l.length (Bx l)):=by rw[hit];unfold Dv;rw[hle]
  have zs:(g.Ax R)[6]?=some (.row (.slice (some ⟨ob,0,none⟩) (os.length+1) oc) 3 1 (os.length+1) (D0 (NA R.Ai))):=by
   show some (NB g.o R.Ai)=_;unfold NB;rw[jK,h0];simp
  have uo:(g.Ax R)[7]?=some (.row (.slice (some ⟨tb,0,none⟩) (ts.length+1) tc) 72 1 (ts.length+1) (BL g.cv R.p.Aa)):=by
   show some (Ob.row (.slice g.t.p R.p.Aa.length g.t.c) 72 1 R.p.Aa.length (BL g.cv R.p.Aa))=_;rw[NT,ht];simp
  have n1:g.rb≠lb:=Gm h (i:=0) rfl ig (by omega);have n2:g.rb≠tb:=Gm h (i:=0) rfl uo (by omega);have n3:g.pb≠lb:=Gm h (i:=1) rfl ig (by omega);have n4:lb≠tb:=fun e=>by
   have:=h.jP ig uo (by omega) lb (by simp[Ob.fp,Value.ownBlock]);exact this (by rw[e];simp[Ob.fp,Value.ownBlock])
  have xM:=hid ig;have H6r:=hid zs;have uz:=hid uo;clear ig zs uo;have H:=hid h;have HL:=hid hL;have Bg:=hid AU;have H0:=hid h0;have Hv:=hid hv;have Ht:=hid ht;have ZK:=hid Kb;have Hoe:=hid jK;have TE:=hid NT;have xI:=hid hle;have qm:=hid hit;have Hx:=hid hx;have MS:=hid GH;clear h hL hI hO AU h0 hv ht jK NT hle hit Qr mu mr mn L5 L3 L6 hT FA hx GH;have Zc:(0:Int)≤(A5:Int):=Int.natCast_nonneg _;have AaG:(A5:Int) < (l.length:Int):=by omega
  have tW:(0:Int)≤(os.length:Int):=Int.natCast_nonneg _;have vx:(os.length:Int)≤(oc:Int):=by omega
  have Y2:(os.length:Int) < ((os.length:Int)+1):=by omega
  have ht1:(ts.length:Int) < ((ts.length:Int)+1):=by omega
  go_enter Tryz.func60,Tryz.ntmps60;go_upto_region 9 with fail
  have S:Hid (Ad w (g.Ax R) (w.setCell ⟨g.rb,5,none⟩ (.slice (some ⟨ob,0,none⟩) os.length oc)) (RG.Ax {g with o:=⟨some ⟨ob,0,none⟩,oc⟩} {R with Ai:=os})):=by
   refine hid ?_;have t1:=H.out.set (i:=0) rfl 5 (.slice (some ⟨ob,0,none⟩) os.length oc);have t2:=t1.Al.take (i:=6) H6r.out os.length (by omega);have e:(D0 (NA R.Ai)).take (os.length*1)=D0 (NA os):=by rw[H0.out];simp[D0,NA]
   rw[e] at t2;exact t1.trans t2
  have td:=hid (show Value.slice g.t.p R.p.Aa.length g.t.c= .slice (some ⟨tb,0,none⟩) (ts.length+1) tc by rw[TE.out,Ht.out];simp);have UU:=hid (show ts.length < (BL g.cv R.p.Aa).length by rw[Hv.out,Ht.out,Bw _ _ _ _ ZK.out,List.length_append,Cl _ _ ZK.out];simp);have OI:Hid ((RG.Ax {g with o:=⟨some ⟨ob,0,none⟩,oc⟩} {R with Ai:=os})[ts.length+10]?=some (.row (.slice (some ⟨lb,0,none⟩) l.length lc) 110 14 l.length (Bx l))):=hid xM.out;by_cases k40:x.kind=40
  ·have hk:((x.kind:Int)==40)=true:=by rw[k40];rfl
   have K:=hid k40;clear k40;go_upto_region 13 with(first | (at_builtin;refine Ic 120 _ _ _ j0 _ #[.int .u8 41,.int .i64 0,.string ⟨#[]⟩,.bool false,.int .i64 0,.bool false,.int .i64 0,.bool false,.int .i64 0,.int .i64 0,.int .i64 0,.int .i64 0,.int .i64 0,.int .i64 0] _ w.heap.size (by simp) S.out.Al (k:=ts.length+10) OI.out (by rfl) (by rfl) Tryz.underlying72 hj I9 EK JW rfl (by omega) (by rfl) (by rfl) rfl (by simp[Value.oneCell']) (by unfold maxLen;omega) (by omega) ?_;intro g6 Bb w6 AI _))
   rw[show Bx l++(#[.int .u8 41,.int .i64 0,.string ⟨#[]⟩,.bool false,.int .i64 0,.bool false,.int .i64 0,.bool false,.int .i64 0,.int .i64 0,.int .i64 0,.int .i64 0,.int .i64 0,.int .i64 0]:Array Value).toList=Bx (l++[Nd.of 41]) from FK l (Nd.of 41)] at AI;obtain⟨qc,qf,ql⟩:=BP (AI.Al.row (I0 OI.out));have qv:∃v,w6.cell? ⟨g6,A5*14+11,none⟩=some v:=⟨_,qc _ (by rw[El];simp;omega)⟩;obtain⟨qv,qv1⟩:=qv;replace qf:=qf (A5*14+11);have r0:=(AI.Al.AP (i:=0) rfl).cell 0;have r1:=(AI.Al.AP (i:=1) rfl).cell 0;obtain⟨tcl,tf,tl⟩:=BP (AI.Al.row (i:=7) uz.out);have tv:∃v,w6.cell? ⟨tb,ts.length,none⟩=some v:=⟨_,tcl ts.length UU.out⟩;obtain⟨tv,tv1⟩:=tv;replace tf:=tf ts.length;have m1:=Gm AI.Al (i:=0) (j:=ts.length+10) rfl (I0 OI.out) (by omega);have m2:=Gm AI.Al (i:=1) (j:=ts.length+10) rfl (I0 OI.out) (by omega);have m3:g6≠tb:=Vs AI.Al (i:=ts.length+10) (j:=7) (I0 OI.out) uz.out (by omega);rw[td.out] at r1;have rl0:=(AI.Al.AP (i:=0) rfl).lt;have rl1:=(AI.Al.AP (i:=1) rfl).lt;have KS:=hid AI;clear AI qc tcl Cp A6 CR Bt Bi CM BQ Xa Vy Gb rM n1 n2 n3 n4 kZ kY lh gQ gC gW;go_wp2;go_ret;have hlen:(l++[Nd.of 41]).length=l.length+1:=by simp
   have vP:(l++[Nd.of 41]).getD A5 (.of 0)=x:=by rw[←Hx.out];simp[List.getD_eq_getElem?_getD,List.getElem?_append_left Fh]
   have AI:=KS.out;rw[←hlen] at AI;have hm:=Pl (g:={g with o:=⟨some ⟨ob,0,none⟩,oc⟩}) (R:={R with Ai:=os}) (m:=l++[Nd.of 41]) (A5:=A5) (c:=c) Hv.out Ht.out ZK.out (by simp;omega) OI.out td.out AI;have hr:R.LG= .ok (RS.Bs {R with Ai:=os} ((l++[Nd.of 41]).set A5 {(l++[Nd.of 41]).getD A5 (.of 0) with C2:=((l++[Nd.of 41]).length:Int)})):=by rw[Bg.out];simp[K.out]
   rw[hr];refine⟨rfl,{g with cv:=vs++[⟨some ⟨g6,0,none⟩,Bb⟩],o:=⟨some ⟨ob,0,none⟩,oc⟩},rfl,Lt (R:={R with Ai:=os}) Hv.out Ht.out ⟨HL.out.cl,HL.out.dl,HL.out.ql,HL.out.tl,HL.out.fl,HL.out.zl,HL.out.ll⟩ _ _ _,?_⟩;have hq:=S.out.trans hm;rw[hlen] at hq⊢;exact hq
  ·have hk:((x.kind:Int)==40)=false:=by rw[beq_eq_false_iff_ne];omega
   by_cases k108:x.kind=108
   ·have Sk:((x.kind:Int)==108)=true:=by rw[k108];rfl
    have K:=hid k108;clear k108 k40;have mj:IntKind.i64.wrap ((A5:Int)+1)=(A5:Int)+1:=IntWalk.i64_in _ (by omega);go_upto_region 13 with(first | (at_builtin;refine Ic 120 _ _ _ j0 _ #[.int .u8 98,.int .i64 0,.string ⟨#[]⟩,.bool false,.int .i64 0,.bool false,.int .i64 0,.bool false,.int .i64 0,.int .i64 0,.int .i64 0,.int .i64 ((A5:Int)+1),.int .i64 0,.int .i64 x.Aj] _ w.heap.size (by simp) S.out.Al (k:=ts.length+10) OI.out (by rfl) (by rfl) Tryz.underlying72 hj I9 EK JW rfl (by omega) (by rfl) (by rfl) rfl (by simp[Value.oneCell']) (by unfold maxLen;omega) (by omega) ?_;intro g6 Bb w6 AI _))
    rw[show Bx l++(#[.int .u8 98,.int .i64 0,.string ⟨#[]⟩,.bool false,.int .i64 0,.bool false,.int .i64 0,.bool false,.int .i64 0,.int .i64 0,.int .i64 0,.int .i64 ((A5:Int)+1),.int .i64 0,.int .i64 x.Aj]:Array Value).toList=Bx (l++[({Nd.of 98 with C2:=(A5:Int)+1,Aj:=x.Aj}:Nd)]) from FK l ({Nd.of 98 with C2:=(A5:Int)+1,Aj:=x.Aj}:Nd)] at AI;obtain⟨qc,qf,ql⟩:=BP (AI.Al.row (I0 OI.out));have qv:∃v,w6.cell? ⟨g6,A5*14+11,none⟩=some v:=⟨_,qc _ (by rw[El];simp;omega)⟩;obtain⟨qv,qv1⟩:=qv;replace qf:=qf (A5*14+11);have r0:=(AI.Al.AP (i:=0) rfl).cell 0;have r1:=(AI.Al.AP (i:=1) rfl).cell 0;obtain⟨tcl,tf,tl⟩:=BP (AI.Al.row (i:=7) uz.out);have tv:∃v,w6.cell? ⟨tb,ts.length,none⟩=some v:=⟨_,tcl ts.length UU.out⟩;obtain⟨tv,tv1⟩:=tv;replace tf:=tf ts.length;have m1:=Gm AI.Al (i:=0) (j:=ts.length+10) rfl (I0 OI.out) (by omega);have m2:=Gm AI.Al (i:=1) (j:=ts.length+10) rfl (I0 OI.out) (by omega);have m3:g6≠tb:=Vs AI.Al (i:=ts.length+10) (j:=7) (I0 OI.out) uz.out (by omega);rw[td.out] at r1;have rl0:=(AI.Al.AP (i:=0) rfl).lt;have rl1:=(AI.Al.AP (i:=1) rfl).lt;have KS:=hid AI;clear AI qc tcl Cp A6 CR Bt Bi CM BQ Xa Vy Gb rM n1 n2 n3 n4 kZ kY lh gQ gC gW;go_wp2;go_ret;have hlen:(l++[({Nd.of 98 with C2:=(A5:Int)+1,Aj:=x.Aj}:Nd)]).length=l.length+1:=by simp
    have vP:(l++[({Nd.of 98 with C2:=(A5:Int)+1,Aj:=x.Aj}:Nd)]).getD A5 (.of 0)=x:=by rw[←Hx.out];simp[List.getD_eq_getElem?_getD,List.getElem?_append_left Fh]
    have AI:=KS.out;rw[←hlen] at AI;have hm:=Pl (g:={g with o:=⟨some ⟨ob,0,none⟩,oc⟩}) (R:={R with Ai:=os}) (m:=l++[({Nd.of 98 with C2:=(A5:Int)+1,Aj:=x.Aj}:Nd)]) (A5:=A5) (c:=c) Hv.out Ht.out ZK.out (by simp;omega) OI.out td.out AI;have hr:R.LG= .ok (RS.Bs {R with Ai:=os} ((l++[({Nd.of 98 with C2:=(A5:Int)+1,Aj:=x.Aj}:Nd)]).set A5 {(l++[({Nd.of 98 with C2:=(A5:Int)+1,Aj:=x.Aj}:Nd)]).getD A5 (.of 0) with C2:=((l++[({Nd.of 98 with C2:=(A5:Int)+1,Aj:=x.Aj}:Nd)]).length:Int)})):=by rw[Bg.out];simp[K.out,Hx.out]
    rw[hr];refine⟨rfl,{g with cv:=vs++[⟨some ⟨g6,0,none⟩,Bb⟩],o:=⟨some ⟨ob,0,none⟩,oc⟩},rfl,Lt (R:={R with Ai:=os}) Hv.out Ht.out ⟨HL.out.cl,HL.out.dl,HL.out.ql,HL.out.tl,HL.out.fl,HL.out.zl,HL.out.ll⟩ _ _ _,?_⟩;have hq:=S.out.trans hm;rw[hlen] at hq⊢;exact hq
   ·have Sk:((x.kind:Int)==108)=false:=by rw[beq_eq_false_iff_ne];omega
    have K:=hid k108;have K4:=hid k40;clear k108 k40;go_upto_region 13 with fail
    obtain⟨qc,qf,ql⟩:=BP (S.out.Al.row OI.out);have qv:∃v,(w.setCell ⟨g.rb,5,none⟩ (.slice (some ⟨ob,0,none⟩) os.length oc)).cell? ⟨lb,A5*14+11,none⟩=some v:=⟨_,qc _ (by rw[El];omega)⟩;obtain⟨qv,qv1⟩:=qv;have rN:∃v,w.cell? ⟨lb,A5*14+11,none⟩=some v:=⟨_,MS.out 11 (by omega)⟩;obtain⟨v11,rN⟩:=rN;clear qc qf ql qv1;go_wp2;go_ret;have hm:=Zn (g:={g with o:=⟨some ⟨ob,0,none⟩,oc⟩}) (R:={R with Ai:=os}) (A5:=A5) (c:=c) Hv.out Ht.out ZK.out Fh OI.out td.out S.out.Al;have hr:R.LG= .ok (RS.Bs {R with Ai:=os} (l.set A5 {l.getD A5 (.of 0) with C2:=(l.length:Int)})):=by rw[Bg.out];simp only[K.out,K4.out,if_false,Hx.out]
    rw[hr];exact⟨rfl,{g with cv:=vs++[⟨some ⟨lb,0,none⟩,lc⟩],o:=⟨some ⟨ob,0,none⟩,oc⟩},rfl,Lt (R:={R with Ai:=os}) Hv.out Ht.out ⟨HL.out.cl,HL.out.dl,HL.out.ql,HL.out.tl,HL.out.fl,HL.out.zl,HL.out.ll⟩ _ _ _,S.out.trans hm⟩
theorem eM {l:Ws} (hl:Bz l=true) (BQ:l≠[]) (hk:bs (wd l 0)=AN):l.length=2∨(l.length=3∧Fz (bs (wd l 2)) 6=true):=by
 obtain⟨w,r,rfl⟩:=List.exists_cons_of_ne_nil BQ;have QQ:bs w=AN:=hk;simp[Bz,ET,F1,GP,QQ,AN] at hl;rcases hl.2 with h | h
 ·left;simp;omega
 ·right;exact⟨by simp;omega,by rw[GP];exact h.2⟩
theorem Wt (l:Ws) (lw:Value) (w:World) (g:RG) (R:RS) (n:Nat) (h:AK w (g.Ax R)) (hL:Dl g R) (hI:KL R n)
  (hw:Sl w (fun b=>b∉En (g.Ax R)) lw (AY l)) (hs:∀a,a∈l→a.size≤maxLen) (BQ:l≠[]) (Ox:Bz l=true) (hk:bs (wd l 0)=AN):
  Calls Tryz.prog 37 #[.pointer (some ⟨g.rb,0,none⟩),lw] w (Fe (R.row l) g R w):=by
 have hl:=eM Ox BQ hk;have AU:R.row l=R.DU l:=by unfold RS.row;simp[hk]
 obtain⟨wb,woff,wcap,rfl,hd⟩:=Fa hw (by omega);have KO:=Yt l _ w g R n h hL hI hw hs hl;have c0:=hd.c 0 (by omega);simp only[Nat.add_zero] at c0;have q0:=BN hk;unfold AN at q0;have Pb:(0:Int) < (l.length:Int):=by omega
 obtain⟨Cp,A6,CR,Bt,Bi,CM,cQ⟩:=AG h;have cH:R.p.Aa.length≤2500:=by have:=hI.bn;have:=hI.nn;omega
 have Gb:=hd.n0;have Kc:=hd.n1;have EA:=hd.lt;unfold maxLen at Kc;have ti:=hid KO;have Bg:=hid AU;clear KO AU hw hl hk Ox hd h hL hI hs BQ;go_enter Tryz.func37,Tryz.ntmps37;go_wp2_with fail;refine ti.out.mono ?_;intro e w' he;rw[←Bg.out] at he;unfold Fe at he;cases hr:R.row l with
 | error c=>
  rw[hr] at he;obtain⟨rfl,hm⟩:=he;have Hr:=hid hr;have Hm:=hid hm;clear hr hm Cp A6 CR Bt c0;go_wp2;go_ret;rw[Hr.out];exact⟨rfl,Hm.out⟩
 | ok R'=>
  rw[hr] at he;obtain⟨rfl,hm⟩:=he;have Hr:=hid hr;have Hm:=hid hm;clear hr hm Cp A6 CR Bt c0;go_wp2;go_ret;rw[Hr.out];exact⟨rfl,Hm.out⟩
theorem eT (l:Ws) (lw:Value) (w:World) (g:RG) (R:RS) (n:Nat) (h:AK w (g.Ax R)) (hL:Dl g R) (hI:KL R n) (hO:Pp R)
  (hw:Sl w (fun b=>b∉En (g.Ax R)) lw (AY l)) (BQ:l≠[]) (hk:bs (wd l 0)=D7):
  Calls Tryz.prog 37 #[.pointer (some ⟨g.rb,0,none⟩),lw] w (Fe (R.row l) g R w):=by
 have hl:0 < l.length:=List.length_pos_iff.2 BQ;have AU:R.row l=R.LG:=by
  unfold RS.row;simp only[hk];rw[if_neg (by decide),if_neg (by decide),if_pos trivial]
 obtain⟨wb,woff,wcap,rfl,hd⟩:=Fa hw hl;have KO:=fk w g R n h hL hI hO;have c0:=hd.c 0 (by omega);simp only[Nat.add_zero] at c0;have q0:=BN hk;unfold D7 at q0;have q1:=Ar (x:=wd l 0) (k:=AN) (by rw[hk];decide);have q2:=Ar (x:=wd l 0) (k:=AE) (by rw[hk];decide);unfold AN at q1;unfold AE at q2;have Pb:(0:Int) < (l.length:Int):=by omega
 obtain⟨Cp,A6,CR,Bt,Bi,CM,cQ⟩:=AG h;have cH:R.p.Aa.length≤2500:=by have:=hI.bn;have:=hI.nn;omega
 have Gb:=hd.n0;have Kc:=hd.n1;have EA:=hd.lt;unfold maxLen at Kc;have ti:=hid KO;have Bg:=hid AU;clear KO AU hw hl hk hd h hL hI hO BQ;go_enter Tryz.func37,Tryz.ntmps37;go_wp2_with fail;refine ti.out.mono ?_;intro e w' he;rw[←Bg.out] at he;unfold Fe at he;cases hr:R.row l with
 | error c=>
  rw[hr] at he;obtain⟨rfl,hm⟩:=he;have Hr:=hid hr;have Hm:=hid hm;clear hr hm Cp A6 CR Bt c0;go_wp2;go_ret;rw[Hr.out];exact⟨rfl,Hm.out⟩
 | ok R'=>
  rw[hr] at he;obtain⟨rfl,hm⟩:=he;have Hr:=hid hr;have Hm:=hid hm;clear hr hm Cp A6 CR Bt c0;go_wp2;go_ret;rw[Hr.out];exact⟨rfl,Hm.out⟩
theorem Vf (l:Ws) (lw:Value) (w:World) (g:RG) (R:RS) (n:Nat) (h:AK w (g.Ax R)) (hI:KL R n) (hO:Pp R)
  (hw:Sl w (fun b=>b∉En (g.Ax R)) lw (AY l)) (BQ:l≠[]) (hk:bs (wd l 0)=AE) (ho:R.Ai≠[]):
  Calls Tryz.prog 37 #[.pointer (some ⟨g.rb,0,none⟩),lw] w (Fe (R.row l) g R w):=by
 have hl:0 < l.length:=List.length_pos_iff.2 BQ;have AU:R.row l= .error 3:=by
  unfold RS.row;simp only[hk];rw[if_neg (by decide),if_pos trivial,if_pos ho]
 obtain⟨wb,woff,wcap,rfl,hd⟩:=Fa hw hl;have c0:=hd.c 0 (by omega);simp only[Nat.add_zero] at c0;have q0:=BN hk;unfold AE at q0;have q1:=Ar (x:=wd l 0) (k:=AN) (by rw[hk];decide);unfold AN at q1;have Pb:(0:Int) < (l.length:Int):=by omega
 have tW:(0:Int) < (R.Ai.length:Int):=by have:=List.length_pos_iff.2 ho;omega
 obtain⟨Cp,A6,CR,Bt,Bi,CM,cQ⟩:=AG h;have cH:R.p.Aa.length≤2500:=by have:=hI.bn;have:=hI.nn;omega
 have Gb:=hd.n0;have Kc:=hd.n1;have EA:=hd.lt;unfold maxLen at Kc;have Bg:=hid AU;clear AU hw hl hk hd h hI hO BQ ho;go_enter Tryz.func37,Tryz.ntmps37;go_wp2_with fail;go_ret;rw[Bg.out];exact⟨rfl,Av.refl _ _⟩
end Go.Proofs.YtpdfifdlhpmofaaGreatDoor
