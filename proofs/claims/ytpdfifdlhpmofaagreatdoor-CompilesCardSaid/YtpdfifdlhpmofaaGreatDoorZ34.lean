/-
  Part 34 of the proof, packed by program out of R14, R15h.
-/
import Derived.Test.YtpdfifdlhpmofaaGreatDoorZ31
import Derived.Deep.OwnRows
import Derived.Test.YtpdfifdlhpmofaaGreatDoorZ33
import Derived.Test.YtpdfifdlhpmofaaGreatDoorZ15
set_option linter.unusedVariables false
set_option linter.unusedSimpArgs false
set_option maxHeartbeats 3200000
set_option maxRecDepth 100000
namespace Go.Proofs.YtpdfifdlhpmofaaGreatDoor
open Go.RowKit
open Go.Lib (hid)
theorem gv:(Tryz.prog.info? 72).map (fun i=>(i.zero,i.size,i.bytes))=some (some (.slice none 0 0),1,24):=by kernel_rfl
theorem kU:(Tryz.prog.info? 51).map (fun i=>(i.zero,i.size,i.bytes))=some (some (.slice none 0 0),1,24):=by kernel_rfl
theorem Uu:(Tryz.prog.info? 4).map (fun i=>(i.zero,i.size,i.bytes))=some (some (.bool false),1,1):=by kernel_rfl
theorem Ad.ZF {w:World} {A B:List Ob} {o:Ob} (h:AK w (A++B)) (ho:o.holds w) (hf:o.fp=[]):Ad w (A++B) w (A++o::B):=by
 have e:En (A++o::B)=En (A++B):=by rw[Bd,FB,hf,Bd];rfl
 refine⟨⟨fun p hp=> ?_,by rw[e];exact h.Kw⟩,Av.refl _ _,fun b hb=> .inl (by rw[e] at hb;exact hb)⟩;rcases List.mem_append.1 hp with hp | hp
 ·exact h.holds p (List.mem_append_left _ hp)
 ·rcases List.mem_cons.1 hp with rfl | hp
  ·exact ho
  ·exact h.holds p (List.mem_append_right _ hp)
theorem j6 {w:World} {T:List Ob} {cv:List SG} {ts:List (List Nd)} {B:List Ob} (hl:cv.length=ts.length) (h:AK w (T++(List.zipWith Dv cv ts++B))):
  Ad w (T++(List.zipWith Dv cv ts++B)) w (T++(List.zipWith Dv (cv++[⟨none,0⟩]) (ts++[[]])++B)):=by
 rw[←List.append_assoc] at h;have:=Ad.ZF (A:=T++List.zipWith Dv cv ts) (B:=B) (o:=Dv ⟨none,0⟩ []) h (Db _ _ _ _) rfl;rw[List.zipWith_append hl];simpa using this
theorem jY {w:World} {L:List Ob} {b n:Nat} (hn:n≤maxLen) (h:AK w (L++[.AP b (Array.replicate n (.bool false)) 4])):Ad w (L++[.AP b (Array.replicate n (.bool false)) 4]) w (L++[CF ⟨some ⟨b,0,none⟩,n⟩ (List.replicate n false)]):=by
 have k:=h.swap (i:=L.length) (o':=CF ⟨some ⟨b,0,none⟩,n⟩ (List.replicate n false)) (o:= .AP b (Array.replicate n (.bool false)) 4) (by simp) (Av.refl _ _) ?_ (by simp[CF,Ob.fp,Value.ownBlock]) (fun x hx=> .inl (by simpa[CF,Ob.fp,Value.ownBlock] using hx))
 ·simpa using k
 ·have hb:=h.AP (i:=L.length) (b:=b) (c:=Array.replicate n (.bool false)) (T:=4) (by simp);refine⟨by simp[GG],.inr ⟨b,n,Array.replicate n (.bool false),by simp,Nat.zero_le _,hb,by simp,hn,by simp,by simp[GG]⟩⟩
theorem Ve (l:Ws) (lw:Value) (w:World) (g:RG) (R:RS) (n:Nat) (h:AK w (g.Ax R)) (hL:Dl g R) (hI:KL R n)
  (hw:Sl w (fun b=>b∉En (g.Ax R)) lw (AY l)) (BQ:l≠[]) (Ox:Bz l=true) (hk:bs (wd l 0)=AE) (ho:R.Ai=[]):
  Calls Tryz.prog 37 #[.pointer (some ⟨g.rb,0,none⟩),lw] w (Fe (R.row l) g R w):=by
 have hl:0 < l.length:=List.length_pos_iff.2 BQ;have AU:R.row l= .ok {R with p:={R.p with Aa:=R.p.Aa++[[]],AD:=R.p.AD++[List.replicate R.p.cells.toNat false],Cu:=R.p.Cu++[false]},AB:=[],Am:=0}:=by
  unfold RS.row;simp only[hk];rw[if_neg (by decide),if_pos trivial,if_neg (fun h=>h ho)]
 obtain⟨j0,hj,I9,EK,JW⟩:=info_parts gv;obtain⟨i0,hi,ad,mi,mh⟩:=info_parts kU;obtain⟨k0,Tw,JB,DP,Ef⟩:=info_parts Uu;obtain⟨wb,woff,wcap,rfl,hd⟩:=Fa hw hl;have c0:=hd.c 0 (by omega);simp only[Nat.add_zero] at c0;have q0:=BN hk;unfold AE at q0;have q1:=Ar (x:=wd l 0) (k:=AN) (by rw[hk];decide);unfold AN at q1;have Pb:(0:Int) < (l.length:Int):=by omega
 obtain⟨Cp,A6,CR,Bt,Bi,CM,cQ⟩:=AG h;have cH:R.p.Aa.length≤2500:=by have:=hI.bn;have:=hI.nn;omega
 have nY:R.p.AD.length≤2500:=by rw[hL.tl];exact cH
 have tT:R.p.Cu.length≤2500:=by rw[hL.ql];exact cH
 have tW:¬(0:Int) < (R.Ai.length:Int):=by rw[ho];decide
 obtain⟨cn,si⟩:∃m:Nat,R.p.cells=m:=⟨R.p.cells.toNat,by have:=hI.c0;omega⟩;have MJ:cn≤15000:=by have:=hI.c1;have:=hI.bn;have:=hI.nn;omega
 have jL:∀W:World,(Instr.makeSlice 51 (.int .i64 (cn:Int)) (.int .i64 (cn:Int))).run Tryz.prog W= .ok (.slice (some ⟨W.heap.size,0,none⟩) cn cn) (W.alloc (.cells (Array.replicate cn (.bool false)) 4)):=fun W=>by
  rw[run_make_row' 51 4 (.bool false) 1 Tryz.underlying51 Uu rfl .i64 .i64 cn (by omega) (by omega) W];congr 3;apply Array.ext
  ·simp[madeCells]
  ·intro i h1 h2;simp[madeCells,Nat.mod_one]
 have Gb:=hd.n0;have Kc:=hd.n1;have EA:=hd.lt;unfold maxLen at Kc;have Bg:=hid AU;have H:=hid h;have HL:=hid hL;have xS:=hid si;have zB:=hid jL;have Ho:=hid ho;clear AU hw hl hk hd h hI BQ ho hL si jL Ox;go_enter Tryz.func37,Tryz.ntmps37;go_upto_region 8 with fail
 refine Ao (l:=[(0,true),(1,true),(2,true),(3,true),(4,true),(5,true),(6,true),(7,true),(8,true),(9,true),(10,true),(11,false),(12,false),(13,true),(14,true),(15,false)]) (fun W=>W.cell? ⟨g.rb,0,none⟩=some (.pointer (some ⟨g.pb,0,none⟩))∧W.cell? ⟨g.pb,0,none⟩=some (.slice g.t.p R.p.Aa.length g.t.c)) 15 (by kernel_rfl) (by kernel_rfl) (by kernel_rfl) (by kernel_rfl) (by kernel_rfl) (fun c a d v w h=>by cases d <;>exact h) ?_ ?_
 ·exact⟨by go_simp,by go_simp⟩
 repeat
  refine Ak (v:= ?_) rfl rfl rfl (fun W hW=> ?_) ?_;rotate_left
  ·obtain⟨s1,s2⟩:=hW;go_simp;rfl
  simp only[Bo]
 refine Ab rfl (fun K hK=> ?_);go_simp;refine hK _ _ (fun _=>⟨by go_simp,by go_simp⟩) ?_;refine Ab rfl (fun K hK=> ?_);refine BY 24 _ _ _ j0 _ #[.slice none 0 0] _ H.out (k:=7) rfl (by rfl) (by rfl) Tryz.underlying50 hj I9 EK JW rfl (by omega) (by rfl) (by rfl) rfl (by simp[Value.oneCell']) (by unfold maxLen;omega) (by omega) ?_;intro g6 Bb w6 AI _;have z1:w6.cell? ⟨g.rb,0,none⟩=some (.pointer (some ⟨g.pb,0,none⟩)):=(AI.Al.AP (i:=0) rfl).cell 0;have z2:w6.cell? ⟨g.pb,0,none⟩=some (.slice g.t.p R.p.Aa.length g.t.c):=(AI.Al.AP (i:=1) rfl).cell 0;have zf:w6.frozen? ⟨g.pb,0,none⟩=false:=(AI.Al.AP (i:=1) rfl).free 0;have zl:g.pb < w6.heap.size:=(AI.Al.AP (i:=1) rfl).lt;refine hK _ _ (fun _=>⟨z1,z2⟩) (DM rfl ?_);simp only[Bo];repeat
  refine Ak (v:= ?_) rfl rfl rfl (fun W hW=> ?_) ?_;rotate_left
  ·obtain⟨s1,s2⟩:=hW;go_simp;rfl
  simp only[Bo]
 refine Ab rfl (fun K hK=> ?_);go_simp;refine hK _ _ (fun h=>absurd rfl h) ?_;simp only[A0];clear z1 z2;have t1:=AI.Al.set (i:=1) rfl 0 (.slice (some ⟨g6,0,none⟩) (R.p.Aa.length+1) Bb);have s1:Ad w (g.Ax R) (w6.setCell ⟨g.pb,0,none⟩ (.slice (some ⟨g6,0,none⟩) (R.p.Aa.length+1) Bb)) (RG.Ax {g with t:=⟨some ⟨g6,0,none⟩,Bb⟩,cv:=g.cv++[⟨none,0⟩]} {R with p:={R.p with Aa:=R.p.Aa++[[]]}}):=by
  have e:(R.p.Aa++[[]]).length=R.p.Aa.length+1:=by simp
  have e2:BL (g.cv++[⟨none,0⟩]) (R.p.Aa++[[]])=BL g.cv R.p.Aa++[.slice none 0 0]:=Bw _ _ _ _ HL.out.cl;have t2:=AI.trans t1;have t3:=t2.trans (j6 (T:=[_,_,_,_,_,_,_,_,_,_]) HL.out.cl t2.Al);unfold RG.Ax;unfold RG.Ax at t3;rw[e,e2];exact t3
 clear t1 AI Cp A6 CR Bt Bi CM cQ c0 EA zf zl;generalize w6.setCell {block:=g.pb,off:=0} (Value.slice (some {block:=g6,off:=0}) (R.p.Aa.length+1) Bb)=w1 at s1⊢;obtain⟨Cp,A6,CR,Bt,Bi,CM,BQ⟩:=AG s1.Al;have S:=hid s1;clear s1;rw[xS.out] at A6;have jL:=zB.out;go_upto_region 9 with fail
 refine Ao (l:=[(0,true),(1,true),(2,true),(3,true),(4,true),(5,true),(6,true),(7,true),(8,true),(9,true),(10,true),(11,true),(12,true),(13,true),(14,true),(15,true),(16,true),(17,true),(18,false),(19,false),(20,false),(21,true),(22,true),(23,false)]) (fun W=>W.cell? ⟨g.rb,0,none⟩=some (.pointer (some ⟨g.pb,0,none⟩))∧W.cell? ⟨g.pb,2,none⟩=some (.slice g.u.p R.p.AD.length g.u.c)∧W.cell? ⟨g.pb,1,none⟩=some (.int .i64 (cn:Int))) 23 (by kernel_rfl) (by kernel_rfl) (by kernel_rfl) (by kernel_rfl) (by kernel_rfl) (fun c a d v w h=>by cases d <;>exact h) ?_ ?_
 ·exact⟨by go_simp,by go_simp,by go_simp⟩
 repeat
  refine Ak (v:= ?_) rfl rfl rfl (fun W hW=> ?_) ?_;rotate_left
  ·obtain⟨s1,s2,s3⟩:=hW;go_simp;rfl
  simp only[Bo]
 refine Ab rfl (fun K hK=> ?_);go_simp;refine hK _ _ (fun _=>⟨by go_simp,by go_simp,by go_simp⟩) ?_;refine Ab rfl (fun K hK=> ?_);go_simp;refine hK _ _ (fun _=>⟨by go_simp,by go_simp,by go_simp⟩) ?_;clear jL;have a1:=Ad.new S.out.Al (.cells (Array.replicate cn (.bool false)) 4);have a2:=a1.trans (Ad.alloc a1.Al (.cells #[.slice (some ⟨w1.heap.size,0,none⟩) cn cn] 51));have a3:=a2.trans (Ad.drew a2.Al);refine Ab rfl (fun K hK=> ?_);refine Rj 24 _ _ _ i0 _ #[.slice (some ⟨w1.heap.size,0,none⟩) cn cn] _ (w1.heap.size+1) a3.Al (k:=8) rfl (SO w1 _ _) (by rfl) (by rfl) Tryz.underlying44 hi ad mi mh rfl (by omega) (by rfl) (by rfl) rfl (by simp[Value.oneCell']) (show R.p.AD.length+1≤maxLen by unfold maxLen;omega) (show(R.p.AD.length+1)*24≤_ by omega) ?_;intro g7 OE w7 AI _;have z1:w7.cell? ⟨g.rb,0,none⟩=some (.pointer (some ⟨g.pb,0,none⟩)):=(AI.Al.AP (i:=0) rfl).cell 0;have z2:w7.cell? ⟨g.pb,2,none⟩=some (.slice g.u.p R.p.AD.length g.u.c):=(AI.Al.AP (i:=1) rfl).cell 2;have z3:w7.cell? ⟨g.pb,1,none⟩=some (.int .i64 (cn:Int)):=by rw[←xS.out];exact(AI.Al.AP (i:=1) rfl).cell 1
 have zf:w7.frozen? ⟨g.pb,2,none⟩=false:=(AI.Al.AP (i:=1) rfl).free 2;have zl:g.pb < w7.heap.size:=(AI.Al.AP (i:=1) rfl).lt;refine hK _ _ (fun _=>⟨z1,z2,z3⟩) (DM rfl ?_);simp only[Bo];repeat
  refine Ak (v:= ?_) rfl rfl rfl (fun W hW=> ?_) ?_;rotate_left
  ·obtain⟨s1,s2,s3⟩:=hW;go_simp;rfl
  simp only[Bo]
 refine Ab rfl (fun K hK=> ?_);go_simp;refine hK _ _ (fun h=>absurd rfl h) ?_;simp only[A0];clear z1 z2 z3;have t1:=AI.Al.set (i:=1) rfl 2 (.slice (some ⟨g7,0,none⟩) (R.p.AD.length+1) OE);have s2:Ad w (g.Ax R) (w7.setCell ⟨g.pb,2,none⟩ (.slice (some ⟨g7,0,none⟩) (R.p.AD.length+1) OE)) (RG.Ax {g with t:=⟨some ⟨g6,0,none⟩,Bb⟩,cv:=g.cv++[⟨none,0⟩],u:=⟨some ⟨g7,0,none⟩,OE⟩,dv:=g.dv++[⟨some ⟨w1.heap.size,0,none⟩,cn⟩]} {R with p:={R.p with Aa:=R.p.Aa++[[]],AD:=R.p.AD++[List.replicate cn false]}}):=by
  have e:(R.p.AD++[List.replicate cn false]).length=R.p.AD.length+1:=by simp
  have e2:BL (g.dv++[⟨some ⟨w1.heap.size,0,none⟩,cn⟩]) (R.p.AD++[List.replicate cn false])=BL g.dv R.p.AD++[.slice (some ⟨w1.heap.size,0,none⟩) cn cn]:=by
   rw[Bw _ _ _ _ HL.out.dl];simp
  have e3:List.zipWith CF (g.dv++[⟨some ⟨w1.heap.size,0,none⟩,cn⟩]) (R.p.AD++[List.replicate cn false])=List.zipWith CF g.dv R.p.AD++[CF ⟨some ⟨w1.heap.size,0,none⟩,cn⟩ (List.replicate cn false)]:=by
   rw[List.zipWith_append HL.out.dl];rfl
  have t2:=S.out.trans (a3.trans (AI.trans t1));have t3:=t2.trans (jY (L:=[_,_,_,_,_,_,_,_,_,_]++(List.zipWith Dv (g.cv++[⟨none,0⟩]) (R.p.Aa++[[]])++List.zipWith CF g.dv R.p.AD)) (b:=w1.heap.size) (n:=cn) (by unfold maxLen;omega) t2.Al);rw[List.append_assoc,List.append_assoc,←e3] at t3;unfold RG.Ax;unfold RG.Ax at t3;rw[e,e2];exact t3
 clear t1 AI a1 a2 a3 Cp A6 CR Bt Bi CM BQ zf zl S;have Y5:w1.heap.size=w1.heap.size:=rfl;generalize w1.heap.size=nb at s2;generalize w7.setCell {block:=g.pb,off:=2} (Value.slice (some {block:=g7,off:=0}) (R.p.AD.length+1) OE)=w2 at s2⊢;obtain⟨Cp,A6,CR,Bt,Bi,CM,BQ⟩:=AG s2.Al;have S:=hid s2;clear s2;go_upto_region 10 with fail
 refine Ao (l:=[(0,true),(1,true),(2,true),(3,true),(4,true),(5,true),(6,true),(7,true),(8,true),(9,true),(10,true),(11,false),(12,false),(13,true),(14,true),(15,false)]) (fun W=>W.cell? ⟨g.rb,0,none⟩=some (.pointer (some ⟨g.pb,0,none⟩))∧W.cell? ⟨g.pb,3,none⟩=some (.slice g.q.p R.p.Cu.length g.q.c)) 15 (by kernel_rfl) (by kernel_rfl) (by kernel_rfl) (by kernel_rfl) (by kernel_rfl) (fun c a d v w h=>by cases d <;>exact h) ?_ ?_
 ·exact⟨by go_simp,by go_simp⟩
 repeat
  refine Ak (v:= ?_) rfl rfl rfl (fun W hW=> ?_) ?_;rotate_left
  ·obtain⟨s1,s2⟩:=hW;go_simp;rfl
  simp only[Bo]
 refine Ab rfl (fun K hK=> ?_);go_simp;refine hK _ _ (fun _=>⟨by go_simp,by go_simp⟩) ?_;refine Ab rfl (fun K hK=> ?_);refine BY 1 _ _ _ k0 _ #[.bool false] _ S.out.Al (k:=9) rfl (by rfl) (by rfl) Tryz.underlying51 Tw JB DP Ef rfl (by omega) (by rfl) (by rfl) rfl (by simp[Value.oneCell']) (show R.p.Cu.length+1≤maxLen by unfold maxLen;omega) (show(R.p.Cu.length+1)*1≤_ by omega) ?_;intro g8 QA w8 AI _;rw[VU] at AI;have z1:w8.cell? ⟨g.rb,0,none⟩=some (.pointer (some ⟨g.pb,0,none⟩)):=(AI.Al.AP (i:=0) rfl).cell 0;have z2:w8.cell? ⟨g.pb,3,none⟩=some (.slice g.q.p R.p.Cu.length g.q.c):=(AI.Al.AP (i:=1) rfl).cell 3;have zf:w8.frozen? ⟨g.pb,3,none⟩=false:=(AI.Al.AP (i:=1) rfl).free 3;have zl:g.pb < w8.heap.size:=(AI.Al.AP (i:=1) rfl).lt;refine hK _ _ (fun _=>⟨z1,z2⟩) (DM rfl ?_);simp only[Bo];repeat
  refine Ak (v:= ?_) rfl rfl rfl (fun W hW=> ?_) ?_;rotate_left
  ·obtain⟨s1,s2⟩:=hW;go_simp;rfl
  simp only[Bo]
 refine Ab rfl (fun K hK=> ?_);go_simp;refine hK _ _ (fun h=>absurd rfl h) ?_;simp only[A0];clear z1 z2;have t1:=AI.Al.set (i:=1) rfl 3 (.slice (some ⟨g8,0,none⟩) (R.p.Cu.length+1) QA);have s3:Ad w (g.Ax R) (w8.setCell ⟨g.pb,3,none⟩ (.slice (some ⟨g8,0,none⟩) (R.p.Cu.length+1) QA)) (RG.Ax {g with t:=⟨some ⟨g6,0,none⟩,Bb⟩,cv:=g.cv++[⟨none,0⟩],u:=⟨some ⟨g7,0,none⟩,OE⟩,dv:=g.dv++[⟨some ⟨nb,0,none⟩,cn⟩],q:=⟨some ⟨g8,0,none⟩,QA⟩} {R with p:={R.p with Aa:=R.p.Aa++[[]],AD:=R.p.AD++[List.replicate cn false],Cu:=R.p.Cu++[false]}}):=by
  have e:(R.p.Cu++[false]).length=R.p.Cu.length+1:=by simp
  have:=S.out.trans (AI.trans t1);unfold RG.Ax;unfold RG.Ax at this;rw[e];exact this
 clear t1 AI Cp A6 CR Bt Bi CM BQ S zf zl;generalize w8.setCell {block:=g.pb,off:=3} (Value.slice (some {block:=g8,off:=0}) (R.p.Cu.length+1) QA)=w3 at s3⊢;obtain⟨Cp,A6,CR,Bt,Bi,CM,BQ⟩:=AG s3.Al;have S:=hid s3;clear s3;go_wp2_with fail;go_ret;rw[Bg.out];have t1:=S.out.Al.set (i:=0) rfl 4 (.slice none 0 0);have t2:=t1.Al.set (i:=0) rfl 6 (.int .i64 0);have t3:=t2.Al.swap (i:=5) (o':=Jn ⟨none,0⟩ []) rfl (Av.refl _ _) (Db _ _ _ _) (by simp[Jn,Ob.fp,Value.ownBlock]) (fun b hb=>by simp[Jn,Ob.fp,Value.ownBlock] at hb);have t4:=S.out.trans (t1.trans (t2.trans t3));have ecn:R.p.cells.toNat=cn:=by rw[xS.out];simp
 rw[ecn];refine⟨rfl,{g with l:=⟨none,0⟩,t:=⟨some ⟨g6,0,none⟩,Bb⟩,cv:=g.cv++[⟨none,0⟩],u:=⟨some ⟨g7,0,none⟩,OE⟩,dv:=g.dv++[⟨some ⟨nb,0,none⟩,cn⟩],q:=⟨some ⟨g8,0,none⟩,QA⟩},rfl,⟨by simp[HL.out.cl],by simp[HL.out.dl],by simp[HL.out.ql],by simp[HL.out.tl],HL.out.fl,HL.out.zl,Nat.zero_le _⟩,?_⟩;exact t4
theorem WU {r:RS} {x:Nd} {n:ByteArray} {c:Int} (h:r.I7 x n= .error c):c=4∨c=5:=by
 unfold RS.I7 at h;by_cases h1:0≤Bf r.Aw n
 ·rw[if_pos h1] at h;injection h with h;exact .inl h.symm
 ·rw[if_neg h1] at h;by_cases h2:0≤Bf r.AB n
  ·rw[if_pos h2] at h;cases h
  ·rw[if_neg h2] at h;by_cases h3:r.AB.length=4
   ·rw[if_pos h3] at h;injection h with h;exact .inr h.symm
   ·rw[if_neg h3] at h;cases h
theorem Oq {α:Type} {b:Bool} {X:Except Int α} {c:Int} (h:(if b=true then X else .error 4)= .error c) (k:X= .error c→c=4∨c=5):c=4∨c=5:=by
 cases b with
 | false=>injection h with h;exact .inl h.symm
 | true=>exact k h
theorem RC {r:RS} {l:Ws} {c:Int} (h:r.node l= .error c):c=4∨c=5:=by
 unfold RS.node at h;simp only[] at h;split at h
 ·split at h <;>exact Oq h WU
 ·split at h
  ·exact Oq h WU
  ·split at h
   ·exact Oq h (fun h=>by cases h)
   ·split at h
    ·exact Oq h (fun h=>by cases h)
    ·split at h
     ·exact Oq h (fun h=>by cases h)
     ·split at h
      ·cases h
      ·split at h <;>cases h
theorem ca {r q:RS} {x y:Nd} {n:ByteArray} (h:r.I7 x n= .ok (q,y)):q.Ai=r.Ai∧q.p=r.p∧q.Am=r.Am:=by
 unfold RS.I7 at h;by_cases h1:0≤Bf r.Aw n
 ·rw[if_pos h1] at h;cases h
 ·rw[if_neg h1] at h;by_cases h2:0≤Bf r.AB n
  ·rw[if_pos h2] at h;cases h;exact⟨rfl,rfl,rfl⟩
  ·rw[if_neg h2] at h;by_cases h3:r.AB.length=4
   ·rw[if_pos h3] at h;cases h
   ·rw[if_neg h3] at h;cases h;exact⟨rfl,rfl,rfl⟩
theorem RW {α:Type} {b:Bool} {X:Except Int α} {z:α} {c:Int} {P:Prop} (h:(if b=true then X else .error c)= .ok z) (k:X= .ok z→P):P:=by
 cases b with
 | false=>cases h
 | true=>exact k h
theorem Ru (r:RS) (x:Nd) (n:ByteArray) (w:Ws):(r.cell x n w).1.Ai=r.Ai∧(r.cell x n w).1.p.Aa=r.p.Aa∧(r.cell x n w).1.Am=r.Am:=by
 unfold RS.cell;simp only[];repeat' (first | exact⟨rfl,rfl,rfl⟩ | split)
theorem Ug {r q:RS} {l:Ws} {y:Nd} (h:r.node l= .ok (q,y)):q.Ai=r.Ai∧q.p.Aa=r.p.Aa∧q.Am=r.Am:=by
 have hm:∀{r':RS} {x:Nd},r'.I7 x (wd l 1)= .ok (q,y)→r'.Ai=r.Ai∧r'.p.Aa=r.p.Aa∧r'.Am=r.Am→q.Ai=r.Ai∧q.p.Aa=r.p.Aa∧q.Am=r.Am:=fun h1 h2=>by
  obtain⟨a,b,c⟩:=ca h1;exact⟨a.trans h2.1,(congrArg RP.Aa b).trans h2.2.1,c.trans h2.2.2⟩
 unfold RS.node at h;simp only[] at h;split at h
 ·split at h <;>exact RW h (fun h=>hm h ⟨rfl,rfl,rfl⟩)
 ·split at h
  ·exact RW h (fun h=>hm h (Ru _ _ _ _))
  ·split at h
   ·refine RW h (fun h=> ?_);cases h;exact Ru _ _ _ _
   ·split at h
    ·exact RW h (fun h=>by cases h;exact⟨rfl,rfl,rfl⟩)
    ·split at h
     ·exact RW h (fun h=>by cases h;exact⟨rfl,rfl,rfl⟩)
     ·split at h
      ·cases h;exact⟨rfl,rfl,rfl⟩
      ·split at h <;>(cases h;exact⟨rfl,rfl,rfl⟩)
theorem Ad.mT {w w4 w5:World} {L L':List Ob} (S:Ad w L w4 L') {b:Nat} (hb:b∉En L') (hw:w.heap.size≤b) (k:Av [b] w4 w5):Ad w L w5 L':=
 ⟨S.Al.Bh k (fun x hx hm=>by rw[List.mem_singleton] at hm;exact hb (hm▸hx)),S.Bh.trans k (fun x hx=>by rw[List.mem_singleton] at hx;exact .inr (hx▸hw)),S.fp⟩
theorem Ba.eP {w:World} {L:List Ob} {b:Nat} {c:Array Value} {T:TypeId} (K:Ba w L [(b,.cells c T (0,0))]) (i:Nat) (v:Value):Ba (w.setCell ⟨b,i,none⟩ v) L [(b,.cells (c.setIfInBounds i v) T (0,0))]:=
 ⟨fun b' o hb=>by rw[List.mem_singleton] at hb;cases hb;exact BR.set (K.heap _ _ (List.mem_singleton.2 rfl)) i v,fun b' o hb=>by rw[List.mem_singleton] at hb;cases hb;exact K.out _ _ (List.mem_singleton.2 rfl)⟩
theorem K6 {W w6:World} {g:RG} {R:RS} {vs:List SG} {c:SG} {ts:List (List Nd)} {l m:List Nd} {tb tc Bb g6:Nat} (hv:g.cv=vs++[c]) (ht:R.p.Aa=ts++[l]) (hl:vs.length=ts.length)
  (NT:Value.slice g.t.p R.p.Aa.length g.t.c= .slice (some ⟨tb,0,none⟩) (ts.length+1) tc)
  (AI:Ad W (g.Ax R) w6 ((g.Ax R).set (ts.length+10) (.row (.slice (some ⟨g6,0,none⟩) m.length Bb) 110 14 m.length (Bx m)))):
  Ad W (g.Ax R) (w6.setCell ⟨tb,ts.length,none⟩ (.slice (some ⟨g6,0,none⟩) m.length Bb))
   (RG.Ax {g with cv:=vs++[⟨some ⟨g6,0,none⟩,Bb⟩]} (R.Bs m)):=by
 have h7:∀L:Ob,((g.Ax R).set (ts.length+10) L)[7]?=some (.row (.slice (some ⟨tb,0,none⟩) (ts.length+1) tc) 72 1 (ts.length+1) (BL g.cv R.p.Aa)):=fun L=>by
  show some (Ob.row (.slice g.t.p R.p.Aa.length g.t.c) 72 1 R.p.Aa.length (BL g.cv R.p.Aa))=_;rw[NT,ht];simp
 have t2:=AI.Al.Jp (h7 _) ts.length (by rw[hv,ht,Bw _ _ _ _ hl,List.length_append,Cl _ _ hl];simp) (.slice (some ⟨g6,0,none⟩) m.length Bb);have e3:(BL g.cv R.p.Aa).set ts.length (.slice (some ⟨g6,0,none⟩) m.length Bb)=BL (vs++[⟨some ⟨g6,0,none⟩,Bb⟩]) (ts++[m]):=by
  rw[hv,ht,Bw _ _ _ _ hl,Bw _ _ _ _ hl,List.set_append_right _ _ (by rw[Cl _ _ hl];exact Nat.le_refl _),Cl _ _ hl];simp
 rw[e3] at t2;have e5:Ob.row (.slice (some ⟨tb,0,none⟩) (ts.length+1) tc) 72 1 (ts.length+1) (BL (vs++[⟨some ⟨g6,0,none⟩,Bb⟩]) (ts++[m]))=
   .row (.slice g.t.p R.p.Aa.length g.t.c) 72 1 R.p.Aa.length (BL (vs++[⟨some ⟨g6,0,none⟩,Bb⟩]) (ts++[m])):=by
  rw[NT,ht];simp
 have e6:=aA hv ht hl (Dv ⟨some ⟨g6,0,none⟩,Bb⟩ m) ⟨some ⟨g6,0,none⟩,Bb⟩ m;rw[List.set_set] at e6;have e7:Ob.row (.slice (some ⟨g6,0,none⟩) m.length Bb) 110 14 m.length (Bx m)=Dv ⟨some ⟨g6,0,none⟩,Bb⟩ m:=rfl;rw[e7] at AI t2;rw[e5,e6] at t2;exact AI.trans t2
def RS.CC (r:RS) (x:Nd):Except Int RS:=
 if 14 < r.Am+1 then .error 5
 else if x.kind=122∨x.kind=108∨x.kind=40 then
  if r.Ai.length=3 then .error 5
  else .ok ({r with Am:=r.Am+1,Ai:=r.Ai++[r.Dg.length]}.Bs (r.Dg++[{x with Aj:=r.Ai.length}]))
 else .ok ({r with Am:=r.Am+1}.Bs (r.Dg++[x]))
theorem TX {r:RS} {x:Nd} {l:List Nd} (h1:¬14 < r.Am+1) (h2:x.kind=122∨x.kind=108∨x.kind=40) (h3:¬r.Ai.length=3) (hl:r.Dg=l):
  r.CC x= .ok (RS.Bs {r with Am:=r.Am+1,Ai:=r.Ai++[l.length]} (l++[{x with Aj:=(r.Ai.length:Int)}])):=by
 subst hl;unfold RS.CC;rw[if_neg h1,if_pos h2,if_neg h3]
theorem TW {r:RS} {x:Nd} {l:List Nd} (h1:¬14 < r.Am+1) (h2:¬(x.kind=122∨x.kind=108∨x.kind=40)) (hl:r.Dg=l):
  r.CC x= .ok (RS.Bs {r with Am:=r.Am+1} (l++[x])):=by
 subst hl;unfold RS.CC;rw[if_neg h1,if_neg h2]
end Go.Proofs.YtpdfifdlhpmofaaGreatDoor
