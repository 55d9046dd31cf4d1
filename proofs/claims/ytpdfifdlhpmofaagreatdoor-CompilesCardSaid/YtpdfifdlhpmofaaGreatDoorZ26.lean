/-
  Part 26 of the proof, packed by program out of F18, F19, F20, F21.
-/
import Derived.Test.YtpdfifdlhpmofaaGreatDoorZ25
import Derived.Test.YtpdfifdlhpmofaaGreatDoorZ24
set_option linter.unusedVariables false
set_option linter.unusedSimpArgs false
set_option maxHeartbeats 3200000
set_option maxRecDepth 100000
namespace Go.Proofs.YtpdfifdlhpmofaaGreatDoor
open Go.RowKit
open Go.Lib (hid)
theorem lz (nm:ByteArray) (ws:Ws) (mb:Nat) (w:World) (g:FG) (x:qr) (wv:Value) (Ae:Int) (F:List (Nat×Obj)) (r:PV) (h:ed F g x wv Ae w r) (hs:Sl w (fun b=>b≠g.xb) wv (AY ws)) (hz:∀a,a∈ws→a.size≤1000000) (hg:Gl mb w) (IS:g.xb∉Pf mb) (hb:SW g) (AI:0≤x.Am∧x.Am≤1000) (hk:bs nm=CK):
  Calls Tryz.prog 101 #[.pointer (some ⟨g.xb,0,none⟩),.string nm] w (Nj (x.AO nm ws) F g x wv Ae w):=by
 have H:=hid h;have Hz:=hid hz;have Hg:=hid hg;have Hb:=hid hb;have Hk:=hid hk;have HX:=hid IS;have Sj:∀(fn:Fn) (first cap:Array Value) (w:World),(Instr.makeFunc fn first cap).run Tryz.prog w= .ok (.func fn first cap) w:=fun _ _ _ _=>rfl
 have R0:=hid ((Rd.start (r:=r) h.px hs).Qo (.cells #[.pointer (some ⟨g.xb,0,none⟩)] 143));have Bi:=BA h.px;obtain⟨bx,IJ⟩:∃b,b=w.heap.size:=⟨_,rfl⟩;have qp:=hid IJ;have q0:=BN hk;unfold CK at q0;have qa:=Ar (x:=nm) (k:=AF) (by rw[hk];decide);unfold AF at qa;clear h hs hz hg IS hb hk IJ;go_enter Tryz.func101,Tryz.ntmps101;have O8:Hid ((w.heap.size,Obj.cells #[.pointer (some ⟨g.xb,0,none⟩)] 143 (0,0))∈[(w.heap.size,Obj.cells #[.pointer (some ⟨g.xb,0,none⟩)] 143 (0,0))]):=hid (List.mem_cons_self ..);obtain⟨E,hE⟩:∃E,E=[(w.heap.size,Obj.cells #[.pointer (some ⟨g.xb,0,none⟩)] 143 (0,0))]:=⟨_,rfl⟩;rw[←hE] at O8 R0;clear hE;have MX:=O8;clear O8;go_upto_region 6 with fail
 have S0:=R0.out.quiet (Av.refl [] _).drew;refine KU [0,2] [1,3] [4,5,6] [(7,false),(8,false),(9,false)] (fun W=>W.cell? ⟨w.heap.size,0,none⟩=some (.pointer (some ⟨g.xb,0,none⟩))) 9 (by kernel_rfl) (by kernel_rfl) (by kernel_rfl) (by kernel_rfl) (by kernel_rfl) (fun c a d v w h=>by cases d <;>exact h) (S0.cell MX.out 0) ?_;refine Jc (v:= ?_) rfl rfl rfl (fun W hW=> ?_) ?_;rotate_left
 ·go_simp;rfl
 simp only[Bo];refine Jc (v:= ?_) rfl rfl rfl (fun W hW=> ?_) ?_;rotate_left
 ·go_simp;rfl
 simp only[Bo];simp only[Ps];have J0:NN w g.xb r Ae Z2 Pt ws 1 3 4 5 6 (Obj.cells #[.string ⟨#[]⟩] 9 (0,0)) (Obj.cells #[.string ⟨#[]⟩,.int .i64 0] 230 (0,0)) (Obj.cells #[.string ⟨#[]⟩] 9 (0,0)) [4,5,6] E [1,3] [4,5,6] ⟨undef,undef,none,none,none⟩ _:=⟨⟨E,ws,S0,fun _ h=>h,.inl ⟨rfl,rfl⟩,.inl ⟨by decide,rfl⟩,.inl ⟨by decide,rfl⟩,.inl ⟨by decide,rfl⟩⟩,by decide,fun _ h=>h,by simp,by simp,by simp⟩;refine OP (Ij.bZ 25 27 6 7 8) (NN w g.xb r Ae Z2 Pt ws 1 3 4 5 6 (Obj.cells #[.string ⟨#[]⟩] 9 (0,0)) (Obj.cells #[.string ⟨#[]⟩,.int .i64 0] 230 (0,0)) (Obj.cells #[.string ⟨#[]⟩] 9 (0,0)) [4,5,6] E) ?_ ?_ ?_ rfl _ (by simp only[Ij.bZ,Ij.LY,XT,Bo]) J0
 ·clear J0 S0;intro c cs al s w1 hJ;rcases hJ.ek with⟨rfl,rfl⟩ | ⟨rfl,rfl⟩
  ·refine DN rfl (fun K hK=> ?_);simp only[Ij.bZ,Ij.LY,Bo];go_simp;obtain⟨E1,hR⟩:=hJ.xi;obtain⟨KT,p1,s1⟩:=hR.px;refine(KE ws _ g.xb r KT Ae _ p1 s1 (fun h=>h.1 rfl) Hz.out).mono ?_;intro e w2 he;cases hf:Uh ws with
   | none=>
    rw[hf] at he;obtain⟨⟨fb,rfl,hb⟩,hm⟩:=he;rw[Cb (x:=x) (w:=nm) (r:=ws) (by rw[Jr Hk.out];unfold HU;rw[hf])];exact⟨rfl,AZ (hR.fail ⟨⟨fb,rfl,hb⟩,hm⟩)⟩
   | some p=>
    obtain⟨n,l1⟩:=p;rw[hf] at he;have h2:=hJ.je (v:= .string n) (l1:=l1) (by unfold Z2;rw[hf];rfl) (fun E hE=>(hE.DS he).2);obtain⟨rfl,_⟩:=he;refine hK _ _ ⟨h2.KI MX.out 0,_,?_,h2⟩;simp only[Ij.bZ,Ij.LY,Bo]
  ·refine DN rfl (fun K hK=> ?_);simp only[Ij.bZ,Ij.LY,Bo];go_simp;obtain⟨E1,l1,hR,Qa⟩:=hJ.xh;obtain⟨n,hn,hv⟩:=Jx Qa;obtain⟨KT,p1,s1⟩:=hR.px;refine(Ie mb l1 _ g.xb r KT Ae _ p1 s1 (fun h=>h.1 rfl) (fun q hq=>Hz.out q (JV hn q hq)) (Hg.out.Bh hR.Bh (fun b hb hm=>by rw[List.mem_singleton] at hm;rw[hm] at hb;exact HX.out hb)) HX.out).mono ?_;intro e w2 he;cases hf:EG l1 with
   | none=>
    rw[hf] at he;obtain⟨⟨fb,rfl,hb⟩,hm⟩:=he;rw[Cb (x:=x) (w:=nm) (r:=ws) (by rw[Jr Hk.out];unfold HU;rw[hn];simp only[];rw[hf])];exact⟨rfl,AZ (hR.fail ⟨⟨fb,rfl,hb⟩,hm⟩)⟩
   | some p=>
    obtain⟨a,l2⟩:=p;rw[hf] at he;have h2:=hJ.jd (v:=a.val) (l1:=l2) Qa (by unfold Pt;rw[hf];rfl) (fun E hE=>(hE.DS he).2);obtain⟨rfl,_⟩:=he;refine hK _ _ ⟨h2.KI MX.out 0,_,?_,h2⟩;simp only[Ij.bZ,Ij.LY,Bo]
 ·clear J0 S0;intro cs al i s w1 hi hJ;have Tc:=hJ.sub i hi;simp only[List.mem_cons,List.mem_nil_iff,or_false] at Tc;rcases Tc with rfl | rfl | rfl
  ·refine DN rfl (fun K hK=> ?_);simp only[Ij.bZ,Ij.LY,Bo];go_simp;have h2:=hJ.a1 (by decide);refine hK _ _ ⟨h2.KI MX.out 0,_,?_,h2⟩;simp only[Ij.bZ,Ij.LY,XT,Bo]
  ·refine DN rfl (fun K hK=> ?_);simp only[Ij.bZ,Ij.LY,Bo];go_simp;have h2:=hJ.a2 (by decide);refine hK _ _ ⟨h2.KI MX.out 0,_,?_,h2⟩;simp only[Ij.bZ,Ij.LY,XT,Bo]
  ·refine DN rfl (fun K hK=> ?_);simp only[Ij.bZ,Ij.LY,Bo];go_simp;have h2:=hJ.a3 (by decide);refine hK _ _ ⟨h2.KI MX.out 0,_,?_,h2⟩;simp only[Ij.bZ,Ij.LY,XT,Bo]
 clear J0 S0;intro s w1 hJ;obtain⟨E1,l,l1,b1,b2,b3,R1,hM,Qa,cS,e1,e2,e3,m1,m2,m3,Qw,VO,UE⟩:=hJ.done;obtain⟨v1,v2,q1,q2,q3⟩:=s;simp only at Qa cS e1 e2 e3;subst e1;subst e2;subst e3;obtain⟨n,hn,rfl⟩:=Jx Qa;obtain⟨a,ha,rfl⟩:=Q2 cS;clear hJ Qa cS;simp only[Ij.bZ,Ij.LY,XT,Bo];have n1:w.heap.size≠b1:=R1.ne (hM _ MX.out) m1 (by intro h;injection h with _ h;exact absurd h (by decide));have n2:w.heap.size≠b2:=R1.ne (hM _ MX.out) m2 (by intro h;injection h with _ h;exact absurd h (by decide));have n3:w.heap.size≠b3:=R1.ne (hM _ MX.out) m3 (by intro h;injection h with _ h;exact absurd h (by decide));have Nb:a.val= .agg #[.string a.name,.int .i64 a.v]:=rfl;simp only[Nb];clear Nb;have mX:=hM _ MX.out;have c1:=R1.cell m1;have f1:=R1.free m1;have t1:=R1.dz m1;refine Ab rfl (fun K hK=> ?_);go_simp;clear c1 f1 t1;obtain⟨E2,R2,m1',k2⟩:=R1.Lz m1 0 (.string n);replace mX:=k2 _ mX n1;replace m2:=k2 _ m2 (Ne.symm Qw);replace m3:=k2 _ m3 (Ne.symm VO);refine hK _ _ (fun _=>R2.cell mX 0) ?_;clear hK;have c2:=R2.cell m2;have f2:=R2.free m2;have t2:=R2.dz m2;refine Ab rfl (fun K hK=> ?_);go_simp;clear c2 f2 t2;obtain⟨E3,R3,m2',k3⟩:=R2.Lz m2 0 (.string a.name);obtain⟨E4,R4,m2'',k4⟩:=R3.Lz m2' 1 (.int .i64 a.v);replace mX:=k4 _ (k3 _ mX n2) n2;replace m1':=k4 _ (k3 _ m1' Qw) Qw;replace m3:=k4 _ (k3 _ m3 (Ne.symm UE)) (Ne.symm UE);refine hK _ _ (fun _=>R4.cell mX 0) ?_;clear hK;have c3:=R4.cell m3;have f3:=R4.free m3;have t3:=R4.dz m3;refine Ab rfl (fun K hK=> ?_);go_simp;clear c3 f3 t3;obtain⟨E5,R5,m3',k5⟩:=R4.Lz m3 0 (.string ⟨#[]⟩);replace mX:=k5 _ mX n3;replace m1':=k5 _ m1' VO;replace m2'':=k5 _ m2'' UE;refine hK _ _ (fun h=>absurd rfl h) ?_;clear hK;simp only[A0];generalize (World.setCell (World.setCell (World.setCell (World.setCell w1 ⟨b1,0,none⟩ (.string n)) ⟨b2,0,none⟩ (.string a.name)) ⟨b2,1,none⟩ (.int .i64 a.v)) ⟨b3,0,none⟩ (.string ⟨#[]⟩))=w4 at R5⊢;have R:=hid R5;replace MX:=hid mX;have MA:=hid m1';have MB:=hid m2'';have Hn:=hid hn;have Ha:=hid ha;have MO:=hid m3';have D12:=hid Qw;have D13:=hid VO;have D23:=hid UE;have N3:=hid n3;clear R1 R2 R3 R4 R5 k3 k5 m2' m3' n3 hM m1 m1' m2 m2'' m3 mX k2 k4 hn ha n1 n2 Qw VO UE R0;cases l with
 | nil=>
  obtain⟨KT,p1,s1⟩:=R.out.px;obtain⟨sp,sc,rfl,_,_⟩:=s1.JF;have x0:w4.cell? ⟨g.xb,0,none⟩=some (.slice sp 0 sc):=p1.cell 0;have xl0:g.xb < w4.heap.size:=p1.lt;have cb0:=R.out.cell MX.out 0;have cl0:=R.out.dz MX.out;obtain⟨E6,R6,mC,more6⟩:=R.out.YI (.cells #[.string ⟨#[]⟩,.int .i64 0] 230);replace R:=hid R6;have MC:=hid mC;replace MX:=hid (more6 _ MX.out);replace MA:=hid (more6 _ MA.out);replace MB:=hid (more6 _ MB.out);replace MO:=hid (more6 _ MO.out);clear p1 s1 R6 mC more6;obtain⟨UX,p2,s2⟩:=R.out.px;have cb:=R.out.cell MX.out 0;have Kg:=hid (Dz [] _ g.xb r UX Ae _ p2 s2);clear p2 s2;go_wp2_with fail;refine Kg.out.mono ?_;intro e w3 he;clear cb x0 xl0 cb0 cl0;obtain⟨rfl,R3⟩:=R.out.DS he;have Hr:=hid (Fg (x:=x) (w:=nm) (r:=ws) (s:= .set n a ⟨#[]⟩ .zero) (by rw[Jr Hk.out];unfold HU;rw[Hn.out];simp only[];rw[Ha.out]));rcases H.out with⟨hS,rfl⟩ | ⟨hN,hP⟩;rotate_left
  ·obtain⟨wvq,p3,_⟩:=R3.px;have x5:w3.cell? ⟨g.xb,5,none⟩=some (.slice none 0 0):=(p3.cell 5).trans (congrArg some hN.o);have x1:w3.cell? ⟨g.xb,1,none⟩=some (.int .i64 Ae):=p3.cell 1;have xl:g.xb < w3.heap.size:=p3.lt;have cb:=R3.cell MX.out 0;have hr:=hid (Hr.out.trans (Ek hN.th));have ZM:=hid R3;clear p3 he R3 R Kg Hr hN hP;go_wp2_with fail;refine(AS _ _ _).mono ?_;rintro e w5 ⟨⟨fb,rfl,hb⟩,hm⟩;go_wp2;rw[hr.out];exact⟨rfl,AZ ⟨⟨fb,rfl,hb⟩,ZM.out.Bh.Ac hm⟩⟩
  obtain⟨Ki,S3,K8⟩:=R3.FZ hS;have KM:=hid hS.Hj.ne;clear hS;obtain⟨wvq,p3,_⟩:=R3.px;have x5:w3.cell? ⟨g.xb,5,none⟩=some (.slice (some ⟨g.ob,0,none⟩) (g.fr.length+1) g.oc):=p3.cell 5;have x1:w3.cell? ⟨g.xb,1,none⟩=some (.int .i64 Ae):=p3.cell 1;have xl:g.xb < w3.heap.size:=p3.lt;have cb:=R3.cell MX.out 0;have Gb:((g.fr.length:Int)+1==0)=false:=by rw[beq_eq_false_iff_ne];omega
  have JK:=hid S3;have FC:=hid K8;clear S3 K8 p3 he R3 R Kg;have Hp:=hid (Hr.out.trans (Gz JK.out.Hj (fun h=>by cases h) (fun h=>by rw[Hk.out] at h;exact absurd h (by decide))));clear Hr;go_wp2_with fail;refine(Xn n ⟨#[]⟩ a .zero _ g x Ki Ae _ JK.out Hb.out _ _ _ _ _ (List.mem_append_left _ MO.out) (List.mem_append_left _ MX.out) (List.mem_append_left _ MB.out) (List.mem_append_left _ MC.out) (List.mem_append_left _ MA.out)).mono ?_;intro e w4 he;clear cb x5 x1 xl Gb;unfold Mp at he;cases CI:x.finish (.set n a ⟨#[]⟩ .zero) with
  | error c=>
   rw[CI] at he;obtain⟨⟨fb,rfl,hb⟩,hm⟩:=he;have hr:Hid (x.AO nm ws= .error c):=hid (by rw[Hp.out,CI]);clear CI;go_wp2;rw[hr.out];exact⟨rfl,Cf KM.out ⟨⟨fb,rfl,hb⟩,FC.out.Bh.Ac hm⟩⟩
  | ok y=>
   rw[CI] at he;obtain⟨rfl,g',F',Ff,D1,OU,S4⟩:=he;have V3:=Ep CI;have hr:x.AO nm ws=if 14 < y.Am+1∨4 < y.EI then .error 5 else .ok {y with Am:=y.Am+1}:=by rw[Hp.out,CI]
   rw[S4.Hj.EI] at hr;have Lr:True→wrap64 (y.Am+1)=y.Am+1:=fun _=>IntWalk.wrap64_in _ (by omega)
   have f4:=Ge S4.Al;have y6:w4.cell? ⟨g.xb,6,none⟩=some (.int .i64 y.Am):=Ff▸f4.c 6;have y5:w4.cell? ⟨g.xb,5,none⟩=some (.slice (some ⟨g'.ob,0,none⟩) (g'.fr.length+1) g'.oc):=Ff▸f4.c 5;have y1:w4.cell? ⟨g.xb,1,none⟩=some (.int .i64 Ae):=Ff▸f4.c 1;have yf:World.frozen? w4 ⟨g.xb,6,none⟩=false:=Ff▸f4.f 6;have yl:g.xb < w4.heap.size:=Ff▸f4.lt;have cb:=S4.AT.cell (D1 _ (List.mem_append_left _ MX.out)) 0;have IJ:w.heap.size≠g.xb:=fun e=>by rw[e] at Bi;omega
   obtain⟨t5,S5⟩:=S4.count (FC.out.trans OU);rw[Ff] at t5 S5;have NR:=hid t5;have V2:=hid S5;have ZJ:=hid Ff;have JJ:=hid D1;have NP:=hid hr;clear CI f4 S4 OU t5 S5 Ff D1 hr V3;by_cases Kj:14 < y.Am+1
   ·have Sf:x.AO nm ws= .error 5:=NP.out.trans (if_pos (.inl Kj));have Il:=hid Sf;clear Sf;go_wp2_with fail;refine(AS _ _ _).mono ?_;rintro e w5 ⟨⟨fb,rfl,hb⟩,hm⟩;go_wp2;rw[Il.out];exact⟨rfl,Cf KM.out ⟨⟨fb,rfl,hb⟩,NR.out.Bh.Ac hm⟩⟩
   ·by_cases h4:4 < g'.fr.length+1
    ·have Zf:(4:Int) < (g'.fr.length:Int)+1:=by omega
     have Il:=hid (NP.out.trans (if_pos (.inr h4)));clear h4;go_wp2_with fail;refine(AS _ _ _).mono ?_;rintro e w5 ⟨⟨fb,rfl,hb⟩,hm⟩;go_wp2;rw[Il.out];exact⟨rfl,Cf KM.out ⟨⟨fb,rfl,hb⟩,NR.out.Bh.Ac hm⟩⟩
    ·have Zf:¬(4:Int) < (g'.fr.length:Int)+1:=by omega
     have Il:=hid (NP.out.trans (if_neg (fun h=>h.elim Kj h4)));clear h4;go_wp2
     go_end0
     rw[Il.out];exact⟨rfl,g',F',Ki,ZJ.out,fun y hy=>JJ.out y (List.mem_append_right _ hy),NR.out,V2.out⟩
 | cons o l=>
  obtain⟨KT,p1,s1⟩:=R.out.px;obtain⟨sp,sc,rfl,_,_⟩:=s1.JF;have x0:w4.cell? ⟨g.xb,0,none⟩=some (.slice sp (l.length+1) sc):=(p1.cell 0).trans (by simp[PV.cells,AY]);have xl0:g.xb < w4.heap.size:=p1.lt;have cb0:=R.out.cell MX.out 0;have cl0:=R.out.dz MX.out;have Pb:(0:Int) < (l.length:Int)+1:=by omega
  have JD:0 < l.length+1:=by omega
  obtain⟨bc,lr⟩:∃b,b=w4.heap.size:=⟨_,rfl⟩;have ne4:∀q:Nat×Obj,q∈_→q.1≠bc:=fun q hq e=>by
   have:=R.out.dz hq;rw[e,lr] at this;exact Nat.lt_irrefl _ this
  have tA:=hid (ne4 _ MX.out);have zR:=hid (ne4 _ MA.out);have MT:=hid (ne4 _ MB.out);have x8:=hid (ne4 _ MO.out);clear ne4;obtain⟨E6,R6,mC,more6⟩:=R.out.YI (.cells #[.string ⟨#[]⟩,.int .i64 0] 230);rw[←lr] at mC;have HBW:=hid lr;have zJ:=hid R6;have MC:=hid mC;replace MX:=hid (more6 _ MX.out);replace MA:=hid (more6 _ MA.out);replace MB:=hid (more6 _ MB.out);replace MO:=hid (more6 _ MO.out);clear p1 s1 R6 mC more6 R lr;go_upto_region 9 with fail
  clear x0 xl0 cb0 cl0 Pb JD;rw[←HBW.out];have S6:=zJ.out.quiet (Av.refl [] _).drew;have G6:=(Hg.out.Bh S6.Bh (fun b hb hm=>by rw[List.mem_singleton] at hm;rw[hm] at hb;exact HX.out hb));obtain⟨om,vt,LK⟩:=G6.zZ;refine Ao (l:=[(0,true),(1,true),(2,false),(3,true),(4,false)]) (fun W=>W.cell? ⟨1,0,none⟩=some (.map (some mb))∧W.cell? ⟨w.heap.size,0,none⟩=some (.pointer (some ⟨g.xb,0,none⟩))∧W.heap[mb]?=some om) 4 (by kernel_rfl) (by kernel_rfl) (by kernel_rfl) (by kernel_rfl) (by kernel_rfl) (fun c a d v w h=>by cases d <;>exact h) ⟨G6.Bq,S6.cell MX.out 0,vt⟩ ?_;repeat
   refine Ak (v:= ?_) rfl rfl rfl (fun W hW=> ?_) ?_;rotate_left
   ·obtain⟨s1,s2,s3⟩:=hW;go_simp;rfl
   simp only[Bo]
  refine Ab rfl (fun K hK=> ?_);go_simp;obtain⟨zT,p6,s6⟩:=S6.px;refine(Ig (o::l) _ g.xb r zT Ae _ p6 s6 (fun h=>h.1 rfl)).mono ?_;intro e w5 he;obtain⟨rfl,zS,zr,zq,wD⟩:=he;obtain⟨_,R7⟩:=S6.DS (v:= .string o) (l':=l) ⟨rfl,zS,zr,zq,wD⟩;have G7:=(Hg.out.Bh R7.Bh (fun b hb hm=>by rw[List.mem_singleton] at hm;rw[hm] at hb;exact HX.out hb));have MY:mb∉[g.xb]:=fun h=>by rw[List.mem_singleton] at h;exact HX.out (h▸by simp[Pf])
  refine hK _ w5 (fun _=>⟨G7.Bq,R7.cell MX.out 0,wD.heap vt MY⟩) ?_;clear hK;repeat
   refine Ak (v:= ?_) rfl rfl rfl (fun W hW=> ?_) ?_;rotate_left
   ·obtain⟨s1,s2,s3⟩:=hW;have hl:=LK W s3 o;go_simp;rfl
   simp only[Bo]
  have c3:=R7.cell MO.out;have f3:=R7.free MO.out;have t3:=R7.dz MO.out;refine Ab rfl (fun K hK=> ?_);go_simp;refine hK _ _ (fun h=>absurd rfl h) ?_;clear hK c3 f3 t3;simp only[A0];obtain⟨E8,R8,mO,k8⟩:=R7.Lz MO.out 0 (.string ((Z1 o).getD ⟨#[]⟩));have we:b1≠b3:=D13.out;replace MX:=hid (k8 _ MX.out N3.out);replace MA:=hid (k8 _ MA.out D13.out);replace MB:=hid (k8 _ MB.out D23.out);replace MC:=hid (k8 _ MC.out (Ne.symm x8.out));generalize World.setCell w5 ⟨b3,0,none⟩ (.string ((Z1 o).getD ⟨#[]⟩))=w6 at R8⊢;replace MO:=hid mO;have R:=hid R8;clear R8 mO k8 R7 zr zq wD vt LK G7 G6 S6 zJ p6 s6 we MY;have c8:=R.out.cell MO.out;have cb:=R.out.cell MX.out 0;cases II:Z1 o with
  | none=>
   rw[II] at c8;have hr:=hid (Cb (x:=x) (w:=nm) (r:=ws) (by rw[Jr Hk.out];unfold HU;rw[Hn.out];simp only[];rw[Ha.out];simp only[];rw[II]));clear II;obtain⟨KT,p1,s1⟩:=R.out.px;have xF:=hid (EL _ g.xb r _ Ae p1);clear p1 s1;simp only[Option.getD_none] at c8;go_wp2_with fail;refine xF.out.mono ?_;rintro e w7 ⟨⟨fb,rfl,hb⟩,hm⟩;go_wp2;rw[hr.out];exact⟨rfl,AZ ⟨⟨fb,rfl,hb⟩,R.out.Bh.Ac hm⟩⟩
  | some op=>
   rw[II] at c8 MO;have ow:=RX (er op (fz II));have vr:¬op.toList=[]:=fun h=>by rw[h] at ow;cases ow
   have lX:=hid II;clear II;simp only[Option.getD_some] at c8 MO;obtain⟨KT,p1,s1⟩:=R.out.px;have XN:=hid (Ie mb l _ g.xb r KT Ae _ p1 s1 (fun h=>h.1 rfl) (fun q hq=>Hz.out q (JV Hn.out q (TJ Ha.out q (List.mem_cons_of_mem _ hq)))) (Hg.out.Bh R.out.Bh (fun b hb hm=>by rw[List.mem_singleton] at hm;rw[hm] at hb;exact HX.out hb)) HX.out);clear p1 s1;go_wp2_with fail;refine XN.out.mono ?_;intro e w7 he;clear cb XN c8 vr ow;cases hw:EG l with
   | none=>
    rw[hw] at he;obtain⟨⟨fb,rfl,hb⟩,hm⟩:=he;have hr:=hid (Cb (x:=x) (w:=nm) (r:=ws) (by rw[Jr Hk.out];unfold HU;rw[Hn.out];simp only[];rw[Ha.out];simp only[];rw[lX.out];simp only[];rw[hw]));clear hw;go_wp2;rw[hr.out];exact⟨rfl,AZ (R.out.fail ⟨⟨fb,rfl,hb⟩,hm⟩)⟩
   | some p=>
    obtain⟨c,l⟩:=p;rw[hw] at he;obtain⟨rfl,R1⟩:=R.out.DS he;have Nb:c.val= .agg #[.string c.name,.int .i64 c.v]:=rfl;simp only[Nb];have c9:=R1.cell MC.out;have f9:=R1.free MC.out;have t9:=R1.dz MC.out;have cb9:=R1.cell MX.out 0;obtain⟨E9,R9,mC,k9⟩:=R1.Lz MC.out 0 (.string c.name);obtain⟨Ea,Ra,mCa,ka⟩:=R9.Lz mC 1 (.int .i64 c.v);have hx9:w.heap.size≠bc:=tA.out;replace MX:=hid (ka _ (k9 _ MX.out tA.out) tA.out);replace MA:=hid (ka _ (k9 _ MA.out zR.out) zR.out);replace MB:=hid (ka _ (k9 _ MB.out MT.out) MT.out);replace MO:=hid (ka _ (k9 _ MO.out x8.out) x8.out);replace MC:=hid mCa;have Hw:=hid hw;clear R;have R:=hid Ra;clear R1 R9 mC k9 Ra mCa ka hw he Nb;obtain⟨UX,p2,s2⟩:=R.out.px;have cb:=R.out.cell MX.out 0;have Kg:=hid (Dz l _ g.xb r UX Ae _ p2 s2);clear p2 s2;go_wp2_with fail;refine Kg.out.mono ?_;intro e w3 he;clear cb c9 f9 t9 cb9 hx9;cases l with
    | cons b l2=>
     obtain⟨⟨fb,rfl,hb⟩,hm⟩:=he;have hr:=hid (Cb (x:=x) (w:=nm) (r:=ws) (by rw[Jr Hk.out];unfold HU;rw[Hn.out];simp only[];rw[Ha.out];simp only[];rw[lX.out];simp only[];rw[Hw.out];rfl));go_wp2;rw[hr.out];exact⟨rfl,AZ (R.out.fail ⟨⟨fb,rfl,hb⟩,hm⟩)⟩
    | nil=>
     obtain⟨rfl,R3⟩:=R.out.DS he;have Hr:=hid (Fg (x:=x) (w:=nm) (r:=ws) (s:= .set n a op c) (by rw[Jr Hk.out];unfold HU;rw[Hn.out];simp only[];rw[Ha.out];simp only[];rw[lX.out];simp only[];rw[Hw.out];rfl));rcases H.out with⟨hS,rfl⟩ | ⟨hN,hP⟩;rotate_left
     ·obtain⟨wvq,p3,_⟩:=R3.px;have x5:w3.cell? ⟨g.xb,5,none⟩=some (.slice none 0 0):=(p3.cell 5).trans (congrArg some hN.o);have x1:w3.cell? ⟨g.xb,1,none⟩=some (.int .i64 Ae):=p3.cell 1;have xl:g.xb < w3.heap.size:=p3.lt;have cb:=R3.cell MX.out 0;have hr:=hid (Hr.out.trans (Ek hN.th));have ZM:=hid R3;clear p3 he R3 R Kg Hr hN hP;go_wp2_with fail;refine(AS _ _ _).mono ?_;rintro e w5 ⟨⟨fb,rfl,hb⟩,hm⟩;go_wp2;rw[hr.out];exact⟨rfl,AZ ⟨⟨fb,rfl,hb⟩,ZM.out.Bh.Ac hm⟩⟩
     obtain⟨Ki,S3,K8⟩:=R3.FZ hS;have KM:=hid hS.Hj.ne;clear hS;obtain⟨wvq,p3,_⟩:=R3.px;have x5:w3.cell? ⟨g.xb,5,none⟩=some (.slice (some ⟨g.ob,0,none⟩) (g.fr.length+1) g.oc):=p3.cell 5;have x1:w3.cell? ⟨g.xb,1,none⟩=some (.int .i64 Ae):=p3.cell 1;have xl:g.xb < w3.heap.size:=p3.lt;have cb:=R3.cell MX.out 0;have Gb:((g.fr.length:Int)+1==0)=false:=by rw[beq_eq_false_iff_ne];omega
     have JK:=hid S3;have FC:=hid K8;clear S3 K8 p3 he R3 R Kg;have Hp:=hid (Hr.out.trans (Gz JK.out.Hj (fun h=>by cases h) (fun h=>by rw[Hk.out] at h;exact absurd h (by decide))));clear Hr;go_wp2_with fail;refine(Xn n op a c _ g x Ki Ae _ JK.out Hb.out _ _ _ _ _ (List.mem_append_left _ MO.out) (List.mem_append_left _ MX.out) (List.mem_append_left _ MB.out) (List.mem_append_left _ MC.out) (List.mem_append_left _ MA.out)).mono ?_;intro e w4 he;clear cb x5 x1 xl Gb;unfold Mp at he;cases CI:x.finish (.set n a op c) with
     | error c=>
      rw[CI] at he;obtain⟨⟨fb,rfl,hb⟩,hm⟩:=he;have hr:Hid (x.AO nm ws= .error c):=hid (by rw[Hp.out,CI]);clear CI;go_wp2;rw[hr.out];exact⟨rfl,Cf KM.out ⟨⟨fb,rfl,hb⟩,FC.out.Bh.Ac hm⟩⟩
     | ok y=>
      rw[CI] at he;obtain⟨rfl,g',F',Ff,D1,OU,S4⟩:=he;have V3:=Ep CI;have hr:x.AO nm ws=if 14 < y.Am+1∨4 < y.EI then .error 5 else .ok {y with Am:=y.Am+1}:=by rw[Hp.out,CI]
      rw[S4.Hj.EI] at hr;have Lr:True→wrap64 (y.Am+1)=y.Am+1:=fun _=>IntWalk.wrap64_in _ (by omega)
      have f4:=Ge S4.Al;have y6:w4.cell? ⟨g.xb,6,none⟩=some (.int .i64 y.Am):=Ff▸f4.c 6;have y5:w4.cell? ⟨g.xb,5,none⟩=some (.slice (some ⟨g'.ob,0,none⟩) (g'.fr.length+1) g'.oc):=Ff▸f4.c 5;have y1:w4.cell? ⟨g.xb,1,none⟩=some (.int .i64 Ae):=Ff▸f4.c 1;have yf:World.frozen? w4 ⟨g.xb,6,none⟩=false:=Ff▸f4.f 6;have yl:g.xb < w4.heap.size:=Ff▸f4.lt;have cb:=S4.AT.cell (D1 _ (List.mem_append_left _ MX.out)) 0;have IJ:w.heap.size≠g.xb:=fun e=>by rw[e] at Bi;omega
      obtain⟨t5,S5⟩:=S4.count (FC.out.trans OU);rw[Ff] at t5 S5;have NR:=hid t5;have V2:=hid S5;have ZJ:=hid Ff;have JJ:=hid D1;have NP:=hid hr;clear CI f4 S4 OU t5 S5 Ff D1 hr V3;by_cases Kj:14 < y.Am+1
      ·have Sf:x.AO nm ws= .error 5:=NP.out.trans (if_pos (.inl Kj));have Il:=hid Sf;clear Sf;go_wp2_with fail;refine(AS _ _ _).mono ?_;rintro e w5 ⟨⟨fb,rfl,hb⟩,hm⟩;go_wp2;rw[Il.out];exact⟨rfl,Cf KM.out ⟨⟨fb,rfl,hb⟩,NR.out.Bh.Ac hm⟩⟩
      ·by_cases h4:4 < g'.fr.length+1
       ·have Zf:(4:Int) < (g'.fr.length:Int)+1:=by omega
        have Il:=hid (NP.out.trans (if_pos (.inr h4)));clear h4;go_wp2_with fail;refine(AS _ _ _).mono ?_;rintro e w5 ⟨⟨fb,rfl,hb⟩,hm⟩;go_wp2;rw[Il.out];exact⟨rfl,Cf KM.out ⟨⟨fb,rfl,hb⟩,NR.out.Bh.Ac hm⟩⟩
       ·have Zf:¬(4:Int) < (g'.fr.length:Int)+1:=by omega
        have Il:=hid (NP.out.trans (if_neg (fun h=>h.elim Kj h4)));clear h4;go_wp2
        go_end0
        rw[Il.out];exact⟨rfl,g',F',Ki,ZJ.out,fun y hy=>JJ.out y (List.mem_append_right _ hy),NR.out,V2.out⟩
theorem po (nm:ByteArray) (ws:Ws) (mb:Nat) (w:World) (g:FG) (x:qr) (wv:Value) (Ae:Int) (F:List (Nat×Obj)) (r:PV) (h:ed F g x wv Ae w r) (hs:Sl w (fun b=>b≠g.xb) wv (AY ws)) (hz:∀a,a∈ws→a.size≤1000000) (hg:Gl mb w) (IS:g.xb∉Pf mb) (hb:SW g) (AI:0≤x.Am∧x.Am≤1000) (h0:¬bs nm=CK) (h1:¬bs nm=Cw) (h2:¬bs nm=CL) (h3:¬bs nm=Ds) (h4:¬bs nm=AF) (h5:¬bs nm=I8) (h6:¬bs nm=C6):
  Calls Tryz.prog 101 #[.pointer (some ⟨g.xb,0,none⟩),.string nm] w (Nj (x.AO nm ws) F g x wv Ae w):=by
 have q0:=Ar (x:=nm) (k:=CK) h0;unfold CK at q0;have q1:=Ar (x:=nm) (k:=Cw) h1;unfold Cw at q1;have q2:=Ar (x:=nm) (k:=CL) h2;unfold CL at q2;have q3:=Ar (x:=nm) (k:=Ds) h3;unfold Ds at q3;have q4:=Ar (x:=nm) (k:=AF) h4;unfold AF at q4;have q5:=Ar (x:=nm) (k:=I8) h5;unfold I8 at q5;have q6:=Ar (x:=nm) (k:=C6) h6;unfold C6 at q6;have hr:=hid (Cb (x:=x) (w:=nm) (r:=ws) (by unfold GU;rw[if_neg h0,if_neg h1,if_neg h2,if_neg h3,if_neg h4,if_neg h5,if_neg h6]));have R0:=hid ((Rd.start (r:=r) h.px hs).Qo (.cells #[.pointer (some ⟨g.xb,0,none⟩)] 143));obtain⟨KT,p1,_⟩:=R0.out.px;have Hn:=hid (EL _ g.xb r _ Ae p1);clear h hs hz hg IS hb p1 h0 h1 h2 h3 h4 h5 h6;go_enter Tryz.func101,Tryz.ntmps101;go_wp2_with fail;refine Hn.out.mono ?_;rintro e w1 ⟨⟨fb,rfl,hb⟩,hm⟩;go_wp2;rw[hr.out];exact⟨rfl,AZ ⟨⟨fb,rfl,hb⟩,R0.out.Bh.Ac hm⟩⟩
theorem Sv (nm:ByteArray) (ws:Ws) (mb:Nat) (w:World) (g:FG) (x:qr) (wv:Value) (Ae:Int) (F:List (Nat×Obj)) (r:PV) (h:ed F g x wv Ae w r) (hs:Sl w (fun b=>b≠g.xb) wv (AY ws)) (hz:∀a,a∈ws→a.size≤1000000) (hg:Gl mb w) (IS:g.xb∉Pf mb) (hb:SW g) (AI:0≤x.Am∧x.Am≤1000):
  Calls Tryz.prog 101 #[.pointer (some ⟨g.xb,0,none⟩),.string nm] w (Nj (x.AO nm ws) F g x wv Ae w):=by
 by_cases h0:bs nm=CK
 ·exact lz nm ws mb w g x wv Ae F r h hs hz hg IS hb AI h0
 by_cases h1:bs nm=Cw
 ·exact lC nm ws mb w g x wv Ae F r h hs hz hg IS hb AI h1
 by_cases h2:bs nm=CL
 ·exact lA nm ws mb w g x wv Ae F r h hs hz hg IS hb AI h2
 by_cases h3:bs nm=Ds
 ·exact lB nm ws mb w g x wv Ae F r h hs hz hg IS hb AI h3
 by_cases h4:bs nm=AF
 ·exact Zh nm ws mb w g x wv Ae F r h hs hz hg IS hb AI h4
 by_cases h5:bs nm=I8
 ·exact pq nm ws mb w g x wv Ae F r h hs hz hg IS hb AI h5
 by_cases h6:bs nm=C6
 ·exact iJ nm ws mb w g x wv Ae F r h hs hz hg IS hb AI h6
 exact po nm ws mb w g x wv Ae F r h hs hz hg IS hb AI h0 h1 h2 h3 h4 h5 h6
def FG.NS (g:FG) (x:qr) (wv:Value) (Ae:Int):List Ob:=if x.Aa=[] then g.fF x wv Ae else g.Ax x wv Ae
structure PA (F:List (Nat×Obj)) (g:FG) (x:qr) (wv:Value) (Ae:Int) (w:World):Prop where
 Al:AK w (g.NS x wv Ae)
 AT:Ba w (g.NS x wv Ae) F
 Hj:x.Aa≠[]→SV F g x
 none:x.Aa=[]→x.Ai=[]∧x.AB=[]∧x.Am=0
def FG.zX (g:FG):PV:=⟨.pointer (some ⟨g.pb,0,none⟩),.map (some g.sb),.map none,.slice none 0 0,.int .i64 0⟩
def FG.bH (g:FG) (x:qr):PV:=if x.Aa=[] then g.zX else g.pv x
theorem F8 {g:FG} {x:qr} {wv:Value} {Ae:Int} (h:x.Aa=[]):g.NS x wv Ae=g.fF x wv Ae:=if_pos h
theorem Fx {g:FG} {x:qr} {wv:Value} {Ae:Int} (h:x.Aa≠[]):g.NS x wv Ae=g.Ax x wv Ae:=if_neg h
theorem PA.st {F:List (Nat×Obj)} {g:FG} {x:qr} {wv:Value} {Ae:Int} {w:World} (h:PA F g x wv Ae w) (hx:x.Aa≠[]):M3 F g x wv Ae w:=
 ⟨Fx hx▸h.Al,Fx (g:=g) (wv:=wv) (Ae:=Ae) hx▸h.AT,h.Hj hx⟩
theorem PA.of {F:List (Nat×Obj)} {g:FG} {x:qr} {wv:Value} {Ae:Int} {w:World} (h:M3 F g x wv Ae w):PA F g x wv Ae w:=
 ⟨by rw[Fx h.Hj.ne];exact h.Al,by rw[Fx h.Hj.ne];exact h.AT,fun _=>h.Hj,fun e=>absurd e h.Hj.ne⟩
theorem PA.kD {F:List (Nat×Obj)} {g:FG} {x:qr} {wv:Value} {Ae:Int} {w:World} (h:PA F g x wv Ae w):ed F g x wv Ae w (g.bH x):=by
 by_cases hx:x.Aa=[]
 ·refine .inr ⟨⟨hx,by unfold FG.bH;rw[if_pos hx];rfl⟩,?_⟩;have:=h.Al;rw[F8 hx] at this;unfold FG.bH;rw[if_pos hx];exact this.AP (i:=0) rfl
 ·refine .inl ⟨h.st hx,?_⟩;unfold FG.bH;rw[if_neg hx]
def UW (res:Except Int qr) (F:List (Nat×Obj)) (g:FG) (x:qr) (wv:Value) (Ae:Int) (w:World) (e:Ending) (w':World):Prop:=match res with
 | .error c=>Fq (PM g x wv Ae) c Ae w e w'
 | .ok y=>e= .returned (.tuple #[])∧∃g' F' wv',g'.xb=g.xb∧V1 F F'∧Ad w (g.NS x wv Ae) w' (g'.NS y wv' Ae)∧PA F' g' y wv' Ae w'
theorem lD {res:Except Int qr} {F:List (Nat×Obj)} {g:FG} {x:qr} {wv:Value} {Ae:Int} {w:World} {e:Ending} {w':World} (hx:x.Aa≠[]) (h:Nj res F g x wv Ae w e w'):UW res F g x wv Ae w e w':=by
 cases res with
 | error c=>exact h
 | ok y=>
  obtain⟨h1,g',F',wv',h2,h3,h4,h5⟩:=h;refine⟨h1,g',F',wv',h2,h3,?_,.of h5⟩;rw[Fx hx,Fx h5.Hj.ne];exact h4
theorem Rd.Ke {F:List (Nat×Obj)} {g:FG} {x:qr} {wv:Value} {Ae:Int} {w0 w:World} {E:List (Nat×Obj)} {l:Ws} (h0:PA F g x wv Ae w0) (h:Rd w0 g.xb (g.bH x) Ae E l w):
  ∃wv',PA F g x wv' Ae w∧Ad w0 (g.NS x wv Ae) w (g.NS x wv' Ae):=by
 obtain⟨wv',h1,_⟩:=h.px;have st:Ad w0 (g.NS x wv Ae) w (g.NS x wv' Ae):=by
  have ho:=h0.Al;by_cases hx:x.Aa=[]
  ·unfold FG.bH at h1;rw[if_pos hx] at h1;rw[F8 hx] at ho;rw[F8 hx,F8 hx];exact ho.swap (i:=0) rfl (h.Bh.mono (fun y hy=> .inl (by simpa[Ob.fp] using hy))) h1 (by simp[Ob.fp]) (fun b hb=> .inl hb)
  ·unfold FG.bH at h1;rw[if_neg hx] at h1;rw[Fx hx] at ho;rw[Fx hx,Fx hx];exact ho.swap (i:=0) rfl (h.Bh.mono (fun y hy=> .inl (by simpa[Ob.fp] using hy))) h1 (by simp[Ob.fp]) (fun b hb=> .inl hb)
 exact⟨wv',⟨st.Al,h0.AT.step st,h0.Hj,h0.none⟩,st⟩
theorem Wo (l:List XL) (s:XL):Fv (l++[s])=Fv l++[(s.name,.agg #[.int .i64 s.first,.int .i64 s.size])]:=by simp[Fv]
theorem nt {W:World} {b:Nat} {l:List XL} (h:W.heap[b]?=some (G9 (Fv l))) (n:ByteArray) (hp:(l.find? fun s=>decide (bs s.name=bs n))=none) (f z:Int):(Instr.mapUpdate 147 (.map (some b)) (.string n) (.agg #[.int .i64 f,.int .i64 z])).run Tryz.prog W= .ok () {W with heap:=W.heap.setIfInBounds b (G9 (Fv (l++[⟨n,f,z⟩])))}:=by
 rw[Wo];exact JT (k:=9) (e:=200) (by kernel_rfl) (by kernel_rfl) h n _ (by rw[Z3,hp];rfl)
theorem Q4 {W:World} {L:List Ob} {i b:Nat} {l:List XL} (h:AK W L) (hi:L[i]?=some (.PN b (G9 (Fv l)))) (n:ByteArray) (hp:(l.find? fun s=>decide (bs s.name=bs n))=none) (f z:Int):
  ∃w5,(Instr.mapUpdate 147 (.map (some b)) (.string n) (.agg #[.int .i64 f,.int .i64 z])).run Tryz.prog W= .ok () w5∧Ad W L w5 (L.set i (.PN b (G9 (Fv (l++[⟨n,f,z⟩]))))):=
 ⟨_,nt (h.get hi) n hp f z,h.eO hi _⟩
theorem Yq {x:qr} {r:Ws} (h:Uh r=none):x.DU r= .error 2:=by unfold qr.DU;rw[h]
theorem Q5 {B7 v:Int} {l r:Ws} (h:Gx B7 l=some (v,r)):1≤v∧v≤B7:=by
 unfold Gx at h;split at h
 ·cases h
 ·split at h
  ·rename_i hc;cases h;exact hc.2
  ·cases h
def qr.Fl (x:qr) (n:ByteArray) (z:Int):Except Int qr:=
 if x.Aa≠[] then .error 3 else if (x.Pk n).isSome then .error 4 else .ok {x with Aw:=x.Aw++[⟨n,x.cells,z⟩],cells:=x.cells+z}
theorem GF {x:qr} {w:ByteArray} {r:Ws} (h:bs w=AN):x.row (w::r)=x.DU r:=by
 show(if _ then _ else _)=_;rw[if_pos h]
theorem Sw (nm:ByteArray) (ws:Ws) (mb:Nat) (w:World) (g:FG) (x:qr) (wv:Value) (Ae:Int) (F:List (Nat×Obj)) (h:PA F g x wv Ae w) (hs:Sl w (fun b=>b≠g.xb) wv (AY (nm::ws))) (hz:∀a,a∈ws→a.size≤1000000) (hg:Gl mb w) (IS:g.xb∉Pf mb) (Dp:0≤x.cells∧x.cells≤100000) (q7:g.tv.length≤3000) (hk:bs nm=AN):
  Calls Tryz.prog 74 #[.pointer (some ⟨g.xb,0,none⟩)] w (UW (x.row (nm::ws)) F g x wv Ae w):=by
 have R00:=hid (Rd.start h.kD.px hs);have H:=hid h;have Hk:=hid hk;have Hz:=hid hz;have Hg:=hid hg;have HX:=hid IS;have q0:=BN hk;unfold AN at q0;obtain⟨ns,p0,s0⟩:=R00.out.px;have Hn:=hid (Ig (nm::ws) _ g.xb _ ns Ae _ p0 s0 (fun h=>h.1 rfl));clear h hs hk p0 s0;clear hz hg IS;go_enter Tryz.func74,Tryz.ntmps74;go_wp2_with fail;refine Hn.out.mono ?_;intro e w1 he;obtain⟨rfl,R1⟩:=R00.out.DS (v:= .string nm) (l':=ws) he;have R:=hid R1;clear Hn he R1 R00;obtain⟨KT,p1,s1⟩:=R.out.px;have zz:=hid (KE ws _ g.xb _ KT Ae _ p1 s1 (fun h=>h.1 rfl) Hz.out);clear p1 s1;go_wp2_with fail;refine zz.out.mono ?_;intro e w2 he;clear zz;cases hn:Uh ws with
 | none=>
  rw[hn] at he;obtain⟨⟨fb,rfl,hb⟩,hm⟩:=he;have hr:=hid (show x.row (nm::ws)= .error 2 by rw[GF Hk.out];exact Yq hn);clear hn;go_wp2;rw[hr.out];exact⟨rfl,AZ (R.out.fail ⟨⟨fb,rfl,hb⟩,hm⟩)⟩
 | some p=>
  obtain⟨n,l⟩:=p;rw[hn] at he;obtain⟨rfl,R2⟩:=R.out.DS he;have Hn:=hid hn;clear R he;have R:=hid R2;clear R2 hn;obtain⟨KT,p1,s1⟩:=R.out.px;obtain⟨sp,sc,rfl,_,_⟩:=s1.JF;have xl0:g.xb < w2.heap.size:=p1.lt;cases l with
  | nil=>
   have x0:w2.cell? ⟨g.xb,0,none⟩=some (.slice sp 0 sc):=p1.cell 0;have Kg:=hid (Dz [] _ g.xb _ _ Ae _ p1 s1);clear p1 s1;go_wp2_with fail;refine Kg.out.mono ?_;intro e w3 he;clear x0 xl0 Kg;obtain⟨rfl,R3⟩:=R.out.DS he;have JL:=hid R3.Bh;have Hr:=hid (show x.row (nm::ws)=x.Fl n 1 by rw[GF Hk.out];unfold qr.DU;rw[Hn.out];rfl);obtain⟨Ki,hP,K8⟩:=R3.Ke H.out;by_cases hx:x.Aa=[]
   ·have ho:=hP.Al;rw[F8 hx] at ho;obtain⟨hc,hf,Bi,Tu,gN,VA,KO⟩:=SD ho;have LK:=QM KO n;have Ho:=hid ho;have HP:=hid hP;have KS:=hid K8;have Hx:=hid hx;have ti:=hid KO;have uQ:True→wrap64 (x.cells+1)=x.cells+1:=fun _=>IntWalk.wrap64_in _ (by omega)
    clear ho hP K8 KO R3 he;cases Pd:x.Aw.find? (fun s=>decide (bs s.name=bs n)) with
    | some s=>
     rw[Pd] at LK;have hr:=hid (Hr.out.trans (show x.Fl n 1= .error 4 by unfold qr.Fl;rw[if_neg (fun h=>h Hx.out),if_pos (by show(x.Aw.find? _).isSome=true;rw[Pd];rfl)]));simp only[Option.map_some,Option.getD_some,Option.isSome_some] at LK;clear Pd Hr hx;go_wp2_with fail;refine(AS _ _ _).mono ?_;rintro e w5 ⟨⟨fb,rfl,hb⟩,hm⟩;go_wp2;rw[hr.out];exact⟨rfl,AZ ⟨⟨fb,rfl,hb⟩,(JL.out.alloc _).Ac hm⟩⟩
    | none=>
     rw[Pd] at LK;have hr:=hid (Hr.out.trans (show x.Fl n 1= .ok {x with Aw:=x.Aw++[⟨n,x.cells,1⟩],cells:=x.cells+1} by unfold qr.Fl;rw[if_neg (fun h=>h Hx.out),if_neg (by show¬(x.Aw.find? _).isSome=true;rw[Pd];simp)]));simp only[Option.map_none,Option.getD_none,Option.isSome_none] at LK;have xP:=hid Pd;clear Pd Hr hx;go_upto_region 13 with fail
     refine Ao (l:=[(0,true),(1,true),(2,true),(3,true),(4,true),(5,true),(6,true),(7,true),(8,true),(9,true),(10,true),(11,true),(12,true),(13,true),(14,false)]) (fun W=>W.cell? ⟨g.xb,3,none⟩=some (.map (some g.sb))∧W.cell? ⟨g.xb,2,none⟩=some (.pointer (some ⟨g.pb,0,none⟩))∧W.cell? ⟨g.pb,1,none⟩=some (.int .i64 x.cells)) 14 (by kernel_rfl) (by kernel_rfl) (by kernel_rfl) (by kernel_rfl) (by kernel_rfl) (fun c a d v w h=>by cases d <;>exact h) ⟨by go_simp,by go_simp,by go_simp⟩ ?_;repeat
      refine Ak (v:= ?_) rfl rfl rfl (fun W hW=> ?_) ?_;rotate_left
      ·obtain⟨s1,s2,s3⟩:=hW;go_simp;rfl
      simp only[Bo]
     refine Ab rfl (fun K hK=> ?_);have t1:=Ad.alloc Ho.out (.cells #[.int .i64 0,.int .i64 0] 200);have t2:=t1.trans (Ad.drew t1.Al);obtain⟨w5,tR,t3'⟩:=Q4 t2.Al (i:=2) rfl n xP.out x.cells 1;go_simp;refine hK _ _ (fun h=>absurd rfl h) ?_;clear hK tR;simp only[A0];have t3:=t2.trans t3';clear t1 t2 t3' LK hc hf Bi Tu gN VA;have MW:=t3.Al.AP (i:=0) rfl;have Sg:=t3.Al.AP (i:=1) rfl;have hc:=MW.cell;have Bi:=MW.lt;have Tu:=Sg.cell;have gN:=Sg.free;have CM:=Sg.lt;have T3:=hid t3;clear MW Sg t3;go_wp2
     go_end0
     rw[hr.out];have t4:=T3.out.trans (T3.out.Al.set (i:=1) rfl 1 (.int .i64 (x.cells+1)));have hy:({x with Aw:=x.Aw++[⟨n,x.cells,1⟩],cells:=x.cells+1}:qr).Aa=[]:=Hx.out;have t5:Ad w3 (g.NS x Ki Ae) (World.setCell w5 ⟨g.pb,1,none⟩ (.int .i64 (x.cells+1))) (g.NS {x with Aw:=x.Aw++[⟨n,x.cells,1⟩],cells:=x.cells+1} Ki Ae):=by
      rw[F8 Hx.out,F8 hy];exact t4
     exact⟨rfl,g,F,Ki,rfl,fun _ h=>h,KS.out.trans t5,⟨t5.Al,HP.out.AT.step t5,fun h=>absurd hy h,fun _=>HP.out.none Hx.out⟩⟩
   ·have hS:=hP.st hx;obtain⟨hc,hf,Bi,Tu,gN,VA,KO,Qs⟩:=Ge hS.Al;have L2:(0:Int) < (g.tv.length:Int)+1:=by omega
    have hr:=hid (Hr.out.trans (show x.Fl n 1= .error 3 by unfold qr.Fl;rw[if_pos hx]));clear Hr hx hS hP K8 R3 he KO Qs;go_wp2_with fail;refine(AS _ _ _).mono ?_;rintro e w5 ⟨⟨fb,rfl,hb⟩,hm⟩;go_wp2;rw[hr.out];exact⟨rfl,AZ ⟨⟨fb,rfl,hb⟩,JL.out.Ac hm⟩⟩
  | cons a l=>
   have x0:w2.cell? ⟨g.xb,0,none⟩=some (.slice sp (l.length+1) sc):=(p1.cell 0).trans (by simp[PV.cells,AY]);have Pb:(0:Int) < (l.length:Int)+1:=by omega
   have JD:0 < l.length+1:=by omega
   have zw:=hid (Uz 6 mb (a::l) _ g.xb _ _ Ae _ p1 s1 (fun h=>h.1 rfl) (fun q hq=>Hz.out q (JV Hn.out q hq)) (Hg.out.Bh R.out.Bh (fun b hb hm=>by rw[List.mem_singleton] at hm;rw[hm] at hb;exact HX.out hb)) HX.out (by decide));clear p1 s1;go_wp2_with fail;refine zw.out.mono ?_;intro e w3 he;clear x0 xl0 zw Pb JD;cases hu:Gx 6 (a::l) with
   | none=>
    rw[hu] at he;obtain⟨⟨fb,rfl,hb⟩,hm⟩:=he;have hr:=hid (show x.row (nm::ws)= .error 2 by rw[GF Hk.out];unfold qr.DU;rw[Hn.out];simp only[];rw[hu]);clear hu;go_wp2;rw[hr.out];exact⟨rfl,AZ (R.out.fail ⟨⟨fb,rfl,hb⟩,hm⟩)⟩
   | some p=>
    obtain⟨z,l2⟩:=p;rw[hu] at he;obtain⟨rfl,R2⟩:=R.out.DS he;have hzr:=Q5 hu;have Hu:=hid hu;clear R he hu;have R:=hid R2;clear R2;obtain⟨UX,p2,s2⟩:=R.out.px;have Kg:=hid (Dz l2 _ g.xb _ _ Ae _ p2 s2);clear p2 s2;go_wp2_with fail;refine Kg.out.mono ?_;intro e w3 he;clear Kg;cases l2 with
    | cons b l3=>
     obtain⟨⟨fb,rfl,hb⟩,hm⟩:=he;have hr:=hid (show x.row (nm::ws)= .error 2 by rw[GF Hk.out];unfold qr.DU;rw[Hn.out];simp only[];rw[Hu.out]);go_wp2;rw[hr.out];exact⟨rfl,AZ (R.out.fail ⟨⟨fb,rfl,hb⟩,hm⟩)⟩
    | nil=>
     obtain⟨rfl,R3⟩:=R.out.DS he;have JL:=hid R3.Bh;have Hr:=hid (show x.row (nm::ws)=x.Fl n z by rw[GF Hk.out];unfold qr.DU;rw[Hn.out];simp only[];rw[Hu.out];rfl);obtain⟨Ki,hP,K8⟩:=R3.Ke H.out;by_cases hx:x.Aa=[]
     ·have ho:=hP.Al;rw[F8 hx] at ho;obtain⟨hc,hf,Bi,Tu,gN,VA,KO⟩:=SD ho;have LK:=QM KO n;have Ho:=hid ho;have HP:=hid hP;have KS:=hid K8;have Hx:=hid hx;have ti:=hid KO;have uQ:True→wrap64 (x.cells+z)=x.cells+z:=fun _=>IntWalk.wrap64_in _ (by omega)
      clear ho hP K8 KO R3 he;cases Pd:x.Aw.find? (fun s=>decide (bs s.name=bs n)) with
      | some s=>
       rw[Pd] at LK;have hr:=hid (Hr.out.trans (show x.Fl n z= .error 4 by unfold qr.Fl;rw[if_neg (fun h=>h Hx.out),if_pos (by show(x.Aw.find? _).isSome=true;rw[Pd];rfl)]));simp only[Option.map_some,Option.getD_some,Option.isSome_some] at LK;clear Pd Hr hx;go_wp2_with fail;refine(AS _ _ _).mono ?_;rintro e w5 ⟨⟨fb,rfl,hb⟩,hm⟩;go_wp2;rw[hr.out];exact⟨rfl,AZ ⟨⟨fb,rfl,hb⟩,(JL.out.alloc _).Ac hm⟩⟩
      | none=>
       rw[Pd] at LK;have hr:=hid (Hr.out.trans (show x.Fl n z= .ok {x with Aw:=x.Aw++[⟨n,x.cells,z⟩],cells:=x.cells+z} by unfold qr.Fl;rw[if_neg (fun h=>h Hx.out),if_neg (by show¬(x.Aw.find? _).isSome=true;rw[Pd];simp)]));simp only[Option.map_none,Option.getD_none,Option.isSome_none] at LK;have xP:=hid Pd;clear Pd Hr hx;go_upto_region 13 with fail
       refine Ao (l:=[(0,true),(1,true),(2,true),(3,true),(4,true),(5,true),(6,true),(7,true),(8,true),(9,true),(10,true),(11,true),(12,true),(13,true),(14,false)]) (fun W=>W.cell? ⟨g.xb,3,none⟩=some (.map (some g.sb))∧W.cell? ⟨g.xb,2,none⟩=some (.pointer (some ⟨g.pb,0,none⟩))∧W.cell? ⟨g.pb,1,none⟩=some (.int .i64 x.cells)) 14 (by kernel_rfl) (by kernel_rfl) (by kernel_rfl) (by kernel_rfl) (by kernel_rfl) (fun c a d v w h=>by cases d <;>exact h) ⟨by go_simp,by go_simp,by go_simp⟩ ?_;repeat
        refine Ak (v:= ?_) rfl rfl rfl (fun W hW=> ?_) ?_;rotate_left
        ·obtain⟨s1,s2,s3⟩:=hW;go_simp;rfl
        simp only[Bo]
       refine Ab rfl (fun K hK=> ?_);have t1:=Ad.alloc Ho.out (.cells #[.int .i64 0,.int .i64 0] 200);have t2:=t1.trans (Ad.drew t1.Al);obtain⟨w5,tR,t3'⟩:=Q4 t2.Al (i:=2) rfl n xP.out x.cells z;go_simp;refine hK _ _ (fun h=>absurd rfl h) ?_;clear hK tR;simp only[A0];have t3:=t2.trans t3';clear t1 t2 t3' LK hc hf Bi Tu gN VA;have MW:=t3.Al.AP (i:=0) rfl;have Sg:=t3.Al.AP (i:=1) rfl;have hc:=MW.cell;have Bi:=MW.lt;have Tu:=Sg.cell;have gN:=Sg.free;have CM:=Sg.lt;have T3:=hid t3;clear MW Sg t3;go_wp2
       go_end0
       rw[hr.out];have t4:=T3.out.trans (T3.out.Al.set (i:=1) rfl 1 (.int .i64 (x.cells+z)));have hy:({x with Aw:=x.Aw++[⟨n,x.cells,z⟩],cells:=x.cells+z}:qr).Aa=[]:=Hx.out;have t5:Ad w3 (g.NS x Ki Ae) (World.setCell w5 ⟨g.pb,1,none⟩ (.int .i64 (x.cells+z))) (g.NS {x with Aw:=x.Aw++[⟨n,x.cells,z⟩],cells:=x.cells+z} Ki Ae):=by
        rw[F8 Hx.out,F8 hy];exact t4
       exact⟨rfl,g,F,Ki,rfl,fun _ h=>h,KS.out.trans t5,⟨t5.Al,HP.out.AT.step t5,fun h=>absurd hy h,fun _=>HP.out.none Hx.out⟩⟩
     ·have hS:=hP.st hx;obtain⟨hc,hf,Bi,Tu,gN,VA,KO,Qs⟩:=Ge hS.Al;have L2:(0:Int) < (g.tv.length:Int)+1:=by omega
      have hr:=hid (Hr.out.trans (show x.Fl n z= .error 3 by unfold qr.Fl;rw[if_pos hx]));clear Hr hx hS hP K8 R3 he KO Qs;go_wp2_with fail;refine(AS _ _ _).mono ?_;rintro e w5 ⟨⟨fb,rfl,hb⟩,hm⟩;go_wp2;rw[hr.out];exact⟨rfl,AZ ⟨⟨fb,rfl,hb⟩,JL.out.Ac hm⟩⟩
end Go.Proofs.YtpdfifdlhpmofaaGreatDoor
