/-
  Part 27 of the proof, packed by program out of F22, F23, F24, F25, F26.
-/
import Derived.Test.YtpdfifdlhpmofaaGreatDoorZ26
import Derived.Test.YtpdfifdlhpmofaaGreatDoorZ14
set_option linter.unusedVariables false
set_option linter.unusedSimpArgs false
set_option maxHeartbeats 3200000
set_option maxRecDepth 100000
namespace Go.Proofs.YtpdfifdlhpmofaaGreatDoor
open Go.RowKit
open Go.Lib (hid)
def ay (g:FG) (x:qr) (wv:Value) (Ae:Int) (lv ov sv:Value) (tp:Option Addr) (tc:Nat) (rows:List Value):List Ob:=
 [.AP g.xb #[wv,.int .i64 Ae,.pointer (some ⟨g.pb,0,none⟩),.map (some g.sb),lv,ov,sv] 151,
  .AP g.pb #[.slice tp rows.length tc,.int .i64 x.cells] 146,
  .PN g.sb (G9 (Fv x.Aw)),
  .row (.slice tp rows.length tc) 165 1 rows.length rows]
structure tH (F:List (Nat×Obj)) (g:FG) (x:qr) (wv:Value) (Ae:Int) (w:World) (lv ov sv:Value) (tp:Option Addr) (tc:Nat) (rows:List Value) (F':List (Nat×Obj)):Prop where
 nL:V1 F F'
 st:Ad w (g.NS x wv Ae) w (ay g x wv Ae lv ov sv tp tc rows)
 AT:Ba w (ay g x wv Ae lv ov sv tp tc rows) F'
 j5:Gg F' x.Aa rows
theorem Ad.Pm {w:World} {A C:List Ob} {b:Ob} (h:AK w (A++b::C)):Ad w (A++b::C) w (A++C):=by
 have:=Ad.drop (A:=A) (B:=[b]) (C:=C) (by simpa using h);simpa using this
theorem ax {F:List (Nat×Obj)} {g:FG} {x:qr} {wv:Value} {Ae:Int} {w:World} (h:PA F g x wv Ae w) (ho:x.Ai=[]):∃lv ov sv tp tc rows F',tH F g x wv Ae w lv ov sv tp tc rows F':=by
 by_cases hx:x.Aa=[]
 ·have hw:=h.Al;have hk:=h.AT;rw[F8 hx] at hw hk;have t:=Ad.O2 (A:=g.fF x wv Ae) (B:=[]) (by rw[List.append_nil];exact hw) 165 1;rw[List.append_nil] at t;refine⟨.map none,.slice none 0 0,.int .i64 0,none,0,[],F,fun _ h=>h,?_,hk.step t,by rw[hx];rfl⟩;rw[F8 hx];exact t
 ·obtain⟨hw,hk,hf⟩:=h.st hx;have LF:g.fr=[]:=List.eq_nil_of_length_eq_zero (by rw[←hf.pr.len,ho];rfl);rw[Lh g x wv Ae LF] at hw hk;have t1:Ad w (g.Ks x wv Ae) w _:=Ad.Pm (A:=[_,_,_,_]) (b:= .PN g.lb _) (C:=[_,_]) hw;have t2:=t1.trans (Ad.Pm (A:=[_,_,_,_]) (C:=[_]) t1.Al);obtain⟨E,K,hr⟩:=Nt (A:=[_,_,_,_]) (B:=[]) t2.Al (hk.step t2);have t3:=t2.trans (Ad.Pm (A:=[_,_,_,_]) (C:=[]) t2.Al);obtain⟨⟨ts,t,e1,e2,e3⟩,_⟩:=hf;have el:(g.tv++[Value.slice g.c.p g.cs.length g.c.c]).length=g.tv.length+1:=by simp
  have e5:ay g x wv Ae (.map (some g.lb)) (.slice (some ⟨g.ob,0,none⟩) (g.fr.length+1) g.oc) (.int .i64 x.Am) (some ⟨g.tb,0,none⟩) g.tc (g.tv++[.slice g.c.p g.cs.length g.c.c])=[.AP g.xb #[wv,.int .i64 Ae,.pointer (some ⟨g.pb,0,none⟩),.map (some g.sb),.map (some g.lb),.slice (some ⟨g.ob,0,none⟩) (g.fr.length+1) g.oc,.int .i64 x.Am] 151,
    .AP g.pb #[.slice (some ⟨g.tb,0,none⟩) (g.tv.length+1) g.tc,.int .i64 x.cells] 146,
    .PN g.sb (G9 (Fv x.Aw)),
    .row (.slice (some ⟨g.tb,0,none⟩) (g.tv.length+1) g.tc) 165 1 (g.tv.length+1) (g.tv++[.slice g.c.p g.cs.length g.c.c])]:=by unfold ay;rw[el]
  refine⟨.map (some g.lb),.slice (some ⟨g.ob,0,none⟩) (g.fr.length+1) g.oc,.int .i64 x.Am,some ⟨g.tb,0,none⟩,g.tc,g.tv++[.slice g.c.p g.cs.length g.c.c],E++F,fun _ h=>List.mem_append_right _ h,?_,?_,?_⟩
  rotate_right
  ·rw[e1];exact(e2.sub fun _ h=>List.mem_append_right _ h).kv hr (e3.sub fun _ h=>List.mem_append_right _ h)
  ·rw[Fx hx,e5,Lh g x wv Ae LF];exact t3
  ·rw[e5];exact K
theorem jh {w:World} {L:List Ob} {b n s:Nat} {c:Array Value} {T:TypeId} (hc:c.size=n*s) (hn:n≤maxLen) (h1:∀u,u∈c.toList→u.oneCell'=true) (h:AK w (L++[.AP b c T])):
  Ad w (L++[.AP b c T]) w (L++[.row (.slice (some ⟨b,0,none⟩) n n) T s n c.toList]):=by
 have k:=h.swap (i:=L.length) (o':= .row (.slice (some ⟨b,0,none⟩) n n) T s n c.toList) (o:= .AP b c T) (by simp) (Av.refl _ _) ?_ (by simp[Ob.fp,Value.ownBlock]) (fun x hx=> .inl (by simpa[Ob.fp,Value.ownBlock] using hx))
 ·simpa using k
 ·have hb:=h.AP (i:=L.length) (b:=b) (c:=c) (T:=T) (by simp);refine⟨by simp[hc],.inr ⟨b,n,c,rfl,Nat.zero_le _,hb,Nat.le_refl _,hn,by simp[hc],by simp[hc,List.take_of_length_le]⟩⟩
theorem gu:(Tryz.prog.info? 165).map (fun i=>(i.zero,i.size,i.bytes))=some (some (.slice none 0 0),1,24):=by kernel_rfl
theorem J1 {x:qr} {w:ByteArray} {r:Ws} (h:bs w=AE):x.row (w::r)=if r≠[] then .error 2 else if x.Ai≠[] then .error 3 else .ok {x with Aa:=x.Aa++[.nil],AB:=[],Am:=0,Ai:=[]}:=by
 show(if _ then _ else _)=_;rw[if_neg (by rw[h];decide),if_pos h]
theorem ZZ {F:List (Nat×Obj)} {g:FG} {x:qr} {wv:Value} {Ae:Int} {w:World} (h:PA F g x wv Ae w) (hl:g.fr.length≤100):
  Calls Tryz.prog 75 #[.pointer (some ⟨g.xb,0,none⟩)] w (jx (if x.Ai=[] then none else some 3) Ae w):=by
 by_cases hx:x.Aa=[]
 ·have:=h.Al;rw[F8 hx] at this;rw[if_pos (h.none hx).1];exact Zk w g x wv Ae this
 ·have hS:=h.st hx;have e:=hS.Hj.pr.len;refine(dq w g x wv Ae hS.Al hl).mono fun e' w' he=> ?_
  by_cases ho:x.Ai=[]
  ·rw[if_pos ho];rw[if_neg (by rw[←e,ho];simp)] at he;exact he
  ·rw[if_neg ho];rw[if_pos (by rw[←e];exact List.length_pos_iff.2 ho)] at he;exact he
theorem Qu (nm:ByteArray) (ws:Ws) (mb:Nat) (w:World) (g:FG) (x:qr) (wv:Value) (Ae:Int) (F:List (Nat×Obj)) (h:PA F g x wv Ae w) (hs:Sl w (fun b=>b≠g.xb) wv (AY (nm::ws))) (hb:g.fr.length≤100) (L2:x.Aa.length≤3000) (hk:bs nm=AE):
  Calls Tryz.prog 74 #[.pointer (some ⟨g.xb,0,none⟩)] w (UW (x.row (nm::ws)) F g x wv Ae w):=by
 have R00:=hid (Rd.start h.kD.px hs);have H:=hid h;have Hk:=hid hk;have q0:=Ar (x:=nm) (k:=AN) (by rw[hk];decide);unfold AN at q0;have q1:=BN hk;unfold AE at q1;have lg:= @run_makeMap Tryz.prog;obtain⟨j0,hj,I9,EK,JW⟩:=info_parts gu;obtain⟨ns,p0,s0⟩:=R00.out.px;have Hn:=hid (Ig (nm::ws) _ g.xb _ ns Ae _ p0 s0 (fun h=>h.1 rfl));clear h hs hk p0 s0;go_enter Tryz.func74,Tryz.ntmps74;go_wp2_with fail;refine Hn.out.mono ?_;intro e w1 he;obtain⟨rfl,R1⟩:=R00.out.DS (v:= .string nm) (l':=ws) he;have R:=hid R1;clear Hn he R1 R00;obtain⟨UX,p2,s2⟩:=R.out.px;have Kg:=hid (Dz ws _ g.xb _ _ Ae _ p2 s2);clear p2 s2;go_wp2_with fail;refine Kg.out.mono ?_;intro e w3 he;clear Kg;cases ws with
 | cons b l3=>
  obtain⟨⟨fb,rfl,hb⟩,hm⟩:=he;have hr:=hid (show x.row (nm::b::l3)= .error 2 by rw[J1 Hk.out,if_pos (by simp)]);go_wp2;rw[hr.out];exact⟨rfl,AZ (R.out.fail ⟨⟨fb,rfl,hb⟩,hm⟩)⟩
 | nil=>
  obtain⟨rfl,R3⟩:=R.out.DS he;have JL:=hid R3.Bh;obtain⟨Ki,hP,K8⟩:=R3.Ke H.out;have He:=hid (ZZ hP hb);have HP:=hid hP;have KS:=hid K8;clear he R3 R hP K8;go_wp2_with fail;refine He.out.mono ?_;intro e w4 he;by_cases ho:x.Ai=[];rotate_left
  ·rw[if_neg ho] at he;obtain⟨⟨fb,rfl,hb⟩,hm⟩:=he;have hr:=hid (show x.row [nm]= .error 3 by rw[J1 Hk.out,if_neg (by simp),if_pos ho]);clear ho;go_wp2;rw[hr.out];exact⟨rfl,AZ ⟨⟨fb,rfl,hb⟩,JL.out.Ac hm⟩⟩
  rw[if_pos ho] at he;obtain⟨rfl,hm⟩:=he;have hr:=hid (show x.row [nm]= .ok {x with Aa:=x.Aa++[.nil],AB:=[],Am:=0,Ai:=[]} by rw[J1 Hk.out,if_neg (by simp),if_neg (fun h=>h ho)]);have OU:=Ad.quiet HP.out.Al hm;have zg:PA F g x Ki Ae w4:=⟨OU.Al,HP.out.AT.quiet hm,HP.out.Hj,HP.out.none⟩;obtain⟨lv,ov,sv,tp,tc,rows,F',hF⟩:=ax zg ho;have O7:rows.length≤3000:=by rw[hF.j5.len];exact L2
  have HF:=hid hF;have tg:=hid (KS.out.trans (OU.trans hF.st));have MW:=hF.st.Al.AP (i:=0) rfl;have Sg:=hF.st.Al.AP (i:=1) rfl;have x2:w4.cell? ⟨g.xb,2,none⟩=some (.pointer (some ⟨g.pb,0,none⟩)):=MW.cell 2;have p0:w4.cell? ⟨g.pb,0,none⟩=some (.slice tp rows.length tc):=Sg.cell 0;clear ho hm OU zg hF He MW Sg;go_upto_region 18 with fail
  refine Ao (l:=[(0,true),(1,true),(2,true),(3,true),(4,true),(5,true),(6,true),(7,true),(8,true),(9,true),(10,true),(11,false),(12,false),(13,true),(14,true),(15,false)]) (fun W=>W.cell? ⟨g.xb,2,none⟩=some (.pointer (some ⟨g.pb,0,none⟩))∧W.cell? ⟨g.pb,0,none⟩=some (.slice tp rows.length tc)) 15 (by kernel_rfl) (by kernel_rfl) (by kernel_rfl) (by kernel_rfl) (by kernel_rfl) (fun c a d v w h=>by cases d <;>exact h) ⟨x2,p0⟩ ?_;repeat
   refine Ak (v:= ?_) rfl rfl rfl (fun W hW=> ?_) ?_;rotate_left
   ·obtain⟨s1,s2⟩:=hW;go_simp;rfl
   simp only[Bo]
  refine Ab rfl (fun K hK=> ?_);go_simp;have xW:=HF.out.st.Al.AP (i:=0) rfl;have zG:=HF.out.st.Al.AP (i:=1) rfl;have Et:=xW.lt;have CM:=zG.lt;refine hK _ _ (fun _=>⟨by go_simp,by go_simp⟩) ?_;clear hK xW zG Et CM x2 p0;refine Ab rfl (fun K hK=> ?_);refine BY 24 _ _ _ j0 _ #[.slice none 0 0] _ HF.out.st.Al (k:=3) rfl (by rfl) (by rfl) Tryz.underlying144 hj I9 EK JW rfl (by omega) (by rfl) (by rfl) rfl (by simp[Value.oneCell']) (by unfold maxLen;omega) (by omega) ?_;intro g6 Bb w6 AI _;have z1:w6.cell? ⟨g.xb,2,none⟩=some (.pointer (some ⟨g.pb,0,none⟩)):=(AI.Al.AP (i:=0) rfl).cell 2;have z2:w6.cell? ⟨g.pb,0,none⟩=some (.slice tp rows.length tc):=(AI.Al.AP (i:=1) rfl).cell 0;have zf:w6.frozen? ⟨g.pb,0,none⟩=false:=(AI.Al.AP (i:=1) rfl).free 0;have zl:g.pb < w6.heap.size:=(AI.Al.AP (i:=1) rfl).lt;refine hK _ _ (fun _=>⟨z1,z2⟩) (DM rfl ?_);clear hK;simp only[Bo];repeat
   refine Ak (v:= ?_) rfl rfl rfl (fun W hW=> ?_) ?_;rotate_left
   ·obtain⟨s1,s2⟩:=hW;go_simp;rfl
   simp only[Bo]
  refine Ab rfl (fun K hK=> ?_);go_simp;refine hK _ _ (fun h=>absurd rfl h) ?_;clear hK;simp only[A0];have t5:=tg.out.trans (AI.trans (AI.Al.set (i:=1) rfl 0 (.slice (some ⟨g6,0,none⟩) (rows.length+1) Bb)));have k5:=HF.out.AT.step (AI.trans (AI.Al.set (i:=1) rfl 0 (.slice (some ⟨g6,0,none⟩) (rows.length+1) Bb)));clear z1 z2 zf zl AI tg;generalize World.setCell w6 ⟨g.pb,0,none⟩ (.slice (some ⟨g6,0,none⟩) (rows.length+1) Bb)=w7 at t5 k5⊢;have cF:=t5.Al.AP (i:=0) rfl;have xl:=cF.lt;have xf:=cF.free;have xc:=cF.cell;have t6:=t5.trans (t5.Al.set (i:=0) rfl 4 (.map (some w7.heap.size)));have t7:=t6.trans (t6.Al.set (i:=0) rfl 6 (.int .i64 0));have t8:=t7.trans (Ad.new t7.Al (.map #[] 0));have k8:=k5.step ((t5.Al.set (i:=0) rfl 4 (.map (some w7.heap.size))).trans ((t6.Al.set (i:=0) rfl 6 (.int .i64 0)).trans (Ad.new t7.Al (.map #[] 0))));have GK:(World.heap (World.setCell (World.setCell w7 ⟨g.xb,4,none⟩ (.map (some w7.heap.size))) ⟨g.xb,6,none⟩ (.int .i64 0))).size=w7.heap.size:=by simp[World.setCell]
  rw[GK] at t8 k8;have T8:=hid t8;have HK:=hid k8;clear t5 t6 t7 t8 k5 k8 GK cF;go_upto_region 20 with fail
  have t8:=T8.out;have k8:=HK.out;clear T8 HK xl xf xc;obtain⟨lb,Ox⟩:∃b,b=w7.heap.size:=⟨_,rfl⟩;rw[←Ox] at t8 k8⊢;generalize World.alloc (World.setCell (World.setCell w7 ⟨g.xb,4,none⟩ (.map (some lb))) ⟨g.xb,6,none⟩ (.int .i64 0)) (.map #[] 0)=w8 at t8 k8⊢;have Gd:=t8.Al.AP (i:=0) rfl;have KP:=t8.Al.AP (i:=1) rfl;have x2:w8.cell? ⟨g.xb,2,none⟩=some (.pointer (some ⟨g.pb,0,none⟩)):=Gd.cell 2;have p0:w8.cell? ⟨g.pb,0,none⟩=some (.slice (some ⟨g6,0,none⟩) (rows.length+1) Bb):=KP.cell 0;have xc:=Gd.cell;have xl:=Gd.lt;have xf:=Gd.free;have pl:=KP.lt;have T8:=hid t8;have HK:=hid k8;have HLB:=hid Ox;have hw:True→IntKind.i64.wrap (rows.length:Int)=rows.length:=fun _=>IntWalk.i64_in _ (by omega)
  have h0:(0:Int)≤(rows.length:Int):=by omega
  have h1:(rows.length:Int) < (rows.length:Int)+1:=by omega
  clear t8 k8 Gd KP Ox;refine Ao (l:=[(0,true),(1,true),(2,true),(3,true),(4,true),(5,true),(6,true),(7,true),(8,true),(9,true),(10,true),(11,true),(12,true),(13,true),(14,true),(15,true),(16,true),(17,true),(18,true),(19,false),(20,true),(21,true),(22,false)]) (fun W=>W.cell? ⟨g.xb,2,none⟩=some (.pointer (some ⟨g.pb,0,none⟩))∧W.cell? ⟨g.pb,0,none⟩=some (.slice (some ⟨g6,0,none⟩) (rows.length+1) Bb)) 22 (by kernel_rfl) (by kernel_rfl) (by kernel_rfl) (by kernel_rfl) (by kernel_rfl) (fun c a d v w h=>by cases d <;>exact h) ⟨x2,p0⟩ ?_;repeat
   refine Ak (v:= ?_) rfl rfl rfl (fun W hW=> ?_) ?_;rotate_left
   ·obtain⟨s1,s2⟩:=hW;go_simp;rfl
   simp only[Bo]
  refine Ab rfl (fun K hK=> ?_);go_simp;refine hK _ _ (fun _=>⟨by go_simp,by go_simp⟩) ?_;clear hK;repeat
   refine Ak (v:= ?_) rfl rfl rfl (fun W hW=> ?_) ?_;rotate_left
   ·obtain⟨s1,s2⟩:=hW;go_simp;rfl
   simp only[Bo]
  refine Ab rfl (fun K hK=> ?_);go_simp;refine hK _ _ (fun h=>absurd rfl h) ?_;clear hK hw h0 h1 x2 p0 xc xf xl pl;simp only[A0];go_wp2
  go_end0
  rw[hr.out];have t8:=T8.out;have s9:=t8.Al.set (i:=0) rfl 5 (.slice (some ⟨w8.heap.size,0,none⟩) 1 1);have s10:=Ad.new s9.Al (.cells #[.pointer (some ⟨g6,rows.length,none⟩),.nilFunc,.bool false] 205);have GK:(World.heap (World.setCell w8 ⟨g.xb,5,none⟩ (.slice (some ⟨w8.heap.size,0,none⟩) 1 1))).size=w8.heap.size:=by simp[World.setCell]
  rw[GK] at s10;have s11:=s9.trans (s10.trans (Ad.drew s10.Al));have s12:=s11.trans (jh (n:=1) (s:=3) rfl (by unfold maxLen;omega) (by simp[Value.oneCell']) s11.Al);have s13:=s12.trans (Ad.O2 (B:=[]) (by rw[List.append_nil];exact s12.Al) 208 1 |> fun h=>by rw[List.append_nil] at h;exact h);have t13:=t8.trans s13;have el:(x.Aa++[Ck.nil])≠[]:=by simp
  have cO:g.xb=g.xb:=rfl;obtain⟨ob,vv⟩:∃b,b=w8.heap.size:=⟨_,rfl⟩;rw[←vv] at t13 s13⊢;have CI:SV F' {g with tb:=g6,tc:=Bb,tv:=rows,c:=⟨none,0⟩,cs:=[],lb:=lb,ob:=ob,oc:=1,fr:=[]} {x with Aa:=x.Aa++[.nil],AB:=[],Am:=0,Ai:=[]}:=⟨⟨x.Aa,.nil,rfl,HF.out.j5,rfl⟩,rfl⟩;refine⟨rfl,{g with tb:=g6,tc:=Bb,tv:=rows,c:=⟨none,0⟩,cs:=[],lb:=lb,ob:=ob,oc:=1,fr:=[]},F',Ki,rfl,HF.out.nL,?_,.of ⟨?_,?_,CI⟩⟩
  ·rw[Fx (x:={x with Aa:=x.Aa++[.nil],AB:=[],Am:=0,Ai:=[]}) el,Lh _ _ _ _ rfl];exact t13
  ·rw[Lh _ _ _ _ rfl];exact t13.Al
  ·rw[Lh _ _ _ _ rfl];exact HK.out.step s13
theorem Sz {x:qr} {w:ByteArray} {r:Ws} (h:bs w=D7):x.row (w::r)=if r≠[] then .error 2 else match x.Ai.getLast? with
  | none=> .error 3
  | some f=> .ok ({x with Ai:=x.Ai.dropLast}.add f.done):=by
 show(if _ then _ else _)=_;rw[if_neg (by rw[h];decide),if_neg (by rw[h];decide),if_pos h];rfl
theorem Zw {F:List (Nat×Obj)} {k:IF} {fn:Fn} {cap:Array Value} (h:MU F k fn cap):∃j,fn= .func j∧(∀(args:Array Value) (w:World),(callFunc j args).run Tryz.prog w= .ok (.enter j args) w)∧∀(b:Ck) (p:Option Addr) (n c:Nat) (w:World),(∀q o,(q,o)∈F→w.heap[q]?=some o)→Calls Tryz.prog j (#[.slice p n c]++cap) w (QX k b (.slice p n c) w):=by
 cases k with
 | atomic=>obtain⟨rfl,rfl⟩:=h;exact⟨_,rfl,fun _ _=>by kernel_rfl,fun b p n c w _=>Qy b p n c w⟩
 | ES a=>obtain⟨rfl,cb,rfl,hm⟩:=h;exact⟨_,rfl,fun _ _=>by kernel_rfl,fun b p n c w hF=>Xy a cb b p n c w (hF _ _ hm)⟩
 | loop n=>obtain⟨rfl,cb,rfl,hm⟩:=h;exact⟨_,rfl,fun _ _=>by kernel_rfl,fun b p m c w hF=>Tx n cb b p m c w (hF _ _ hm)⟩
theorem Vg {w:World} {e:TypeId} {s n cap g:Nat} {xs:List Value} (h:w.ownsRow 0 e s (.slice (some ⟨g,0,none⟩) n cap) n xs):n≤cap∧cap≤maxLen:=by
 obtain⟨p,c,hv,h1,h2⟩:=Ww h;cases hv;exact⟨h1,h2⟩
theorem KH {w:World} {b i:Nat} {xs:List Value} {v:Value} (h:∀j,(hj:j < xs.length)→w.cell? ⟨b,j,none⟩=some xs[j]) (e:xs[i]?=some v):w.cell? ⟨b,i,none⟩=some v:=by
 obtain⟨h1,h2⟩:=List.getElem?_eq_some_iff.1 e;rw[h i h1,h2]
theorem iS {F:List (Nat×Obj)} {g:FG} {x:qr} {wv:Value} {Ae:Int} {w:World} {fs:List Im} {f:Im} {os:List Fr} {o:Fr} (hS:M3 F g x wv Ae w) (LF:g.fr=fs++[f]) (II:x.Ai=os++[o]) (w5:World)
  (h5:∃obj,w5=(World.alloc (World.setCell w ⟨g.xb,5,none⟩ (.slice (some ⟨g.ob,0,none⟩) (fs.length+1) g.oc)) obj).drew.drew∧obj=Obj.cells #[.pointer (some ⟨f.bb,0,none⟩),.func f.fn #[] f.cap,.bool f.AP] 205 (0,0)):
  ∃E,Ad w (g.Ax x wv Ae) w5 (FG.Ax {g with fr:=fs} {x with Ai:=os} wv Ae)∧Ba w5 (FG.Ax {g with fr:=fs} {x with Ai:=os} wv Ae) (E++F)∧D4 (E++F) (.slice f.s.p f.us.length f.s.c) f.us∧SV (E++F) {g with fr:=fs} {x with Ai:=os}∧BR w5 f.bb #[.slice f.s.p f.us.length f.s.c] 165∧BR w5 w.heap.size #[.pointer (some ⟨f.bb,0,none⟩),.func f.fn #[] f.cap,.bool f.AP] 205:=by
 obtain⟨obj,rfl,vw⟩:=h5;obtain⟨hw,hk,hf⟩:=hS;obtain⟨cI,Qt⟩:=hf;have gS:g.fr.length=fs.length+1:=by rw[LF];simp
 have eo:g.C5.take ((fs.length+1)*3)=FG.C5 {g with fr:=fs}:=by
  have e1:g.C5=FG.C5 {g with fr:=fs}++f.cells:=by unfold FG.C5;rw[LF,List.flatMap_append];simp
  have e2:(FG.C5 {g with fr:=fs}).length=(fs.length+1)*3:=by rw[YF];show 3*(fs.length+1)=_;omega
  rw[e1,←e2,List.take_left]
 rw[LF,II] at Qt;obtain⟨r,o',e,hr,_⟩:=Qt.Dg;obtain⟨rfl,_⟩:=List.append_inj' e rfl;rw[Kv g x wv Ae LF] at hw hk⊢;have a1:=hw.set (i:=0) rfl 5 (.slice (some ⟨g.ob,0,none⟩) (fs.length+1) g.oc);have a2:=a1.trans (Ad.alloc a1.Al obj);have a3:=(a2.trans (Ad.drew a2.Al)).trans (Ad.drew (Ad.drew a2.Al).Al);have a4:=a3.trans (a3.Al.take (i:=5) rfl (fs.length+1) (by omega));rw[eo] at a4;have a5:=a4.trans (Ad.Pm (A:=[_,_,_,_,_,_,_]) a4.Al);obtain⟨E,K,my⟩:=Nt (A:=[_,_,_,_,_,_,_]) a5.Al (hk.step a5);have a6:=a5.trans (Ad.Pm (A:=[_,_,_,_,_,_,_]) a5.Al);have CI:SV F {g with fr:=fs} {x with Ai:=os}:=⟨cI,hr⟩;have GK:(World.heap (World.setCell w ⟨g.xb,5,none⟩ (.slice (some ⟨g.ob,0,none⟩) (fs.length+1) g.oc))).size=w.heap.size:=by simp[World.setCell]
 have Si:=BR.new (World.setCell w ⟨g.xb,5,none⟩ (.slice (some ⟨g.ob,0,none⟩) (fs.length+1) g.oc)) #[.pointer (some ⟨f.bb,0,none⟩),.func f.fn #[] f.cap,.bool f.AP] 205;rw[GK] at Si;exact⟨E,a6,K,my,CI.sub (fun _ h=>List.mem_append_right _ h),a4.Al.AP (i:=7) rfl,by rw[vw];exact Si⟩
theorem VI (nm:ByteArray) (ws:Ws) (mb:Nat) (w:World) (g:FG) (x:qr) (wv:Value) (Ae:Int) (F:List (Nat×Obj)) (h:PA F g x wv Ae w) (hs:Sl w (fun b=>b≠g.xb) wv (AY (nm::ws))) (hb:SW g) (hk:bs nm=D7):
  Calls Tryz.prog 74 #[.pointer (some ⟨g.xb,0,none⟩)] w (UW (x.row (nm::ws)) F g x wv Ae w):=by
 have R00:=hid (Rd.start h.kD.px hs);have H:=hid h;have Hk:=hid hk;have q0:=Ar (x:=nm) (k:=AN) (by rw[hk];decide);unfold AN at q0;have q1:=Ar (x:=nm) (k:=AE) (by rw[hk];decide);unfold AE at q1;have q2:=BN hk;unfold D7 at q2;obtain⟨ns,p0,s0⟩:=R00.out.px;have Hn:=hid (Ig (nm::ws) _ g.xb _ ns Ae _ p0 s0 (fun h=>h.1 rfl));clear h hs hk p0 s0;go_enter Tryz.func74,Tryz.ntmps74;go_wp2_with fail;refine Hn.out.mono ?_;intro e w1 he;obtain⟨rfl,R1⟩:=R00.out.DS (v:= .string nm) (l':=ws) he;have R:=hid R1;clear Hn he R1 R00;obtain⟨UX,p2,s2⟩:=R.out.px;have Kg:=hid (Dz ws _ g.xb _ _ Ae _ p2 s2);clear p2 s2;go_wp2_with fail;refine Kg.out.mono ?_;intro e w3 he;clear Kg;cases ws with
 | cons b l3=>
  obtain⟨⟨fb,rfl,hb⟩,hm⟩:=he;have hr:=hid (show x.row (nm::b::l3)= .error 2 by rw[Sz Hk.out,if_pos (by simp)]);go_wp2;rw[hr.out];exact⟨rfl,AZ (R.out.fail ⟨⟨fb,rfl,hb⟩,hm⟩)⟩
 | nil=>
  obtain⟨rfl,R3⟩:=R.out.DS he;have JL:=hid R3.Bh;have HR:=hid (show x.row [nm]=match x.Ai.getLast? with | none=> .error 3 | some f=> .ok ({x with Ai:=x.Ai.dropLast}.add f.done) by rw[Sz Hk.out,if_neg (by simp)]);obtain⟨Ki,hP,K8⟩:=R3.Ke H.out;have HB:=hid hb;clear he R3 hb;by_cases hx:x.Aa=[]
  ·have ho:=hP.Al;rw[F8 hx] at ho;obtain⟨hc,hf,Bi,Tu,gN,VA,KO⟩:=SD ho;have hr:=hid (HR.out.trans (show _=Except.error 3 by rw[(hP.none hx).1];rfl));clear ho hP K8 KO hx;go_wp2_with fail;refine(AS _ _ _).mono ?_;rintro e w5 ⟨⟨fb,rfl,hb⟩,hm⟩;go_wp2;rw[hr.out];exact⟨rfl,AZ ⟨⟨fb,rfl,hb⟩,JL.out.Ac hm⟩⟩
  have hS:=hP.st hx;rcases List.eq_nil_or_concat g.fr with LF | ⟨fs,f,LF⟩
  ·obtain⟨hc,hf,Bi,Tu,gN,VA,KO,Qs⟩:=Ge hS.Al;have ho:x.Ai=[]:=List.eq_nil_of_length_eq_zero (by rw[hS.Hj.pr.len,LF];rfl);have hr:=hid (HR.out.trans (show _=Except.error 3 by rw[ho];rfl));rw[LF] at hc;simp only[List.length_nil,Nat.zero_add] at hc;clear ho hP K8 KO hx Qs hS LF;go_wp2_with fail;refine(AS _ _ _).mono ?_;rintro e w5 ⟨⟨fb,rfl,hb⟩,hm⟩;go_wp2;rw[hr.out];exact⟨rfl,AZ ⟨⟨fb,rfl,hb⟩,JL.out.Ac hm⟩⟩
  ·rw[List.concat_eq_append] at LF;have Qt:=hS.Hj.pr;rw[LF] at Qt;obtain⟨os,o,II,ou,qg⟩:=Qt.Dg;have hr:=hid (HR.out.trans (show _=Except.ok ({x with Ai:=os}.add o.done) by rw[II];simp));obtain⟨n,hn⟩:∃n,n=fs.length+1:=⟨_,rfl⟩;have gS:g.fr.length=n:=by rw[LF,hn];simp
   have hj:g.fr[fs.length]?=some f:=by rw[LF];simp
   obtain⟨tcl,tfr,tlt⟩:=BP (hS.Al.row (i:=5) rfl);have yF:=(Vg (hS.Al.row (i:=5) rfl)).1;have e0:∀i,i < 3→g.C5[n*3+i]?=f.cells[i]?:=fun i hi=>by
    rw[show n*3+i=3*(fs.length+1)+i by omega];exact O1 g fs.length f hj i hi
   have o0:w3.cell? ⟨g.ob,n*3,none⟩=some (.pointer (some ⟨f.bb,0,none⟩)):=KH tcl (e0 0 (by omega));have o1:w3.cell? ⟨g.ob,n*3+1,none⟩=some (.func f.fn #[] f.cap):=KH tcl (e0 1 (by omega));have o2:w3.cell? ⟨g.ob,n*3+2,none⟩=some (.bool f.AP):=KH tcl (e0 2 (by omega));have x5:w3.cell? ⟨g.xb,5,none⟩=some (.slice (some ⟨g.ob,0,none⟩) (n+1) g.oc):=by rw[←gS];exact(Ge hS.Al).c 5
   have CN:=hS.Al;rw[Kv g x Ki Ae LF] at CN;have bb0:w3.cell? ⟨f.bb,0,none⟩=some (.slice f.s.p f.us.length f.s.c):=(CN.AP (i:=7) rfl).cell 0;have bbl:=(CN.AP (i:=7) rfl).lt;have xl:=(CN.AP (i:=0) rfl).lt;have yH:n≤100:=by rw[←gS];exact HB.out.fr
   rw[gS] at yF;have HS:=hid hS;have zD:=hid LF;have lX:=hid II;have jB:=hid ou;have zE:=hid qg;have Hnl:=hid gS;have KS:=hid K8;have Hx:=hid hx;have lW:=hid CN;have Hn:=hid hn;have xW:=hid bb0;have pT:=hid bbl;have hw:True→IntKind.i64.wrap (n:Int)=n:=fun _=>IntWalk.i64_in _ (by omega)
   have h0:(0:Int)≤(n:Int):=by omega
   have h1:(n:Int) < (n:Int)+1:=by omega
   have h2:¬(n:Int)+1 < 2:=by omega
   have h3:n≤g.oc:=by omega
   clear hS LF II ou qg gS hj tcl tfr e0 Qt hP K8 hx CN hn HR bb0 bbl;go_upto_region 25 with fail
   refine Ao (l:=[(0,true),(1,true),(2,true),(3,true),(4,true),(5,true),(6,true),(7,true),(8,true),(9,true),(10,true),(11,true),(12,false),(13,false)]) (fun W=>W.cell? ⟨g.xb,5,none⟩=some (.slice (some ⟨g.ob,0,none⟩) (n+1) g.oc)∧W.cell? ⟨g.ob,n*3,none⟩=some (.pointer (some ⟨f.bb,0,none⟩))∧W.cell? ⟨g.ob,n*3+1,none⟩=some (.func f.fn #[] f.cap)∧W.cell? ⟨g.ob,n*3+2,none⟩=some (.bool f.AP)) 13 (by kernel_rfl) (by kernel_rfl) (by kernel_rfl) (by kernel_rfl) (by kernel_rfl) (fun c a d v w h=>by cases d <;>exact h) ⟨x5,o0,o1,o2⟩ ?_;repeat
    refine Ak (v:= ?_) rfl rfl rfl (fun W hW=> ?_) ?_;rotate_left
    ·obtain⟨s1,s2,s3,s4⟩:=hW;go_simp;rfl
    simp only[Bo]
   refine Ab rfl (fun K hK=> ?_);go_simp;refine hK _ _ (fun _=>⟨by go_simp,by go_simp,by go_simp,by go_simp⟩) ?_;clear hK;refine Ab rfl (fun K hK=> ?_);go_simp;refine hK _ _ (fun h=>absurd rfl h) ?_;clear hK o0 o1 o2;simp only[A0];go_upto_region 26 with fail
   refine Ao (l:=[(0,true),(1,true),(2,true),(3,true),(4,true),(5,true),(6,true),(7,true),(8,true),(9,true),(10,true),(11,true),(12,true),(13,true),(14,false)]) (fun W=>W.cell? ⟨g.xb,5,none⟩=some (.slice (some ⟨g.ob,0,none⟩) (n+1) g.oc)) 14 (by kernel_rfl) (by kernel_rfl) (by kernel_rfl) (by kernel_rfl) (by kernel_rfl) (fun c a d v w h=>by cases d <;>exact h) (by go_simp) ?_;repeat
    refine Ak (v:= ?_) rfl rfl rfl (fun W s1=> ?_) ?_;rotate_left
    ·go_simp;rfl
    simp only[Bo]
   have xf:=(Ge HS.out.Al).f 5;refine Ab rfl (fun K hK=> ?_);go_simp;refine hK _ _ (fun h=>absurd rfl h) ?_;clear hK hw h0 h1 h2 h3 x5 xf yF xl tlt;simp only[A0];have hp:=iS HS.out zD.out lX.out _ ⟨_,rfl,rfl⟩;rw[←Hn.out] at hp;generalize (World.drew (World.drew (World.alloc (World.setCell w3 ⟨g.xb,5,none⟩ (.slice (some ⟨g.ob,0,none⟩) n g.oc)) (.cells #[.pointer (some ⟨f.bb,0,none⟩),.func f.fn #[] f.cap,.bool f.AP] 205))))=w5 at hp⊢;obtain⟨E,yn,K5,my,CI,o5,sy⟩:=hp;obtain⟨j,hj,oX,Dp⟩:=Zw (zE.out.cl.sub (E:=E++F) (fun _ h=>List.mem_append_right _ h));obtain⟨b7,sx⟩:∃b,b=w3.heap.size:=⟨_,rfl⟩;rw[←sx] at sy⊢;have c0:w5.cell? ⟨b7,0,none⟩=some (.pointer (some ⟨f.bb,0,none⟩)):=sy.cell 0;have c1:w5.cell? ⟨b7,1,none⟩=some (.func (.func j) #[] f.cap):=by rw[←hj];exact sy.cell 1
   have c2:w5.cell? ⟨f.bb,0,none⟩=some (.slice f.s.p f.us.length f.s.c):=o5.cell 0;have ST5:=hid yn;have ya:=hid K5;have HRI:=hid my;have HFI:=hid CI;have HBB:=hid o5;have HB7:=hid sy;have xU:=hid Dp;have HCF:=hid oX;clear yn K5 my CI o5 sy Dp hj sx oX;go_upto_region 27 with fail
   refine Ao (l:=[(0,true),(1,true),(2,true),(3,true),(4,true),(5,true),(6,true),(7,false),(8,false)]) (fun W=>W.cell? ⟨b7,0,none⟩=some (.pointer (some ⟨f.bb,0,none⟩))∧W.cell? ⟨b7,1,none⟩=some (.func (.func j) #[] f.cap)∧W.cell? ⟨f.bb,0,none⟩=some (.slice f.s.p f.us.length f.s.c)) 8 (by kernel_rfl) (by kernel_rfl) (by kernel_rfl) (by kernel_rfl) (by kernel_rfl) (fun c a d v w h=>by cases d <;>exact h) ⟨c0,c1,c2⟩ ?_;repeat
    refine Ak (v:= ?_) rfl rfl rfl (fun W hW=> ?_) ?_;rotate_left
    ·obtain⟨s1,s2,s3⟩:=hW;go_simp;rfl
    simp only[Bo]
   refine Ab rfl (fun K hK=> ?_);have oX:=HCF.out;go_simp;clear oX;have m5:Av [] w5 w5.drew:=(Av.refl _ _).drew;refine(xU.out o.body f.s.p f.us.length f.s.c w5.drew (fun q p hq=>(ya.out.quiet m5).heap q p hq)).mono ?_;intro e w6 he;obtain⟨T,nb,o2,rfl,dX,Y5,V7,AI⟩:=he;have m6:Av [] w5 w6:=m5.Ac dX;refine hK _ w6 (fun _=>⟨BB m6 c0,BB m6 c1,BB m6 c2⟩) ?_;clear hK;have ag:=ST5.out.Al.quiet m6;have yO:Ba w6 _ ((nb,o2)::(E++F)):=⟨fun q p hq=>by
     rcases List.mem_cons.1 hq with h | h
     · cases h;exact Y5
     · exact(ya.out.quiet m6).heap q p h,fun q p hq hl=>by
     rcases List.mem_cons.1 hq with h | h
     · cases h;exact absurd (ST5.out.Al.lt _ hl) (Nat.not_lt.2 V7)
     · exact ya.out.out q p h hl⟩
   have se:=HFI.out.sub (E:=(nb,o2)::(E++F)) (fun _ h=>List.mem_cons_of_mem _ h);have rm:=AI ((nb,o2)::(E++F)) f.us (List.mem_cons_self ..) (HRI.out.sub fun _ h=>List.mem_cons_of_mem _ h) (zE.out.st.sub fun _ h=>List.mem_cons_of_mem _ (List.mem_append_right _ h));refine Ab rfl (fun K hK=> ?_);go_simp;refine(Mg o.done T (.pointer (some ⟨nb,0,none⟩)) w6 {g with fr:=fs} {x with Ai:=os} Ki Ae _ ag se rm ⟨HB.out.cs,fun f hf=>HB.out.us f (by rw[zD.out];exact List.mem_append_left _ hf),by have:=HB.out.fr;have:=Hnl.out;have:=Hn.out;show fs.length≤100;omega⟩).mono ?_;intro e w7 he;obtain⟨rfl,g',cF,Yl,yY⟩:=he;refine hK _ w7 (fun h=>absurd rfl h) ?_;clear hK;simp only[A0];have AI:=KS.out;rw[Fx Hx.out (wv:=Ki)] at AI;have t9:=AI.trans (ST5.out.trans ((Ad.quiet ST5.out.Al m6).trans Yl));have k9:=yO.step Yl;have T9:=hid t9;have K9:=hid k9;have F9:=hid yY;have HXB:=hid cF;clear t9 k9 yY cF Yl rm se yO ag AI V7 Y5 dX m6 m5 c0 c1 c2;go_wp2
   go_end0
   rw[hr.out];refine⟨rfl,g',_,Ki,HXB.out,fun _ h=>List.mem_cons_of_mem _ (List.mem_append_right _ h),?_,.of ⟨T9.out.Al,K9.out,F9.out⟩⟩;rw[Fx F9.out.ne];exact T9.out
theorem Sy {x:qr} {w:ByteArray} {r:Ws} (h0:¬bs w=AN) (h1:¬bs w=AE) (h2:¬bs w=D7):x.row (w::r)=x.AO w r:=by
 show(if _ then _ else _)=_;rw[if_neg h0,if_neg h1,if_neg h2]
theorem ki {x y:qr} {w:ByteArray} {r:Ws} (h:x.AO w r= .ok y):x.Aa≠[]:=by
 intro hx;cases hr:GU w r with
 | none=>rw[Cb hr] at h;cases h
 | some s=>rw[Fg hr,Ek hx] at h;cases h
theorem mc {g:FG} {x:qr} {wv:Value} {Ae:Int} {y:Nat} (hy:y∈[g.xb]):y∈PM g x wv Ae:=by
 unfold PM;split
 ·exact hy
 ·rw[List.mem_singleton] at hy;rw[hy];exact List.mem_flatMap.2 ⟨_,List.mem_cons_self ..,List.mem_singleton.2 rfl⟩
theorem PA.re {F:List (Nat×Obj)} {g:FG} {x:qr} {wv wv':Value} {Ae line':Int} {w0 w:World} (h0:PA F g x wv Ae w0) (h1:V0 w g.xb (g.bH x) wv' line') (hm:Av [g.xb] w0 w):
  PA F g x wv' line' w∧Ad w0 (g.NS x wv Ae) w (g.NS x wv' line'):=by
 have st:Ad w0 (g.NS x wv Ae) w (g.NS x wv' line'):=by
  have ho:=h0.Al;by_cases hx:x.Aa=[]
  ·unfold FG.bH at h1;rw[if_pos hx] at h1;rw[F8 hx] at ho;rw[F8 hx,F8 hx];exact ho.swap (i:=0) rfl (hm.mono (fun y hy=> .inl (by simpa[Ob.fp] using hy))) h1 (by simp[Ob.fp]) (fun b hb=> .inl hb)
  ·unfold FG.bH at h1;rw[if_neg hx] at h1;rw[Fx hx] at ho;rw[Fx hx,Fx hx];exact ho.swap (i:=0) rfl (hm.mono (fun y hy=> .inl (by simpa[Ob.fp] using hy))) h1 (by simp[Ob.fp]) (fun b hb=> .inl hb)
 exact⟨⟨st.Al,h0.AT.step st,h0.Hj,h0.none⟩,st⟩
theorem Sx (nm:ByteArray) (ws:Ws) (mb:Nat) (w:World) (g:FG) (x:qr) (wv:Value) (Ae:Int) (F:List (Nat×Obj)) (h:PA F g x wv Ae w) (hs:Sl w (fun b=>b≠g.xb) wv (AY (nm::ws))) (hz:∀a,a∈ws→a.size≤1000000) (hg:Gl mb w) (IS:g.xb∉Pf mb) (hb:SW g) (AI:0≤x.Am∧x.Am≤1000) (hk:¬bs nm=AN) (JO:¬bs nm=AE) (Sk:¬bs nm=D7):
  Calls Tryz.prog 74 #[.pointer (some ⟨g.xb,0,none⟩)] w (UW (x.row (nm::ws)) F g x wv Ae w):=by
 have R00:=hid (Rd.start h.kD.px hs);have H:=hid h;have Hk:=hid hk;have q0:=Ar (x:=nm) (k:=AN) hk;unfold AN at q0;have q1:=Ar (x:=nm) (k:=AE) JO;unfold AE at q1;have q2:=Ar (x:=nm) (k:=D7) Sk;unfold D7 at q2;have zx:=hid (Sy (x:=x) (r:=ws) hk JO Sk);have Hz:=hid hz;have Hg:=hid hg;have HX:=hid IS;have HB:=hid hb;have HT:=hid AI;obtain⟨ns,p0,s0⟩:=R00.out.px;have Hn:=hid (Ig (nm::ws) _ g.xb _ ns Ae _ p0 s0 (fun h=>h.1 rfl));clear h hs hk p0 s0;clear hz hg IS hb AI JO Sk;go_enter Tryz.func74,Tryz.ntmps74;go_wp2_with fail;refine Hn.out.mono ?_;intro e w1 he;obtain⟨rfl,R1⟩:=R00.out.DS (v:= .string nm) (l':=ws) he;have R:=hid R1;clear Hn he R1 R00;obtain⟨KT,p1,s1⟩:=R.out.px;obtain⟨hP,ks⟩:=H.out.re p1 R.out.Bh;have Hs:=hid (Sv nm ws mb w1 g x KT Ae F _ hP.kD (s1.mono fun b _ hb=>hb.1) Hz.out (Hg.out.Bh R.out.Bh (fun b hb hm=>by rw[List.mem_singleton] at hm;rw[hm] at hb;exact HX.out hb)) HX.out HB.out HT.out);have KS:=hid ks;have cL:PM g x KT Ae=PM g x wv Ae:=rfl;have HPM:=hid cL;have Kh:=hid R.out.Bh;clear p1 s1 hP ks cL;go_wp2_with fail;refine Hs.out.mono ?_;intro e w2 he;cases hr:x.AO nm ws with
 | error c=>
  rw[hr] at he;obtain⟨⟨fb,rfl,hb⟩,hm⟩:=he;have Hr:=hid (zx.out.trans hr);clear hr;go_wp2;rw[Hr.out];refine⟨rfl,⟨fb,rfl,hb⟩,?_⟩;exact(Kh.out.mono (fun y hy=> .inl (mc hy))).trans (HPM.out▸hm) (fun y hy=> .inl hy)
 | ok y=>
  rw[hr] at he;have BQ:=ki hr;have iu:=lD BQ he;obtain⟨rfl,_⟩:=he;obtain⟨_,g',F',wv',h1,h2,h3,h4⟩:=iu;have Hr:=hid (zx.out.trans hr);have H1:=hid h1;have H2:=hid h2;have H3:=hid (KS.out.trans h3);have H4:=hid h4;clear hr BQ h1 h2 h3 h4;go_wp2
  go_end0
  rw[Hr.out];exact⟨rfl,g',F',wv',H1.out,H2.out,H3.out,H4.out⟩
theorem iK (l:Ws) (hl:l≠[]) (mb:Nat) (w:World) (g:FG) (x:qr) (wv:Value) (Ae:Int) (F:List (Nat×Obj)) (h:PA F g x wv Ae w) (hs:Sl w (fun b=>b≠g.xb) wv (AY l)) (hz:∀a,a∈l→a.size≤1000000) (hg:Gl mb w) (IS:g.xb∉Pf mb) (hb:SW g) (AI:0≤x.Am∧x.Am≤1000) (Dp:0≤x.cells∧x.cells≤100000) (L2:x.Aa.length≤3000) (q7:g.tv.length≤3000):
  Calls Tryz.prog 74 #[.pointer (some ⟨g.xb,0,none⟩)] w (UW (x.row l) F g x wv Ae w):=by
 cases l with
 | nil=>exact absurd rfl hl
 | cons nm ws=>
  have yo:∀a,a∈ws→a.size≤1000000:=fun a ha=>hz a (List.mem_cons_of_mem _ ha)
  by_cases h0:bs nm=AN
  ·exact Sw nm ws mb w g x wv Ae F h hs yo hg IS Dp q7 h0
  by_cases h1:bs nm=AE
  ·exact Qu nm ws mb w g x wv Ae F h hs hb.fr L2 h1
  by_cases h2:bs nm=D7
  ·exact VI nm ws mb w g x wv Ae F h hs hb h2
  exact Sx nm ws mb w g x wv Ae F h hs yo hg IS hb AI h0 h1 h2
def MV:Nat→Int
 | 0=>1
 | n+1=>4*MV n
theorem Mt {d:Nat} (h:d≤3):MV d≤64∧1≤MV d:=by
 have:d=0∨d=1∨d=2∨d=3:=by omega
 rcases this with rfl | rfl | rfl | rfl <;>decide
theorem Mj {c:Int} (t:Ck):∀(d:Nat) (i:Bool) (n b o:Int),WF c t d i→d≤3→0≤n→n≤MV d→Az t n=some (b,o)→(0≤b∧b≤64*EX t)∧(0≤o∧o≤64*EX t):=by
 induction t with
 | nil=>intro d i n b o _ _ _ _ h;simp only[Az,Option.some.injEq,Prod.mk.injEq] at h;obtain⟨rfl,rfl⟩:=h;simp[EX]
 | set v op x y r ih=>intro d i n b o hw hd h0 h1 h;have:=ih d i n b o hw.2.2.2.2 hd h0 h1 h;simp only[EX];omega
 | get v f s a r ih=>intro d i n b o hw hd h0 h1 h;have:=ih d i n b o hw.2.2.2.2 hd h0 h1 h;simp only[EX];omega
 | put f s a x r ih=>intro d i n b o hw hd h0 h1 h;have:=ih d i n b o hw.2.2.2.2 hd h0 h1 h;simp only[EX];omega
 | out a r ih=>
  intro d i n b o hw hd h0 h1 h;have hp:=Mt hd;simp only[Az] at h;cases hr:Az r n with
  | none=>rw[hr] at h;cases h
  | some q=>obtain⟨b2,o2⟩:=q;rw[hr] at h;simp only[Option.some.injEq,Prod.mk.injEq] at h;obtain⟨rfl,rfl⟩:=h;have:=ih d i n b2 o2 hw.2 hd h0 h1 hr;simp only[EX];omega
 | atomic bd r ib ih=>
  intro d i n b o hw hd h0 h1 h;have hp:=Mt hd;simp only[Az] at h;cases hb:Az bd 1 with
  | none=>rw[hb] at h;cases h
  | some q=>
   obtain⟨b1,o1⟩:=q;rw[hb] at h;simp only at h;by_cases h8:8 < o1
   ·rw[if_pos h8] at h;cases h
   ·rw[if_neg h8] at h;cases hr:Az r n with
    | none=>rw[hr] at h;cases h
    | some q=>obtain⟨b2,o2⟩:=q;rw[hr] at h;simp only[Option.some.injEq,Prod.mk.injEq] at h;obtain⟨rfl,rfl⟩:=h;have:=ih d i n b2 o2 hw.2.2.2 hd h0 h1 hr;simp only[EX];omega
 | ES a bd r ib ih=>
  intro d i n b o hw hd h0 h1 h;simp only[Az] at h;have oV:=hw.2.1;have hp:n≤MV (d+1):=by have:=Mt hd;show n≤4*MV d;omega
  cases hb:Az bd n with
  | none=>rw[hb] at h;cases h
  | some q=>
   obtain⟨b1,o1⟩:=q;rw[hb] at h;simp only at h;cases hr:Az r n with
   | none=>rw[hr] at h;cases h
   | some q=>
    obtain⟨b2,o2⟩:=q;rw[hr] at h;simp only[Option.some.injEq,Prod.mk.injEq] at h;obtain⟨rfl,rfl⟩:=h;have k1:=ib (d+1) i n b1 o1 hw.2.2.1 (by omega) h0 hp hb;have:=ih d i n b2 o2 hw.2.2.2 hd h0 h1 hr;simp only[EX];omega
 | loop k bd r ib ih=>
  intro d i n b o hw hd h0 h1 h;simp only[Az] at h;have oV:=hw.2.1;obtain⟨Tw,yP⟩:=hw.1;have V6:0≤n*k:=Int.mul_nonneg h0 (by omega);have hp:n*k≤MV (d+1):=by
   show n*k≤4*MV d
   calc n*k≤n*4:=Int.mul_le_mul_of_nonneg_left yP h0
    _≤4*MV d:=by omega
  cases hb:Az bd (n*k) with
  | none=>rw[hb] at h;cases h
  | some q=>
   obtain⟨b1,o1⟩:=q;rw[hb] at h;simp only at h;cases hr:Az r n with
   | none=>rw[hr] at h;cases h
   | some q=>
    obtain⟨b2,o2⟩:=q;rw[hr] at h;simp only[Option.some.injEq,Prod.mk.injEq] at h;obtain⟨rfl,rfl⟩:=h;have k1:=ib (d+1) i (n*k) b1 o1 hw.2.2.1 (by omega) V6 hp hb;have:=ih d i n b2 o2 hw.2.2.2 hd h0 h1 hr;simp only[EX];omega
def Mn (b o:Int):Option (Int×Int)→Option (Int×Int)
 | none=>none
 | some (x,y)=>some (b+x,o+y)
def yi (r:Option (Int×Int)) (w:World) (e:Ending) (w':World):Prop:=match r with
 | none=>Fq [] 5 0 w e w'
 | some (b,o)=>e= .returned (.tuple #[.int .i64 b,.int .i64 o])∧Av [] w w'
theorem jt (b o:Int):Mn b o (some (0,0))=some (b,o):=by simp[Mn]
theorem dK (c:Option (Int×Int)):Mn 0 0 c=c:=by
 cases c with
 | none=>rfl
 | some p=>obtain⟨x,y⟩:=p;simp[Mn]
theorem ja (a:At) (r:Ck) (n b o:Int):Mn b o (Az (.out a r) n)=Mn b (o+n) (Az r n):=by
 simp only[Az];cases Az r n with
 | none=>rfl
 | some p=>obtain⟨x,y⟩:=p;simp[Mn];omega
theorem lL {a:At} {bd r:Ck} {n b o b1 o1:Int} (h:Az bd n=some (b1,o1)):Mn b o (Az (.ES a bd r) n)=Mn (b+b1) (o+o1) (Az r n):=by
 simp only[Az,h];cases Az r n with
 | none=>rfl
 | some p=>obtain⟨x,y⟩:=p;simp[Mn];omega
theorem jb {k:Int} {bd r:Ck} {n b o b1 o1:Int} (h:Az bd (n*k)=some (b1,o1)):Mn b o (Az (.loop k bd r) n)=Mn (b+b1) (o+o1) (Az r n):=by
 simp only[Az,h];cases Az r n with
 | none=>rfl
 | some p=>obtain⟨x,y⟩:=p;simp[Mn];omega
theorem Zu {bd r:Ck} {n b o b1 o1:Int} (h:Az bd 1=some (b1,o1)) (h8:¬8 < o1):Mn b o (Az (.atomic bd r) n)=Mn (b+n) o (Az r n):=by
 simp only[Az,h,if_neg h8];cases Az r n with
 | none=>rfl
 | some p=>obtain⟨x,y⟩:=p;simp[Mn];omega
theorem Pr {a:Int} (h0:0≤a) (h1:a≤1000000):True→wrap64 a=a:=fun _=>IntWalk.wrap64_in _ (by omega)
theorem Zl (F:List (Nat×Obj)) (cl:Int) (N:Nat) (rL:N≤1000):∀(t:Ck) (sl:Value) (vs:List Value) (n:Int) (d:Nat) (CJ:Bool) (w:World),Ba w [] F→EX t≤N→D4 F sl vs→DI F t vs→WF cl t d CJ→d≤3→0≤n→n≤MV d→
  Calls Tryz.prog 102 #[sl,.int .i64 n] w (yi (Az t n) w):=by
 induction N using Nat.strongRecOn with
 | _ N ih=>
 intro t sl vs n d CJ w hK hn hr hs hw hd Gb Kc;have hlen:vs.length≤1000:=by have:=hs.len;omega
 have hp:=(Mt hd).1;have Aaq:n≤64:=by omega
 obtain⟨p,c,rfl⟩:=hr.JF;have Hr:=hid hr;have Hs:=hid hs;have HK:=hid hK;have IH:=hid ih;have HW:=hid hw;have zA:=hid Kc;clear hr hs hK ih hw Kc hp;go_enter Tryz.func102,Tryz.ntmps102;go_wp2;go_loopw [4,5,18] (fun b o i wr=>∃(k:Nat) (t':Ck) (b0 o0:Int),i= .int .i64 k∧b= .int .i64 b0∧o= .int .i64 o0∧k≤vs.length∧DI F t' (vs.drop k)∧WF cl t' d CJ∧Az t n=Mn b0 o0 (Az t' n)∧EX t'≤N∧0≤b0∧b0+64*EX t'≤64*EX t∧0≤o0∧o0+64*EX t'≤64*EX t∧Av [] w wr) (fun _ _ i _=>vs.length - (intOf i).toNat);case atStart=>exact⟨0,t,0,0,rfl,rfl,rfl,Nat.zero_le _,Hs.out,HW.out,(dK _).symm,hn,by omega,by omega,by omega,by omega,Av.refl _ _⟩
 case round=>
  obtain⟨k,t',b0,o0,rfl,rfl,rfl,hk,AI,hw,rA,GK,Gd,KP,tW,Y2,hm⟩:=hrel;have SU:=hid rA;have HM:=hid hm;have n9:=hn;clear rA hm;cases cU:vs.drop k with
  | nil=>
   rw[cU] at AI;have QP:¬(k:Int) < (vs.length:Int):=by have:=List.drop_eq_nil_iff.1 cU;omega
   have ht:Az t' n=some (0,0):=by
    cases t' with
    | nil=>rfl
    | set v op a b r=>obtain⟨q,us,h1,_⟩:=AI;cases h1
    | get v f s a r=>obtain⟨q,us,h1,_⟩:=AI;cases h1
    | put f s i a r=>obtain⟨q,us,h1,_⟩:=AI;cases h1
    | out a r=>obtain⟨q,us,h1,_⟩:=AI;cases h1
    | atomic b r=>obtain⟨q,us,sl,ws,h1,_⟩:=AI;cases h1
    | ES a b r=>obtain⟨q,us,sl,ws,h1,_⟩:=AI;cases h1
    | loop m b r=>obtain⟨q,us,sl,ws,h1,_⟩:=AI;cases h1
   have Ht:=hid (SU.out.trans (by rw[ht,jt]));clear ht AI cU;go_wp2;go_ret2;rw[Ht.out];exact⟨rfl,HM.out⟩
  | cons v us=>
   have K:=HK.out.quiet HM.out;obtain⟨_,XY,b,hp,Qd⟩:=Hr.out.A5 K cU;subst hp;have QP:(k:Int) < (vs.length:Int):=by omega
   have Tw:(0:Int)≤(k:Int):=by omega
   have Zb:us=vs.drop (k+1):=by rw[←List.tail_drop,cU];rfl
   rw[cU] at AI;have aO:=hid Zb;clear cU Zb;have inc:True→wrap64 ((k:Int)+1)=k+1:=fun _=>RZ k (by omega)
   have P7:=Pr (a:=b0) Gd (by omega);have uV:=Pr (a:=o0) tW (by omega);cases t' with
   | nil=>cases AI
   | set v0 op a b1 r=>
    obtain⟨q,us',h1,h2,h3⟩:=AI;cases h1;have ta0:=Yd;have ta1:=TP;have ta2:=Pw;have ta3:=Th;have H3:=hid h3;have Hw:=hid hw.2.2.2.2;simp only[EX] at GK KP Y2;clear h3 h2 hw K;go_wp2_with fail;go_roundw;case rel=>exact⟨k+1,r,b0,o0,by (try rw[inc trivial]);rfl,rfl,rfl,by omega,aO.out▸H3.out,Hw.out,by rw[SU.out];exact rfl,by omega,by omega,by omega,by omega,by omega,HM.out⟩
    case measure=>(try rw[inc trivial]);simp[intOf];omega
   | get v0 f s a r=>
    obtain⟨q,us',h1,h2,h3⟩:=AI;cases h1;have ta0:=Yj;have ta1:=TU;have ta2:=PC;have ta3:=Tk;have H3:=hid h3;have Hw:=hid hw.2.2.2.2;simp only[EX] at GK KP Y2;clear h3 h2 hw K;go_wp2_with fail;go_roundw;case rel=>exact⟨k+1,r,b0,o0,by (try rw[inc trivial]);rfl,rfl,rfl,by omega,aO.out▸H3.out,Hw.out,by rw[SU.out];exact rfl,by omega,by omega,by omega,by omega,by omega,HM.out⟩
    case measure=>(try rw[inc trivial]);simp[intOf];omega
   | put f s i a r=>
    obtain⟨q,us',h1,h2,h3⟩:=AI;cases h1;have ta0:=Yf;have ta1:=TQ;have ta2:=Px;have ta3:=Ti;have H3:=hid h3;have Hw:=hid hw.2.2.2.2;simp only[EX] at GK KP Y2;clear h3 h2 hw K;go_wp2_with fail;go_roundw;case rel=>exact⟨k+1,r,b0,o0,by (try rw[inc trivial]);rfl,rfl,rfl,by omega,aO.out▸H3.out,Hw.out,by rw[SU.out];exact rfl,by omega,by omega,by omega,by omega,by omega,HM.out⟩
    case measure=>(try rw[inc trivial]);simp[intOf];omega
   | out a r=>
    obtain⟨q,us',h1,h2,h3⟩:=AI;cases h1;have ta0:=Nq;have ta1:=TR;have ta2:=Py;have ta3:=Tj;have H3:=hid h3;have Hw:=hid hw.2;simp only[EX] at GK KP Y2;have qT:=Pr (a:=o0+n) (by omega) (by omega);clear h3 h2 hw K;go_wp2_with fail;go_roundw;case rel=>exact⟨k+1,r,b0,(o0+n),by (try rw[inc trivial]);rfl,rfl,rfl,by omega,aO.out▸H3.out,Hw.out,by rw[SU.out];exact ja ..,by omega,by omega,by omega,by omega,by omega,HM.out⟩
    case measure=>(try rw[inc trivial]);simp[intOf];omega
   | ES a bd r=>
    obtain⟨q,us',sl',ws,h1,h2,h3,h4,h5⟩:=AI;cases h1;have ta0:=OT;have ta1:=NZ;have ta2:=Ri;have ta3:=U4;have H3:=hid h3;have H4:=hid h4;have H5:=hid h5;have kq:=K.cell h2;have Hw:=hid hw.2.2.2;simp only[EX] at GK KP Y2 n9;have oV:d < 3:=hw.2.1;have gM:n≤MV (d+1):=by have:=zA.out;have:=(Mt hd).2;show n≤4*MV d;omega
    have MW:0≤n:=Gb;obtain⟨p',c',rfl⟩:=H3.out.JF;have Hc:=hid (fun (W:World) (hW:Av [] w W)=>IH.out (EX bd) (by omega) (by omega) bd _ ws n (d+1) CJ W (HK.out.quiet hW) (Nat.le_refl _) H3.out H4.out hw.2.2.1 (by omega) MW gM);have tw:=hid (fun (b1 o1:Int)=>Mj (c:=cl) bd (d+1) CJ n b1 o1 hw.2.2.1 (by omega) MW gM);clear h3 h4 h5 h2 hw K gM MW;go_wp2_with fail;refine(Hc.out _ HM.out).mono ?_;intro e w1 he;clear kq;cases MJ:Az bd n with
    | none=>
     rw[MJ] at he;obtain⟨⟨fb,rfl,hb⟩,C9⟩:=he;have V5:=hid (show Az t n=none by rw[SU.out];simp only[Az];rw[MJ];rfl);clear MJ;go_wp2;rw[V5.out];exact⟨rfl,⟨fb,rfl,hb⟩,HM.out.Ac C9⟩
    | some q9=>
     obtain⟨b1,o1⟩:=q9;rw[MJ] at he;obtain⟨rfl,C9⟩:=he;obtain⟨⟨g1,g2⟩,g3,g4⟩:=tw.out b1 o1 MJ;have jE:=hid MJ;have Kh:=hid (HM.out.Ac C9);clear MJ C9;have DK:=Pr (a:=b0+b1) (by omega) (by omega);have Ew:=Pr (a:=o0+o1) (by omega) (by omega);go_wp2_with fail;go_roundw;case rel=>exact⟨k+1,r,(b0+b1),(o0+o1),by (try rw[inc trivial]);rfl,rfl,rfl,by omega,aO.out▸H5.out,Hw.out,by rw[SU.out];exact lL jE.out,by omega,by omega,by omega,by omega,by omega,Kh.out⟩
     case measure=>(try rw[inc trivial]);simp[intOf];omega
   | loop m bd r=>
    obtain⟨q,us',sl',ws,h1,h2,h3,h4,h5⟩:=AI;cases h1;have ta0:=LN;have ta1:=KY;have ta2:=IX;have ta3:=Rh;have H3:=hid h3;have H4:=hid h4;have H5:=hid h5;have kq:=K.cell h2;have Hw:=hid hw.2.2.2;simp only[EX] at GK KP Y2 n9;have oV:d < 3:=hw.2.1;obtain⟨C9,XW⟩:=hw.1;have MW:0≤n*m:=Int.mul_nonneg Gb (by omega);have Y3:n*m≤n*4:=Int.mul_le_mul_of_nonneg_left XW Gb;have gM:n*m≤MV (d+1):=by have:=zA.out;show n*m≤4*MV d;omega
    have qU:True→IntKind.i64.wrap (n*m)=n*m:=fun _=>IntWalk.i64_in _ (by omega)
    obtain⟨p',c',rfl⟩:=H3.out.JF;have Hc:=hid (fun (W:World) (hW:Av [] w W)=>IH.out (EX bd) (by omega) (by omega) bd _ ws (n*m) (d+1) CJ W (HK.out.quiet hW) (Nat.le_refl _) H3.out H4.out hw.2.2.1 (by omega) MW gM);have tw:=hid (fun (b1 o1:Int)=>Mj (c:=cl) bd (d+1) CJ (n*m) b1 o1 hw.2.2.1 (by omega) MW gM);clear h3 h4 h5 h2 hw K gM MW Y3 C9 XW;have H2:=hid kq;go_upto_region 14 with fail
    refine Ao (l:=[(0,true),(1,true),(2,true),(3,true),(4,true),(5,true),(6,true),(7,true),(8,true),(9,true),(10,false),(11,true),(12,true),(13,true),(14,true),(15,false)]) (fun W=>W.cell? ⟨q,0,none⟩=some (.int .i64 m)∧W.cell? ⟨q,1,none⟩=some (.slice p' ws.length c')) 15 (by kernel_rfl) (by kernel_rfl) (by kernel_rfl) (by kernel_rfl) (by kernel_rfl) (fun c a d v w h=>by cases d <;>exact h) ⟨kq 0,kq 1⟩ ?_;repeat
     refine Ak (v:= ?_) rfl rfl rfl (fun W hW=> ?_) ?_;rotate_left
     ·obtain⟨s1,s2⟩:=hW;go_simp;rfl
     simp only[Bo]
    refine Ab rfl (fun K hK=> ?_);go_simp;refine(Hc.out _ HM.out.drew).mono ?_;intro e w1 he;cases MJ:Az bd (n*m) with
    | none=>
     rw[MJ] at he;obtain⟨⟨fb,rfl,hb⟩,C9⟩:=he;have V5:=hid (show Az t n=none by rw[SU.out];simp only[Az];rw[MJ];rfl);clear MJ hK;go_wp2;rw[V5.out];exact⟨rfl,⟨fb,rfl,hb⟩,HM.out.drew.Ac C9⟩
    | some q9=>
     obtain⟨b1,o1⟩:=q9;rw[MJ] at he;obtain⟨rfl,C9⟩:=he;obtain⟨⟨g1,g2⟩,g3,g4⟩:=tw.out b1 o1 MJ;have jE:=hid MJ;have Kh:=hid (HM.out.drew.Ac C9);have CY:Av [] wr w1:=((Av.refl [] wr).drew).Ac C9;refine hK _ w1 (fun _=>⟨BB CY (H2.out 0),BB CY (H2.out 1)⟩) ?_;clear hK;repeat
      refine Ak (v:= ?_) rfl rfl rfl (fun W hW=> ?_) ?_;rotate_left
      ·obtain⟨s1,s2⟩:=hW;go_simp;rfl
      simp only[Bo]
     refine Ab rfl (fun K hK=> ?_);go_simp;refine hK _ _ (fun h=>absurd rfl h) ?_;clear hK MJ C9 CY kq qU;simp only[A0];have DK:=Pr (a:=b0+b1) (by omega) (by omega);have Ew:=Pr (a:=o0+o1) (by omega) (by omega);go_wp2_with fail;go_roundw;case rel=>exact⟨k+1,r,(b0+b1),(o0+o1),by (try rw[inc trivial]);rfl,rfl,rfl,by omega,aO.out▸H5.out,Hw.out,by rw[SU.out];exact jb jE.out,by omega,by omega,by omega,by omega,by omega,Kh.out⟩
     case measure=>(try rw[inc trivial]);simp[intOf];omega
   | atomic bd r=>
    obtain⟨q,us',sl',ws,h1,h2,h3,h4,h5⟩:=AI;cases h1;have ta0:=M6;have ta1:=KZ;have ta2:=Jm;have ta3:=Kp;have H3:=hid h3;have H4:=hid h4;have H5:=hid h5;have kq:=K.cell h2;have Hw:=hid hw.2.2.2;simp only[EX] at GK KP Y2 n9;have oV:d < 3:=hw.2.1;have gM:(1:Int)≤MV (d+1):=by have:=(Mt hd).2;show(1:Int)≤4*MV d;omega
    have MW:(0:Int)≤1:=by decide
    obtain⟨p',c',rfl⟩:=H3.out.JF;have Hc:=hid (fun (W:World) (hW:Av [] w W)=>IH.out (EX bd) (by omega) (by omega) bd _ ws 1 (d+1) true W (HK.out.quiet hW) (Nat.le_refl _) H3.out H4.out hw.2.2.1 (by omega) MW gM);have tw:=hid (fun (b1 o1:Int)=>Mj (c:=cl) bd (d+1) true 1 b1 o1 hw.2.2.1 (by omega) MW gM);clear h3 h4 h5 h2 hw K gM MW;go_wp2_with fail;refine(Hc.out _ HM.out).mono ?_;intro e w1 he;clear kq;cases MJ:Az bd 1 with
    | none=>
     rw[MJ] at he;obtain⟨⟨fb,rfl,hb⟩,C9⟩:=he;have V5:=hid (show Az t n=none by rw[SU.out];simp only[Az];rw[MJ];rfl);clear MJ;go_wp2;rw[V5.out];exact⟨rfl,⟨fb,rfl,hb⟩,HM.out.Ac C9⟩
    | some q9=>
     obtain⟨b1,o1⟩:=q9;rw[MJ] at he;obtain⟨rfl,C9⟩:=he;obtain⟨⟨g1,g2⟩,g3,g4⟩:=tw.out b1 o1 MJ;have jE:=hid MJ;have Kh:=hid (HM.out.Ac C9);clear MJ C9;by_cases h8:8 < o1
     ·have V5:=hid (show Az t n=none by rw[SU.out];simp only[Az];rw[jE.out];simp only[];rw[if_pos h8];rfl);go_wp2_with fail;refine(AS _ _ _).mono ?_;rintro e w5 ⟨⟨fb,rfl,hb⟩,hm⟩;go_wp2;rw[V5.out];exact⟨rfl,⟨fb,rfl,hb⟩,Kh.out.Ac hm⟩
     ·have DK:=Pr (a:=b0+n) (by omega) (by omega);go_wp2_with fail;go_roundw;case rel=>exact⟨k+1,r,(b0+n),o0,by (try rw[inc trivial]);rfl,rfl,rfl,by omega,aO.out▸H5.out,Hw.out,by rw[SU.out];exact Zu jE.out (by omega),by omega,by omega,by omega,by omega,by omega,Kh.out⟩
      case measure=>(try rw[inc trivial]);simp[intOf];omega
end Go.Proofs.YtpdfifdlhpmofaaGreatDoor
