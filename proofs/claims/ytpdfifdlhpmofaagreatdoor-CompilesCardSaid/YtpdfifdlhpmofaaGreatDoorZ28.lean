/-
  Part 28 of the proof, packed by program out of F27, F28, F29, F30.
-/
import Derived.Test.YtpdfifdlhpmofaaGreatDoorZ27
import Derived.Recover
import Derived.Defers
import Derived.Lib.ReplaceLaws
import Derived.Tactics
import Derived.Tactics2
set_option linter.unusedVariables false
set_option linter.unusedSimpArgs false
set_option maxHeartbeats 3200000
set_option maxRecDepth 100000
namespace Go.Proofs.YtpdfifdlhpmofaaGreatDoor
open Go.RowKit
open Go.Lib (hid)
def HH (t:Ck):Bool:=match Az t 1 with | none=>true | some (b,_)=>decide (3 < b)
theorem YT (x:qr):Em x=(decide (x.cells≤6) && (decide (x.Aa.length≤3) && !(x.Aa.any HH))):=by
 unfold Em;congr 2;rw[List.not_any_eq_all_not];congr 1;funext t;unfold HH;cases Az t 1 with
 | none=>rfl
 | some p=>
  obtain⟨b,o⟩:=p;by_cases h:b≤3
  ·have h2:¬3 < b:=by omega
   simp[h,h2]
  ·have h2:3 < b:=by omega
   simp[h,h2]
def sW (ok:Bool) (w:World) (e:Ending) (w':World):Prop:=if ok=true then e= .returned (.tuple #[])∧Av [] w w' else Fq [] 5 0 w e w'
theorem eD {ts:List Ck} {k:Nat} (hk:k < ts.length) (h:((ts.take k).any HH)=false) (h2:HH (ts.getD k .nil)=false):((ts.take (k+1)).any HH)=false:=by
 rw[List.take_succ_eq_append_getElem hk,List.any_append,h];rw[List.getD_eq_getElem?_getD,List.getElem?_eq_getElem hk] at h2;simp only[Option.getD_some] at h2;simp[h2]
theorem js {ts:List Ck} {k:Nat} (hk:k < ts.length) (h2:HH (ts.getD k .nil)=true):(ts.any HH)=true:=by
 rw[List.getD_eq_getElem?_getD,List.getElem?_eq_getElem hk] at h2;exact List.any_eq_true.2 ⟨_,List.getElem_mem hk,h2⟩
theorem Xp (F:List (Nat×Obj)) (x:qr) (w:World) (L:List Ob) (pb:Nat) (tp:Option Addr) (tc:Nat) (rows:List Value) (h:AK w L) (h1:L[1]?=some (.AP pb #[.slice tp rows.length tc,.int .i64 x.cells] 146)) (h3:L[3]?=some (.row (.slice tp rows.length tc) 165 1 rows.length rows)) (hK:Ba w L F) (ht:Gg F x.Aa rows) (hw:FW x) (GK:∀t,t∈x.Aa→EX t≤1000):
  Calls Tryz.prog 76 #[.pointer (some ⟨pb,0,none⟩)] w (sW (Em x) w):=by
 have hb:=h.AP h1;have Tu:=hb.cell;have CM:=hb.lt;have hlen:=ht.len;have H3:=hid (h.row h3);have HT:=hid ht;have HW:=hid hw;have HZ:=hid GK;have HL:=hid hlen;have HKe:=hid (hK.sub (fun _ hx=>hx));have tE:Hid (Ba w [] F):=hid ⟨hK.heap,fun b o _ hl=>by simp[En] at hl⟩;have Eg:=YT x;have jC:=hid Eg;clear h hb h1 h3 hK ht hw GK Eg hlen;by_cases c6:6 < x.cells
 ·have hr:=hid (show Em x=false by
     rw[jC.out];have:¬x.cells≤6:=by omega
     simp[this])
  go_enter Tryz.func76,Tryz.ntmps76;go_wp2_with fail;refine(AS _ _ _).mono ?_;rintro e w5 ⟨⟨fb,rfl,hb⟩,hm⟩;go_wp2;rw[hr.out];exact⟨rfl,⟨fb,rfl,hb⟩,hm⟩
 by_cases c3:3 < (rows.length:Int)
 ·have hr:=hid (show Em x=false by
     rw[jC.out];have:¬x.Aa.length≤3:=by rw[←HL.out];omega
     simp[this])
  go_enter Tryz.func76,Tryz.ntmps76;go_wp2_with fail;refine(AS _ _ _).mono ?_;rintro e w5 ⟨⟨fb,rfl,hb⟩,hm⟩;go_wp2;rw[hr.out];exact⟨rfl,⟨fb,rfl,hb⟩,hm⟩
 have Hr:=hid (show Em x= !(x.Aa.any HH) by
   rw[jC.out];have e1:x.cells≤6:=by omega
   have e2:x.Aa.length≤3:=by rw[←HL.out];omega
   simp[e1,e2])
 go_enter Tryz.func76,Tryz.ntmps76;go_wp2;go_loopw [25] (fun i wr=>∃k:Nat,i= .int .i64 k∧k≤rows.length∧((x.Aa.take k).any HH)=false∧Av [] w wr) (fun i _=>rows.length - (intOf i).toNat);case atStart=>exact⟨0,rfl,Nat.zero_le _,rfl,Av.refl _ _⟩
 case round=>
  clear Tu CM c6;obtain⟨k,rfl,hk,FV,hm⟩:=hrel;have HM:=hid hm;have HA:=hid FV;clear hm FV;by_cases QP:(k:Int) < (rows.length:Int)
  ·have QQ:k < x.Aa.length:=by rw[←HL.out];omega
   obtain⟨sl,ws,us,hd,my,dU⟩:=HT.out.A5 k QQ;have hv:rows[k]?=some sl:=by
    have:=congrArg List.head? hd;rwa[List.head?_drop,List.head?_cons] at this
   have Hf:=B5 H3.out HM.out (fun g hg=>by simp);obtain⟨tb,tcap,L2,_,tlt,tcc,tcm,tcel,tfr⟩:=AX Hf (by omega);simp only[Value.slice.injEq] at L2;obtain⟨rfl,_,rfl⟩:=L2;have Qd:wr.cell? ⟨tb,k,none⟩=some sl:=KH tcel hv;have Tw:(0:Int)≤(k:Int):=by omega
   have cR:x.Aa.getD k .nil∈x.Aa:=by
    rw[List.getD_eq_getElem?_getD,List.getElem?_eq_getElem QQ];exact List.getElem_mem QQ
   have inc:True→wrap64 ((k:Int)+1)=k+1:=fun _=>RZ k (by omega)
   have Hc:=hid (Zl F x.cells 1000 (Nat.le_refl _) (x.Aa.getD k .nil) sl ws 1 0 false wr (tE.out.quiet HM.out) (HZ.out _ cR) my dU (HW.out.th _ cR) (by omega) (by decide) (by decide));obtain⟨p',c',rfl⟩:=my.JF;have xL:=hid QQ;clear hd my dU hv Hf tcel tfr cR QQ tcc tcm;go_wp2_with fail;refine Hc.out.mono ?_;intro e w1 he;clear Qd;cases MJ:Az (x.Aa.getD k .nil) 1 with
   | none=>
    rw[MJ] at he;obtain⟨⟨fb,rfl,hb⟩,C9⟩:=he;have V5:=hid (show Em x=false by rw[Hr.out,js xL.out (by unfold HH;rw[MJ])];rfl);clear MJ;go_wp2;rw[V5.out];exact⟨rfl,⟨fb,rfl,hb⟩,HM.out.Ac C9⟩
   | some q9=>
    obtain⟨b1,o1⟩:=q9;rw[MJ] at he;obtain⟨rfl,C9⟩:=he;have Kh:=hid (HM.out.Ac C9);have jE:=hid MJ;clear MJ C9;by_cases h3:3 < b1
    ·have V5:=hid (show Em x=false by rw[Hr.out,js xL.out (by unfold HH;rw[jE.out];simpa using h3)];rfl);go_wp2_with fail;refine(AS _ _ _).mono ?_;rintro e w5 ⟨⟨fb,rfl,hb⟩,hm⟩;go_wp2;rw[V5.out];exact⟨rfl,⟨fb,rfl,hb⟩,Kh.out.Ac hm⟩
    ·have jO:HH (x.Aa.getD k .nil)=false:=by unfold HH;rw[jE.out];simpa using h3
     have Hb9:=hid (eD xL.out HA.out jO);clear jO;go_wp2_with fail;go_roundw;case rel=>exact⟨k+1,by (try rw[inc trivial]);rfl,by omega,Hb9.out,Kh.out⟩
     case measure=>(try rw[inc trivial]);simp[intOf];omega
  ·have V5:=hid (show Em x=true by
      rw[Hr.out];have e:x.Aa.take k=x.Aa:=List.take_of_length_le (by rw[←HL.out];omega);have h:=HA.out;rw[e] at h;rw[h];rfl)
   go_wp2
   go_end0
   rw[V5.out];exact⟨rfl,HM.out⟩
theorem pD {w:World} {b:Nat} {l:List ByteArray} {T:TypeId} {ok:Nat→Prop} (h:BR w b (l.map Value.string).toArray T) (hl:l.length≤maxLen) (hb:ok b) (n c:Nat) (hn:n=l.length) (hc:n≤c∧c≤maxLen):Sl w ok (.slice (some ⟨b,0,none⟩) n c) (AY l):=by
 have e:(AY l).length=l.length:=by simp[AY]
 refine⟨by rw[e];exact hl,.inr ⟨b,0,c,by rw[e,hn],by rw[e];omega,hc.2,hb,h.lt,fun i hi=> ?_⟩⟩;rw[Nat.zero_add,h.cell i];simp only[AY] at hi⊢;simp[List.getElem?_toArray,hi]
theorem Wb (p:By):(Bv p).length=Lib.count p [32]+1:=by
 unfold Bv;rw[List.length_map];exact F5 32 _ p (Nat.le_refl _)
theorem bp (mb:Nat) (p:ByteArray) (w:World) (hg:Gl mb w) (hp:p.size≤1000000):
  Calls Tryz.prog 72 #[.string p,.string ⟨#[32]⟩] w fun e w'=>∃v,e= .returned v∧Av [] w w'∧Sl w' (fun b=>w.heap.size≤b) v (AY (Bv (bs p))):=by
 obtain⟨m,hm⟩:=hg.B7;refine(Tryz.strings_Split p ⟨#[32]⟩ m w (by omega) hm (by decide)).mono ?_;rintro e w' ⟨rfl,rfl⟩;have h1:=TY 32 p 0 (.inl rfl);rw[if_pos rfl] at h1;have h2:Lib.countB p ⟨#[32]⟩+1=(Bv (bs p)).length:=(Wb (bs p)).symm;have h3:=Lib.count_le (bs p) [32];have h4:Lib.countB p ⟨#[32]⟩≤p.size+1:=by have:=Bu p;show Lib.count (bs p) [32]≤_;omega
 refine⟨_,rfl,(Av.refl _ _).alloc _,pD (l:=Bv (bs p)) (T:=9) ?_ (by rw[←h2];unfold maxLen;omega) (Nat.le_refl _) _ _ h2 ⟨Nat.le_refl _,by unfold maxLen;omega⟩⟩;rw[h1];exact BR.new _ _ _
theorem Ro (mb:Nat) (s:ByteArray) (w:World) (hg:Gl mb w) (hs:s.size≤1000000):
  Calls Tryz.prog 70 #[.string s,.string ⟨#[10]⟩] w fun e w'=>∃b n,e= .returned (.slice (some ⟨b,0,none⟩) n n)∧n=(Ay 10 (bs s)).length∧Av [] w w'∧w.heap.size≤b∧BR w' b (AY ((Mh 10 (Ay 10 (bs s))).map AA)).toArray 9:=by
 obtain⟨m,hm⟩:=hg.B7;have h1:=TY 10 s 1 (.inr rfl);rw[if_neg (by decide)] at h1;have h2:(Ay 10 (bs s)).length=Lib.countB s ⟨#[10]⟩+1:=F5 10 _ (bs s) (Nat.le_refl _);have h4:Lib.countB s ⟨#[10]⟩≤s.size:=by
  have:=Lib.countB_mul_le ⟨#[10]⟩ (by decide) s.size s (Nat.le_refl _);have e:(⟨#[10]⟩:ByteArray).size=1:=rfl;rw[e] at this;omega
 have Hc:=hid (Tryz.strings_genSplit s ⟨#[10]⟩ 1 (-1) (Lib.countB s ⟨#[10]⟩+1) m w (by omega) hm (by decide) (by decide) (by decide) (by decide) (by rw[if_pos (by decide)];omega));have H1:=hid h1;have H2:=hid h2;have H4:=hid h4;clear h1 h2 h4 hm hg;go_enter Tryz.func70,Tryz.ntmps70;go_wp2_with fail;refine Hc.out.mono ?_;rintro e w1 ⟨rfl,rfl⟩;have h1:=H1.out;have h2:=H2.out;rw[Nat.add_sub_cancel,h1];have hl:(List.map AA (Mh 10 (Ay 10 (bs s)))).length=Lib.countB s ⟨#[10]⟩+1:=by rw[List.length_map,dr,h2]
 rw[hl];have he:Lib.cellsOf (List.map AA (Mh 10 (Ay 10 (bs s)))) (Lib.countB s ⟨#[10]⟩+1)=(AY ((Mh 10 (Ay 10 (bs s))).map AA)).toArray:=by
  unfold Lib.cellsOf AY;rw[hl];simp
 rw[he];have H3:=hid h2;clear h1 h2 hl he;go_wp2;go_ret;exact⟨_,_,rfl,H3.out.symm,(Av.refl _ _).alloc _,Nat.le_refl _,BR.new _ _ _⟩
theorem nA (p:Value) (w:World):(Instr.typeAssert (.iface 123 p) 20 123 true).run Tryz.prog w= .ok (.tuple #[p,.bool true]) w:=by kernel_rfl
theorem kb (w:World):(Instr.typeAssert .nilIface 20 123 true).run Tryz.prog w= .ok (.tuple #[.pointer none,.bool false]) w:=by kernel_rfl
theorem Qz (pB eB:Nat) (pv v0 v1:Value) (older:List PanicEntry) (w:World) (hc:w.cell? ⟨pB,0,none⟩=some v0) (hz:w.frozen? ⟨pB,0,none⟩=false) (hd:w.cell? ⟨eB,0,none⟩=some v1) (hy:w.frozen? ⟨eB,0,none⟩=false) (BQ:eB≠pB):
  CallsD Tryz.prog 68 #[.pointer (some ⟨pB,0,none⟩),.pointer (some ⟨eB,0,none⟩)] (.panicking ({v:= .iface 123 pv,recovered:=false}::older)) w fun e u' w'=>
   e= .returned (.tuple #[])∧u'= .panicking ({v:= .iface 123 pv,recovered:=true}::older)∧w'=(w.setCell ⟨pB,0,none⟩ (.pointer none)).setCell ⟨eB,0,none⟩ (.iface 123 pv):=by
 have ta:=nA pv;refine callsD_of_wpS Tryz.func68 rfl fun c₀ cs hu=> ?_
 apply wpS_seq;apply wpS_region;simp[wpOpsS,go_sem,recoverD,hu,Tryz.ntmps68,Exit.thenS,ta];apply wpS_seq;apply wpS_region;simp[wpOpsS,go_sem,Tryz.ntmps68,Exit.thenS];refine wpS_cond (t:=true) (by simp[Act.eval,Array.replicate]) ?_;simp only[if_true];apply wpS_region;simp[wpOpsS,go_sem,hc,hz,hd,hy,BQ,bodyPostS,results,Tryz.results68]
theorem Zz (pB eB:Nat) (w:World):
  CallsD Tryz.prog 68 #[.pointer (some ⟨pB,0,none⟩),.pointer (some ⟨eB,0,none⟩)] .returning w fun e u' w'=>e= .returned (.tuple #[])∧u'= .returning∧w'=w:=by
 have ta:=kb;refine callsD_of_wpS Tryz.func68 rfl fun c₀ cs hu=> ?_
 apply wpS_seq;apply wpS_region;simp[wpOpsS,go_sem,recoverD,hu,Tryz.ntmps68,Exit.thenS,ta];apply wpS_seq;apply wpS_region;simp[wpOpsS,go_sem,Tryz.ntmps68,Exit.thenS];refine wpS_cond (t:=false) (by simp[Act.eval,Array.replicate]) ?_;simp only[Bool.false_eq_true,if_false];refine wpS_of_wp (wp_skip ?_);cases c₀;simp_all[bodyPostS,results,Tryz.results68]
theorem PG {w:World} {b:Nat} {v0 v:Value} {T:TypeId} (h:BR w b #[v0] T):BR (w.setCell ⟨b,0,none⟩ v) b #[v] T:=h.set 0 v
theorem Zp {T:Array Value} {Post:Ending→World→Prop} {pB eB:Nat} {pv:Value} {w5:World} {tp te:TypeId} (h2:T[2]?=some (.pointer (some ⟨pB,0,none⟩))) (h3:T[3]?=some (.pointer (some ⟨eB,0,none⟩)))
  (hp:BR w5 pB #[.pointer none] tp) (he:BR w5 eB #[.nilIface] te) (BQ:eB≠pB) (NT:te=85) (mm:tp=117)
  (h:Post (.returned (.tuple #[.pointer none,.iface 123 pv])) ((w5.setCell ⟨pB,0,none⟩ (.pointer none)).setCell ⟨eB,0,none⟩ (.iface 123 pv))):
  bodyPostD Tryz.prog Tryz.f50 Post (Exit.panic [{v:= .iface 123 pv,recovered:=false}]) {tmps:=T,defers:=[{target:=Target.fn (Fn.func 68) #[.pointer (some ⟨pB,0,none⟩),.pointer (some ⟨eB,0,none⟩)],args:= #[]}]} w5:=by
 subst NT;subst mm;have c1:=hp.cell 0;have c2:=he.cell 0;have B1:BR ((w5.setCell ⟨pB,0,none⟩ (.pointer none)).setCell ⟨eB,0,none⟩ (.iface 123 pv)) pB #[.pointer none] 117:=(PG hp).DW (fun e=>BQ e.symm) _;have B2:BR ((w5.setCell ⟨pB,0,none⟩ (.pointer none)).setCell ⟨eB,0,none⟩ (.iface 123 pv)) eB #[.iface 123 pv] 85:=PG (he.DW BQ _);have d1:=B1.cell 0;have d2:=B2.cell 0;refine leaves_cons (f:=68) (args:= #[.pointer (some ⟨pB,0,none⟩),.pointer (some ⟨eB,0,none⟩)]) (by simp) (by simp[go_sem]) ?_;refine(Qz pB eB pv _ _ [] w5 c1 (hp.free 0) c2 (he.free 0) BQ).mono ?_;rintro e u' w'' ⟨rfl,rfl,rfl⟩;generalize (w5.setCell ⟨pB,0,none⟩ (.pointer none)).setCell ⟨eB,0,none⟩ (.iface 123 pv)=w6 at*;simp[Leaves,settle,results,Tryz.results50,go_sem,h2,h3,d1,d2];exact h
theorem lH {T:Array Value} {Post:Ending→World→Prop} {pB eB:Nat} {pv:Value} {w5:World} {tp te:TypeId} (h2:T[2]?=some (.pointer (some ⟨pB,0,none⟩))) (h3:T[3]?=some (.pointer (some ⟨eB,0,none⟩)))
  (hp:BR w5 pB #[pv] tp) (he:BR w5 eB #[.nilIface] te) (NT:te=85) (mm:tp=117)
  (h:Post (.returned (.tuple #[pv,.nilIface])) w5):
  bodyPostD Tryz.prog Tryz.f50 Post Exit.ret {tmps:=T,defers:=[{target:=Target.fn (Fn.func 68) #[.pointer (some ⟨pB,0,none⟩),.pointer (some ⟨eB,0,none⟩)],args:= #[]}]} w5:=by
 subst NT;subst mm;have c1:=hp.cell 0;have c2:=he.cell 0;refine leaves_cons (f:=68) (args:= #[.pointer (some ⟨pB,0,none⟩),.pointer (some ⟨eB,0,none⟩)]) (by simp) (by simp[go_sem]) ?_;refine(Zz pB eB w5).mono ?_;rintro e u' w'' ⟨rfl,rfl,rfl⟩;simp[Leaves,settle,results,Tryz.results50,go_sem,h2,h3,c1,c2];exact h
def ZH (res:Except (Int×Nat) qr) (w:World) (e:Ending) (w':World):Prop:=match res with
 | .error c=>∃fb,e= .returned (.tuple #[.pointer none,.iface 123 (.pointer (some ⟨fb,0,none⟩))])∧BR w' fb #[.int .i64 c.1,.int .i64 c.2] 127∧Av [] w w'
 | .ok y=>∃F pb tp tc rows,e= .returned (.tuple #[.pointer (some ⟨pb,0,none⟩),.nilIface])∧Av [] w w'∧Ba w' [] F∧(pb,Obj.cells #[.slice tp y.Aa.length tc,.int .i64 y.cells] 146 (0,0))∈F∧D4 F (.slice tp y.Aa.length tc) rows∧Gg F y.Aa rows
def WH (w0:World) (rb:Nat) (rows:Array Value):List (Nat×Obj):=
 [(w0.heap.size,.cells #[.pointer none] 117 (0,0)),(w0.heap.size+1,.cells #[.nilIface] 85 (0,0)),(rb,.cells rows 9 (0,0))]
structure ee (w0:World) (mb rb:Nat) (rows:Array Value) (s:By) (k:Nat) (g:FG) (F:List (Nat×Obj)) (wv:Value) (Ae:Int) (x:qr) (wr:World):Prop where
 pa:PA F g x wv Ae wr
 AT:Ba wr (g.NS x wv Ae) (WH w0 rb rows)
 gl:tG mb wr (g.NS x wv Ae)
 new:∀b,b∈En (g.NS x wv Ae)→w0.heap.size≤b
 Bh:Av [] w0 wr
 fw:FW x
 fn:FN x
 cl:x.cells≤6*k
 tl:x.Aa.length≤k
 go:EY s=GV ((Ay 10 s).drop k) k x
 bd:SW g
 tv:g.tv.length≤3000
def PI (w0:World) (mb rb:Nat) (rows:Array Value) (s:By) (xb:Nat) (k:Nat) (wr:World):Prop:=∃g F wv Ae x,g.xb=xb∧ee w0 mb rb rows s k g F wv Ae x wr
theorem Vk {g:FG} {x:qr} {wv:Value} {Ae:Int} {b:Nat} (h:b∈PM g x wv Ae):b∈En (g.NS x wv Ae):=by
 unfold PM at h;by_cases hx:x.Aa=[]
 ·rw[if_pos hx] at h;rw[F8 hx];rw[List.mem_singleton] at h;rw[h];exact List.mem_flatMap.2 ⟨_,List.mem_cons_self ..,List.mem_singleton.2 rfl⟩
 ·rw[if_neg hx] at h;rw[Fx hx];exact h
theorem U6 (t:Ck):(EX t:Int)=JR t:=by
 induction t <;>simp only[EX,JR] <;>omega
theorem eF {os:List Fr} {o:Fr} (h:o∈os):JR o.body≤Iv os:=by
 induction os with
 | nil=>cases h
 | cons f fs ih=>
  have h1:=Rl f.body;have h2:=U8 fs;simp only[Iv];rcases List.mem_cons.1 h with rfl | h
  ·omega
  ·have:=ih h;omega
theorem eG (os:List Fr):(os.length:Int)≤Iv os:=by
 induction os with
 | nil=>simp[Iv]
 | cons f fs ih=>have:=Rl f.body;simp only[Iv,List.length_cons];omega
theorem IE.us {F:List (Nat×Obj)} {fs:List Im} {os:List Fr} (h:IE F fs os):∀f,f∈fs→∃o,o∈os∧f.us.length≤EX o.body:=by
 induction fs generalizing os with
 | nil=>intro f hf;cases hf
 | cons f fs ih=>
  obtain⟨o,r,rfl,h2,h3⟩:=h;intro f' hf;rcases List.mem_cons.1 hf with rfl | hf
  ·exact⟨o,List.mem_cons_self ..,h2.st.len⟩
  ·obtain⟨o',h4,h5⟩:=ih h3 f' hf;exact⟨o',List.mem_cons_of_mem _ h4,h5⟩
theorem PA.bd {F:List (Nat×Obj)} {g:FG} {x:qr} {wv:Value} {Ae:Int} {w:World} (h:PA F g x wv Ae w) (hn:FN x) (ht:x.Aa.length≤2500):
  ∃g',g'.xb=g.xb∧PA F g' x wv Ae w∧g'.NS x wv Ae=g.NS x wv Ae∧SW g'∧g'.tv.length≤3000:=by
 by_cases hx:x.Aa=[]
 ·have e:FG.NS {g with cs:=[],fr:=[],tv:=[]} x wv Ae=g.NS x wv Ae:=by rw[F8 hx,F8 hx];rfl
  exact⟨{g with cs:=[],fr:=[],tv:=[]},rfl,⟨by rw[e];exact h.Al,by rw[e];exact h.AT,fun hy=>absurd hx hy,h.none⟩,e,⟨by simp,by simp,by simp⟩,by simp⟩
 ·have hf:=h.Hj hx;obtain⟨⟨ts,t,h1,h2,h3⟩,h4⟩:=hf;have Qp:=hn.qz ts t h1;have hs:=hn.s1;have e1:=Rl t;have e2:=U8 x.Ai;refine⟨g,rfl,h,rfl,⟨?_,fun f hf=> ?_,?_⟩,?_⟩
  ·have:=h3.len;have:=U6 t;omega
  ·obtain⟨o,h5,h6⟩:=h4.us f hf;have:=eF h5;have:=U6 o.body;omega
  ·have:=eG x.Ai;have:=h4.len;omega
  ·have:=h2.len;rw[h1] at ht;simp at ht;omega
theorem JH (x:qr) (s:Ck→Ck):(x.add s).cells=x.cells∧(x.add s).Aa.length=x.Aa.length:=by
 unfold qr.add;split
 ·exact⟨rfl,rfl⟩
 ·split
  ·rename_i t ht;obtain⟨ts,h⟩:=List.getLast?_eq_some_iff.1 ht;simp[h]
  ·exact⟨rfl,rfl⟩
theorem P0 {x y:qr} {n:ByteArray} {v:Int} (h:x.Dd n= .ok (v,y)):y.cells=x.cells∧y.Aa.length=x.Aa.length:=by
 unfold qr.Dd at h;split at h
 ·cases h
 ·split at h
  ·cases h;exact⟨rfl,rfl⟩
  ·split at h
   ·cases h
   ·cases h;exact⟨rfl,rfl⟩
theorem VK {x y:qr} {s:OH} (h:x.finish s= .ok y):y.cells=x.cells∧y.Aa.length=x.Aa.length:=by
 cases s with
 | set n a op b=>
  simp only[qr.finish] at h;split at h
  ·cases h
  ·split at h
   ·cases h
   ·split at h
    ·cases h
    ·rename_i hl;cases h;obtain⟨a1,a2⟩:=P0 hl;exact⟨(JH _ _).1.trans a1,(JH _ _).2.trans a2⟩
 | get n s i=>
  simp only[qr.finish] at h;split at h
  ·cases h
  ·split at h
   ·cases h
   ·rename_i hl;cases h;obtain⟨a1,a2⟩:=P0 hl;exact⟨(JH _ _).1.trans a1,(JH _ _).2.trans a2⟩
 | put n a i=>
  simp only[qr.finish] at h;split at h
  ·cases h
  ·split at h
   ·cases h
   ·cases h;exact JH _ _
 | out a=>
  simp only[qr.finish] at h;split at h
  ·cases h
  ·cases h;exact JH _ _
 | atomic=>simp only[qr.finish] at h;cases h;exact⟨rfl,rfl⟩
 | ES a=>
  simp only[qr.finish] at h;split at h
  ·cases h
  ·cases h;exact⟨rfl,rfl⟩
 | loop n=>simp only[qr.finish] at h;cases h;exact⟨rfl,rfl⟩
theorem eZ {x y:qr} {l:Ws} (h:x.row l= .ok y):y.cells≤x.cells+6∧y.Aa.length≤x.Aa.length+1:=by
 cases l with
 | nil=>cases h
 | cons w r=>
  by_cases h0:bs w=AN
  ·rw[GF h0] at h;unfold qr.DU at h;split at h
   ·cases h
   ·split at h
    ·cases h
    ·cases h
    ·rename_i sz hz;split at h
     ·cases h
     ·split at h
      ·cases h
      ·cases h;refine⟨?_,by simp⟩;show x.cells+_≤x.cells+6;split at hz
       ·cases hz;omega
       ·have:=Q5 hz;omega
  by_cases h1:bs w=AE
  ·rw[J1 h1] at h;split at h
   ·cases h
   ·split at h
    ·cases h
    ·cases h;simp;omega
  by_cases h2:bs w=D7
  ·rw[Sz h2] at h;split at h
   ·cases h
   ·split at h
    ·cases h
    ·cases h;obtain⟨a1,a2⟩:=JH {x with Ai:=x.Ai.dropLast} (Fr.done _);rw[a1,a2];simp;omega
  ·rw[Sy h0 h1 h2] at h;cases hr:GU w r with
   | none=>rw[Cb hr] at h;cases h
   | some s=>
    rw[Fg hr] at h;unfold qr.LV at h;split at h
    ·cases h
    ·split at h
     ·cases h
     ·rename_i y' hf;split at h
      ·cases h
      ·cases h;obtain⟨a1,a2⟩:=VK hf;show y'.cells≤_∧y'.Aa.length≤_;omega
theorem Zm (c:UInt8) (l:List By) (p:By):Mh c (l++[p])=l.map (· ++[c])++[p]:=by
 induction l with
 | nil=>rfl
 | cons a l ih=>
  cases l with
  | nil=>rfl
  | cons b q=>simp only[List.cons_append,Mh,List.map_cons] at ih⊢;rw[ih]
theorem Yn (c:UInt8) (s:By):∀p,p∈Ay c s→c∉p:=by
 induction s with
 | nil=>intro p hp;simp[Ay] at hp;subst hp;simp
 | cons x r ih=>
  intro p hp;by_cases h:x=c
  ·simp only[Ay,if_pos h] at hp;rcases List.mem_cons.1 hp with rfl | hp
   ·simp
   ·exact ih p hp
  ·rw[Gj c x r h] at hp;cases hs:Ay c r with
   | nil=>exact absurd hs (Cc _ _)
   | cons q qs=>
    rw[hs] at hp;rcases List.mem_cons.1 hp with rfl | hp
    ·intro hm;rcases List.mem_append.1 hm with hm | hm
     ·rw[List.mem_singleton] at hm;exact h hm.symm
     ·exact ih q (by rw[hs];exact List.mem_cons_self ..) hm
    ·exact ih p (by rw[hs];exact List.mem_cons_of_mem _ hp)
theorem Lb (c:UInt8) (s:By):∀p,p∈Ay c s→p.length≤s.length:=by
 induction s with
 | nil=>intro p hp;simp[Ay] at hp;subst hp;exact Nat.le_refl _
 | cons x r ih=>
  intro p hp;by_cases h:x=c
  ·simp only[Ay,if_pos h] at hp;rcases List.mem_cons.1 hp with rfl | hp
   ·exact Nat.zero_le _
   ·have:=ih p hp;simp only[List.length_cons];omega
  ·rw[Gj c x r h] at hp;cases hs:Ay c r with
   | nil=>exact absurd hs (Cc _ _)
   | cons q qs=>
    rw[hs] at hp;rcases List.mem_cons.1 hp with rfl | hp
    ·have:=ih q (by rw[hs];exact List.mem_cons_self ..);simp;omega
    ·have:=ih p (by rw[hs];exact List.mem_cons_of_mem _ hp);simp only[List.length_cons];omega
theorem lI (p:By):Lib.hasSuffix (p++[10]) [10]=true∧Lib.trimSuffix (p++[10]) [10]=p:=by
 have h:Lib.hasSuffix (p++[10]) [10]=true:=by unfold Lib.hasSuffix;rw[List.isSuffixOf_iff_suffix];exact⟨p,rfl⟩
 refine⟨h,?_⟩;unfold Lib.trimSuffix;rw[if_pos h];simp
theorem py {p:By} (hp:(10:UInt8)∉p):Lib.hasSuffix p [10]=false∧Lib.trimSuffix p [10]=p:=by
 have h:Lib.hasSuffix p [10]=false:=by
  rw[←Bool.not_eq_true];unfold Lib.hasSuffix;rw[List.isSuffixOf_iff_suffix];rintro⟨q,rfl⟩;exact hp (by simp)
 refine⟨h,?_⟩;unfold Lib.trimSuffix;rw[h];rfl
theorem KF {T:Array Value} {w0 W:World} {res:Except (Int×Nat) qr} {c Ae:Int} {n fb:Nat} (h2:T[2]?=some (.pointer (some ⟨w0.heap.size,0,none⟩))) (h3:T[3]?=some (.pointer (some ⟨w0.heap.size+1,0,none⟩)))
  (hp:BR W w0.heap.size #[.pointer none] 117) (he:BR W (w0.heap.size+1) #[.nilIface] 85) (sf:W.heap[fb]?=some (.cells #[.int .i64 c,.int .i64 Ae] 127 (0,0))) (hm:Av [] w0 W) (AU:res= .error (c,n)) (hl:Ae=n):
  bodyPostD Tryz.prog Tryz.f50 (ZH res w0) (Exit.panic [{v:= .iface 123 (.pointer (some ⟨fb,0,none⟩)),recovered:=false}]) {tmps:=T,defers:=[{target:=Target.fn (Fn.func 68) #[.pointer (some ⟨w0.heap.size,0,none⟩),.pointer (some ⟨w0.heap.size+1,0,none⟩)],args:= #[]}]} W:=by
 refine Zp h2 h3 hp he (by omega) rfl rfl ?_;subst hl;subst AU;have n1:fb≠w0.heap.size:=by rintro rfl;unfold BR at hp;rw[hp] at sf;simp at sf
 have n2:fb≠w0.heap.size+1:=by rintro rfl;unfold BR at he;rw[he] at sf;simp at sf
 exact⟨fb,rfl,BR.DW (BR.DW sf n1 _) n2 _,(hm.setCell (.inr (Nat.le_refl _)) _).setCell (.inr (Nat.le_succ _)) _⟩
theorem Ry {w0 W:World} {rb:Nat} {rows:Array Value} {L:List Ob} (K:Ba W L (WH w0 rb rows)):BR W w0.heap.size #[.pointer none] 117∧BR W (w0.heap.size+1) #[.nilIface] 85∧BR W rb rows 9:=
 ⟨K.heap _ _ (by simp[WH]),K.heap _ _ (by simp[WH]),K.heap _ _ (by simp[WH])⟩
theorem ft {w wc:World} {mb rb:Nat} {rows:Array Value} {s:By} (K:Ba wc [] (WH w rb rows)) (hm:Av [] w wc) (hg:Gl mb wc) (hl:¬2000 < s.length):
  PI w mb rb rows s (wc.heap.size+2) 0 (((wc.alloc (.cells #[.slice none 0 0,.int .i64 0] 146)).alloc (.map #[] 0)).alloc (.cells #[.slice none 0 0,.int .i64 0,.pointer (some ⟨wc.heap.size,0,none⟩),.map (some (wc.heap.size+1)),.map none,.slice none 0 0,.int .i64 0] 151)):=by
 have a1:=Ad.new (AK.nil wc) (.cells #[.slice none 0 0,.int .i64 0] 146);have a2:=a1.trans (Ad.new a1.Al (.map #[] 0));have a3:=a2.trans (Ad.Oi a2.Al (.cells #[.slice none 0 0,.int .i64 0,.pointer (some ⟨wc.heap.size,0,none⟩),.map (some (wc.heap.size+1)),.map none,.slice none 0 0,.int .i64 0] 151));rw[Ii,Ii] at a3;have e:FG.NS ⟨wc.heap.size+1+1,wc.heap.size,wc.heap.size+1,0,0,0,[],⟨none,0⟩,[],0,0,[]⟩ .Dk (.slice none 0 0) 0=[.AP (wc.heap.size+1+1) #[.slice none 0 0,.int .i64 0,.pointer (some ⟨wc.heap.size,0,none⟩),.map (some (wc.heap.size+1)),.map none,.slice none 0 0,.int .i64 0] 151,.AP wc.heap.size #[.slice none 0 0,.int .i64 0] 146,.PN (wc.heap.size+1) (.map #[] 0)]:=rfl;have r4:tG mb wc []:=⟨hg,fun b _ h=>by simp[En] at h⟩;refine⟨⟨wc.heap.size+1+1,wc.heap.size,wc.heap.size+1,0,0,0,[],⟨none,0⟩,[],0,0,[]⟩,[],.slice none 0 0,0,.Dk,rfl,⟨⟨?_,Ba.nil _ _,fun h=>absurd rfl h,fun _=>⟨rfl,rfl,rfl⟩⟩,?_,?_,?_,?_,.Dk,.Dk,?_,?_,?_,⟨by simp,by simp,by simp⟩,by simp⟩⟩
 ·rw[e];exact a3.Al
 ·rw[e];exact K.step a3
 ·rw[e];exact r4.step a3
 ·intro b hb;rw[e] at hb;have:=hm.size;rcases a3.fp b hb with h | h
  ·simp[En] at h
  ·omega
 ·exact hm.Ac (a3.Bh.mono fun x hx=>by simp[En] at hx)
 ·simp[qr.Dk]
 ·simp[qr.Dk]
 ·unfold EY;rw[if_neg hl];rfl
theorem ee.row {w0:World} {mb rb:Nat} {rows:Array Value} {s:By} {k:Nat} {g:FG} {F:List (Nat×Obj)} {wv:Value} {Ae:Int} {x:qr} {wr W:World} (h:ee w0 mb rb rows s k g F wv Ae x wr) {wv':Value} {line':Int} (hW:V0 W g.xb (g.bH x) wv' line') (hm:Av [g.xb] wr W):
  ee w0 mb rb rows s k g F wv' line' x W:=by
 obtain⟨h1,h2⟩:=h.pa.re hW hm;refine⟨h1,h.AT.step h2,h.gl.step h2,fun b hb=> ?_,h.Bh.trans h2.Bh fun b hb=> .inr (h.new b hb),h.fw,h.fn,h.cl,h.tl,h.go,h.bd,h.tv⟩;rcases h2.fp b hb with h3 | h3
 ·exact h.new b h3
 ·have:=h.Bh.size;omega
theorem ee.quiet {w0:World} {mb rb:Nat} {rows:Array Value} {s:By} {k:Nat} {g:FG} {F:List (Nat×Obj)} {wv:Value} {Ae:Int} {x:qr} {wr W:World} (h:ee w0 mb rb rows s k g F wv Ae x wr) (hm:Av [] wr W):ee w0 mb rb rows s k g F wv Ae x W:=
 h.row (h.pa.kD.px.Bh hm (by simp)) hm.nil
theorem ee.fail {w0:World} {mb rb:Nat} {rows:Array Value} {s:By} {k:Nat} {g:FG} {F:List (Nat×Obj)} {wv:Value} {Ae:Int} {x:qr} {wr W:World} (h:ee w0 mb rb rows s k g F wv Ae x wr) (hm:Av (PM g x wv Ae) wr W):
  BR W w0.heap.size #[.pointer none] 117∧BR W (w0.heap.size+1) #[.nilIface] 85∧Av [] w0 W:=
 ⟨hm.heap (Ry h.AT).1 (fun hb=>h.AT.out _ _ (List.mem_cons_self ..) (Vk hb)),hm.heap (Ry h.AT).2.1 (fun hb=>h.AT.out _ _ (List.mem_cons_of_mem _ (List.mem_cons_self ..)) (Vk hb)),h.Bh.trans hm fun b hb=> .inr (h.new b (Vk hb))⟩
theorem ee.next {w0:World} {mb rb:Nat} {rows:Array Value} {s:By} {k:Nat} {g:FG} {F:List (Nat×Obj)} {wv:Value} {Ae:Int} {x y:qr} {wr W:World} (h:ee w0 mb rb rows s k g F wv Ae x wr) {l:Ws} (hr:x.row l= .ok y) (dZ:EY s=GV ((Ay 10 s).drop (k+1)) (k+1) y) (hk:k≤2400)
  {g':FG} {F':List (Nat×Obj)} {wv':Value} (cF:g'.xb=g.xb) (st:Ad wr (g.NS x wv Ae) W (g'.NS y wv' Ae)) (hp:PA F' g' y wv' Ae W):PI w0 mb rb rows s g.xb (k+1) W:=by
 obtain⟨hw,hn⟩:=qr.Yv h.fw h.fn hr;obtain⟨c1,c2⟩:=eZ hr;have kX:=h.tl;have Dp:=h.cl;obtain⟨g2,e1,p2,e2,b2,t2⟩:=hp.bd hn (by omega);rw[←e2] at st;refine⟨g2,F',wv',Ae,y,by rw[e1,cF],⟨p2,h.AT.step st,h.gl.step st,fun b hb=> ?_,h.Bh.trans st.Bh fun b hb=> .inr (h.new b hb),hw,hn,by omega,by omega,dZ,b2,t2⟩⟩;rcases st.fp b hb with h3 | h3
 ·exact h.new b h3
 ·have:=h.Bh.size;omega
theorem kN {s:By} {ini:List By} {pl:By} {k m:Nat} (hP:Ay 10 s=ini++[pl]) (hk:k < m) (hm:m≤ini.length+1) (hl:ini.length < m→¬(pl=[]∧0 < ini.length)):
  ∃(q p:By) (en:Bool),(AY (List.map AA (List.map (fun x=>x++[10]) ini++[pl])))[k]?=some (.string (AA q))∧Lib.hasSuffix q [10]=en∧Lib.trimSuffix q [10]=p∧q.length≤s.length+1∧p.length≤s.length∧
   (en=true→∀x,GV ((Ay 10 s).drop k) k x=match x.row (Bv p) with | .error c=> .error (c,k+1) | .ok y=>GV ((Ay 10 s).drop (k+1)) (k+1) y)∧(en=false→∀x,GV ((Ay 10 s).drop k) k x= .error (2,k+1)):=by
 have hlen:∀p,p∈Ay 10 s→p.length≤s.length:=Lb 10 s;by_cases h:k < ini.length
 ·obtain⟨c1,c2⟩:=lI ini[k];have cL:ini[k]∈Ay 10 s:=by rw[hP];exact List.mem_append_left _ (List.getElem_mem h)
  refine⟨ini[k]++[10],ini[k],true,?_,c1,c2,?_,hlen _ cL,fun _ x=> ?_,(fun h=>by cases h)⟩
  ·simp only[AY,List.map_map,List.map_append,List.map_cons,List.map_nil];rw[List.getElem?_append_left (by simpa using h),List.getElem?_map,List.getElem?_eq_getElem h];rfl
  ·have:=hlen _ cL;simp;omega
  ·rw[hP];have e1:(ini++[pl]).drop k=ini[k]::(ini++[pl]).drop (k+1):=by
    rw[List.drop_eq_getElem_cons (by simp;omega),List.getElem_append_left h]
   rw[e1];cases hd:(ini++[pl]).drop (k+1) with
   | nil=>have:=congrArg List.length hd;simp at this;omega
   | cons a r=>rfl
 ·have QQ:k=ini.length:=by omega
  subst QQ;have Xc:(10:UInt8)∉pl:=Yn 10 s pl (by rw[hP];simp);obtain⟨c1,c2⟩:=py Xc;have cL:pl∈Ay 10 s:=by rw[hP];simp
  refine⟨pl,pl,false,?_,c1,c2,?_,hlen _ cL,(fun h=>by cases h),fun _ x=> ?_⟩
  ·simp[AY]
  ·have:=hlen _ cL;omega
  ·rw[hP,List.drop_left];show(if _ then _ else _)=_;rw[if_neg (hl (by omega))]
def dp (p e:Nat) (F:List (Nat×Obj)):List (Nat×Obj):=F.filter fun q=>decide (q.1≠p∧q.1≠e)
structure jH (p e:Nat) (F:List (Nat×Obj)) (w:World):Prop where
 k:∀b o,(b,o)∈F→w.heap[b]?=some o
 p:BR w p #[.pointer none] 117
 e:BR w e #[.nilIface] 85
section
variable {p e:Nat} {F:List (Nat×Obj)} {w:World}
theorem jH.mem (h:jH p e F w) {b:Nat} {c:Array Value} {T:TypeId} (hb:(b,Obj.cells c T (0,0))∈F) (n1:¬(c= #[.pointer none]∧T=117)) (n2:¬(c= #[.nilIface]∧T=85)):(b,Obj.cells c T (0,0))∈dp p e F:=by
 refine List.mem_filter.2 ⟨hb,?_⟩;rw[decide_eq_true_eq];refine⟨fun (he:b=p)=>n1 ?_,fun (he:b=e)=>n2 ?_⟩
 ·have h1:=h.k _ _ hb;have h2:=h.p;unfold BR at h2;rw[he,h2] at h1;simp only[Option.some.injEq,Obj.cells.injEq] at h1;exact⟨h1.1.symm,h1.2.1.symm⟩
 ·have h1:=h.k _ _ hb;have h2:=h.e;unfold BR at h2;rw[he,h2] at h1;simp only[Option.some.injEq,Obj.cells.injEq] at h1;exact⟨h1.1.symm,h1.2.1.symm⟩
theorem jH.WR (h:jH p e F w) {b:Nat} {c:Array Value} {T:TypeId} (hb:(b,Obj.cells c T (0,0))∈F) (n1:T≠117) (n2:T≠85):(b,Obj.cells c T (0,0))∈dp p e F:=h.mem hb (fun h=>n1 h.2) (fun h=>n2 h.2)
theorem jH.row (h:jH p e F w) {sl:Value} {ws:List Value} (hr:D4 F sl ws) (hw:∀v,v∈ws→v≠ .pointer none∧v≠ .nilIface):D4 (dp p e F) sl ws:=by
 rcases hr with hr | ⟨b,c,T,cur,h1,h2,h3⟩
 ·exact .inl hr
 ·cases ws with
  | nil=>exact .inl ⟨rfl,_,c,h1⟩
  | cons v us=>
   have hv:v∈cur.toList:=by
    have:v∈cur.toList.take (v::us).length:=by rw[←h3];exact List.mem_cons_self ..
    exact List.take_subset _ _ this
   refine .inr ⟨b,c,T,cur,h1,h.mem h2 ?_ ?_,h3⟩
   ·rintro⟨rfl,_⟩;simp at hv;exact(hw v (List.mem_cons_self ..)).1 hv
   ·rintro⟨rfl,_⟩;simp at hv;exact(hw v (List.mem_cons_self ..)).2 hv
theorem DI.tN {t:Ck} {vs:List Value} (h:DI F t vs):∀v,v∈vs→v≠ .pointer none∧v≠ .nilIface:=by
 induction t generalizing vs with
 | nil=>rw[show vs=[] from h];intro v hv;cases hv
 | set _ _ _ _ r ih=>obtain⟨q,us,rfl,_,h3⟩:=h;intro v hv;rcases List.mem_cons.1 hv with rfl | hv;exact⟨by simp,by simp⟩;exact ih h3 v hv
 | get _ _ _ _ r ih=>obtain⟨q,us,rfl,_,h3⟩:=h;intro v hv;rcases List.mem_cons.1 hv with rfl | hv;exact⟨by simp,by simp⟩;exact ih h3 v hv
 | put _ _ _ _ r ih=>obtain⟨q,us,rfl,_,h3⟩:=h;intro v hv;rcases List.mem_cons.1 hv with rfl | hv;exact⟨by simp,by simp⟩;exact ih h3 v hv
 | out _ r ih=>obtain⟨q,us,rfl,_,h3⟩:=h;intro v hv;rcases List.mem_cons.1 hv with rfl | hv;exact⟨by simp,by simp⟩;exact ih h3 v hv
 | atomic _ r _ ih=>obtain⟨q,us,_,_,rfl,_,_,_,h3⟩:=h;intro v hv;rcases List.mem_cons.1 hv with rfl | hv;exact⟨by simp,by simp⟩;exact ih h3 v hv
 | ES _ _ r _ ih=>obtain⟨q,us,_,_,rfl,_,_,_,h3⟩:=h;intro v hv;rcases List.mem_cons.1 hv with rfl | hv;exact⟨by simp,by simp⟩;exact ih h3 v hv
 | loop _ _ r _ ih=>obtain⟨q,us,_,_,rfl,_,_,_,h3⟩:=h;intro v hv;rcases List.mem_cons.1 hv with rfl | hv;exact⟨by simp,by simp⟩;exact ih h3 v hv
theorem jH.st (h:jH p e F w) {t:Ck} {vs:List Value} (hs:DI F t vs):DI (dp p e F) t vs:=by
 induction t generalizing vs with
 | nil=>exact hs
 | set v op a b r ih=>obtain⟨q,us,h1,h2,h3⟩:=hs;exact⟨q,us,h1,h.WR h2 (by decide) (by decide),ih h3⟩
 | get v f s a r ih=>obtain⟨q,us,h1,h2,h3⟩:=hs;exact⟨q,us,h1,h.WR h2 (by decide) (by decide),ih h3⟩
 | put f s i a r ih=>obtain⟨q,us,h1,h2,h3⟩:=hs;exact⟨q,us,h1,h.WR h2 (by decide) (by decide),ih h3⟩
 | out a r ih=>obtain⟨q,us,h1,h2,h3⟩:=hs;exact⟨q,us,h1,h.WR h2 (by decide) (by decide),ih h3⟩
 | atomic b r ib ih=>obtain⟨q,us,sl,ws,h1,h2,h3,h4,h5⟩:=hs;exact⟨q,us,sl,ws,h1,h.WR h2 (by decide) (by decide),h.row h3 h4.tN,ib h4,ih h5⟩
 | ES a b r ib ih=>obtain⟨q,us,sl,ws,h1,h2,h3,h4,h5⟩:=hs;exact⟨q,us,sl,ws,h1,h.WR h2 (by decide) (by decide),h.row h3 h4.tN,ib h4,ih h5⟩
 | loop n b r ib ih=>obtain⟨q,us,sl,ws,h1,h2,h3,h4,h5⟩:=hs;exact⟨q,us,sl,ws,h1,h.WR h2 (by decide) (by decide),h.row h3 h4.tN,ib h4,ih h5⟩
theorem jH.j5 (h:jH p e F w) {ts:List Ck} {vs:List Value} (hs:Gg F ts vs):Gg (dp p e F) ts vs:=by
 induction ts generalizing vs with
 | nil=>exact hs
 | cons t r ih=>obtain⟨sl,ws,us,h1,h2,h3,h4⟩:=hs;exact⟨sl,ws,us,h1,h.row h2 h3.tN,h.st h3,ih h4⟩
theorem Gg.zV {ts:List Ck} {vs:List Value} (h:Gg F ts vs):∀v,v∈vs→v≠ .pointer none∧v≠ .nilIface:=by
 induction ts generalizing vs with
 | nil=>rw[show vs=[] from h];intro v hv;cases hv
 | cons t r ih=>
  obtain⟨sl,ws,us,rfl,h2,_,h4⟩:=h;intro v hv;rcases List.mem_cons.1 hv with rfl | hv
  ·obtain⟨p,c,rfl⟩:=h2.JF;exact⟨by simp,by simp⟩
  ·exact ih h4 v hv
end
theorem bL {F:List (Nat×Obj)} {w0 w5 w6:World} {mb rb k:Nat} {rows:Array Value} {s:By} {g:FG} {F':List (Nat×Obj)} {wv:Value} {Ae:Int} {x:qr} {lv ov sv:Value} {tp:Option Addr} {tc:Nat} {rs:List Value}
  (hI:ee w0 mb rb rows s k g F wv Ae x w5) (hF:tH F g x wv Ae w5 lv ov sv tp tc rs F') (hm:Av [] w5 w6):
  ZH (.ok x) w0 (.returned (.tuple #[.pointer (some ⟨g.pb,0,none⟩),.nilIface])) ((w6.setCell ⟨w0.heap.size,0,none⟩ (.pointer (some ⟨g.pb,0,none⟩))).setCell ⟨w0.heap.size+1,0,none⟩ .nilIface):=by
 obtain⟨E,K,hr⟩:=Nt (A:=[_,_,_]) (B:=[]) hF.st.Al hF.AT;have dW:=hF.st.Al.AP (i:=1) rfl;obtain⟨kp,ke,_⟩:=Ry hI.AT;have qh:jH w0.heap.size (w0.heap.size+1) ((g.pb,Obj.cells #[.slice tp rs.length tc,.int .i64 x.cells] 146 (0,0))::(E++F')) w6:=by
  refine⟨fun b o hb=> ?_,kp.Bh hm (by simp),ke.Bh hm (by simp)⟩;rcases List.mem_cons.1 hb with hb | hb
  ·cases hb;exact hm.heap dW (by simp)
  ·exact hm.heap (K.heap b o hb) (by simp)
 have hlen:=hF.j5.len;have u9:=hF.j5.sub (E:=(g.pb,Obj.cells #[.slice tp rs.length tc,.int .i64 x.cells] 146 (0,0))::(E++F')) (fun _ h=>List.mem_cons_of_mem _ (List.mem_append_right _ h));have Hf:=hr.sub (E:=(g.pb,Obj.cells #[.slice tp rs.length tc,.int .i64 x.cells] 146 (0,0))::(E++F')) (fun _ h=>List.mem_cons_of_mem _ h);refine⟨dp w0.heap.size (w0.heap.size+1) ((g.pb,Obj.cells #[.slice tp rs.length tc,.int .i64 x.cells] 146 (0,0))::(E++F')),g.pb,tp,tc,rs,rfl,?_,⟨fun b o hb=> ?_,fun b o _ h=>by simp[En] at h⟩,?_,?_,qh.j5 u9⟩
 ·exact((hI.Bh.Ac hm).setCell (.inr (Nat.le_refl _)) _).setCell (.inr (Nat.le_succ _)) _
 ·obtain⟨h1,h2⟩:=List.mem_filter.1 hb;rw[decide_eq_true_eq] at h2;rw[Below.heap_setCell _ _ _ _ h2.2,Below.heap_setCell _ _ _ _ h2.1];exact qh.k b o h1
 ·rw[←hlen];exact qh.WR (List.mem_cons_self ..) (by decide) (by decide)
 ·rw[←hlen];exact qh.row Hf hF.j5.zV
theorem Zj (mb:Nat) (s:ByteArray) (w:World) (hg:Gl mb w) (hs:s.size≤1000000):
  Calls Tryz.prog 50 #[.string s] w (ZH (EY (bs s)) w):=by
 have Sj:∀(fn:Fn) (first cap:Array Value) (w:World),(Instr.makeFunc fn first cap).run Tryz.prog w= .ok (.func fn first cap) w:=fun _ _ _ _=>rfl
 have lg:= @run_makeMap Tryz.prog;have K0:Ba ((w.alloc (.cells #[.pointer none] 117)).alloc (.cells #[.nilIface] 85)) [] [(w.heap.size,.cells #[.pointer none] 117 (0,0)),(w.heap.size+1,.cells #[.nilIface] 85 (0,0))]:=by
  have a:=(Ba.new (Ba.new (Ba.nil w []) (AK.nil w) (.cells #[.pointer none] 117)) (AK.nil _) (.cells #[.nilIface] 85));rw[Ii] at a;exact a.sub (fun x hx=>by simp only[List.mem_cons,List.mem_nil_iff,or_false] at hx⊢;exact hx.symm)
 have m0:Av [] w ((w.alloc (.cells #[.pointer none] 117)).alloc (.cells #[.nilIface] 85)):=((Av.refl [] w).alloc _).alloc _;have tE:=hid K0;have tD:=hid m0;have HG:=hid hg;clear K0 m0 hg;by_cases hl:2000 < s.size
 ·have ak:(2000:Int) < (s.size:Int):=by omega
  have Hr:=hid (show EY (bs s)= .error (1,0) by unfold EY;rw[if_pos (by rw[Bu];exact hl)]);clear hl;go_enter_defers Tryz.func50,Tryz.ntmps50;go_wp2_with fail;refine(AS _ _ _).mono ?_;rintro e w5 ⟨⟨fb,rfl,hb⟩,hm⟩;go_wp2;have K:=tE.out.quiet hm;exact KF (by rfl) (by rfl) (K.heap _ _ (List.mem_cons_self ..)) (K.heap _ _ (List.mem_cons_of_mem _ (List.mem_cons_self ..))) hb (tD.out.Ac hm) Hr.out rfl
 have ak:¬(2000:Int) < (s.size:Int):=by omega
 go_enter_defers Tryz.func50,Tryz.ntmps50;go_wp2_with fail;refine(Ro mb s _ (HG.out.quiet tD.out) hs).mono ?_;intro e w1 he;obtain⟨rb,n,rfl,hn,C9,cK,hB⟩:=he;obtain⟨ini,pl,hP⟩:∃ini pl,Ay 10 (bs s)=ini++[pl]:=by
  rcases List.eq_nil_or_concat (Ay 10 (bs s)) with h | ⟨a,b,h⟩
  ·exact absurd h (Cc _ _)
  ·exact⟨a,b,by rw[h,List.concat_eq_append]⟩
 obtain⟨k0,Tw⟩:∃k,k=ini.length:=⟨_,rfl⟩;have Kc:n=k0+1:=by rw[hn,hP,Tw];simp
 subst Kc;have C8:k0≤2001:=by
  have:=F5 10 _ (bs s) (Nat.le_refl _);have h3:=Lib.count_le (bs s) [10];rw[Bu] at h3;omega
 rw[hP,Zm] at hB;have K1:Ba w1 [] (WH w rb (AY (List.map AA (List.map (fun x=>x++[10]) ini++[pl]))).toArray):=by
  have a:=tE.out.quiet C9;have GK:=tD.out.size;refine⟨fun b o hb=> ?_,fun b o _ h=>by simp[En] at h⟩;simp only[WH,List.mem_cons,List.mem_nil_iff,or_false] at hb;rcases hb with hb | hb | hb
  ·cases hb;exact a.heap _ _ (by simp)
  ·cases hb;exact a.heap _ _ (by simp)
  ·cases hb;exact hB
 have O7:(AY (List.map AA (List.map (fun x=>x++[10]) ini++[pl]))).length=k0+1:=by simp[AY,Tw]
 have FA:(AY (List.map AA (List.map (fun x=>x++[10]) ini++[pl])))[k0]?=some (.string (AA pl)):=by simp[AY,Tw]
 have r0:w1.cell? ⟨rb,k0,none⟩=some (.string (AA pl)):=by rw[hB.cell,List.getElem?_toArray];exact FA
 have HP:=hid hP;have HK:=hid Tw;have zL:=hid K1;have Kh:=hid (tD.out.Ac C9);have HRL:=hid O7;clear hn hP Tw hB C9 cK K1 O7 FA;have hw:True→wrap64 (k0:Int)=k0:=fun _=>IntWalk.wrap64_in _ (by omega)
 have oL:(0:Int)≤(k0:Int):=by omega
 have vI:(k0:Int) < (k0:Int)+1:=by omega
 obtain⟨tr,ra⟩:∃b,b=decide (pl=[]∧0 < k0):=⟨_,rfl⟩;have tC:=hid ra;clear ra;go_upto_region 6 with fail
 go_cut [29] from 18 to 29 (fun q w'=>w'=w1∧q= .bool tr)
 case first=>
  by_cases CM:pl=[]
  ·subst CM;have he:(AA []).toList=[]:=by rw[ByteArray.toList_eq];rfl
   have jM:(AA [])=⟨#[]⟩:=rfl;by_cases hk:0 < k0
   ·have rV:(0:Int) < (k0:Int):=by omega
    have Hq:=hid (show Value.bool (decide (0 < k0))= .bool tr by rw[tC.out];simp[hk]);rw[jM] at r0;clear he jM hk;go_wp2
    go_meet
    exact⟨rfl,Hq.out⟩
   ·have rV:¬(0:Int) < (k0:Int):=by omega
    have Hq:=hid (show Value.bool (decide (0 < k0))= .bool tr by rw[tC.out];simp[hk]);rw[jM] at r0;clear he jM hk;go_wp2
    go_meet
    exact⟨rfl,Hq.out⟩
  ·have he:¬(AA pl).toList=[]:=by rw[ByteArray.toList_eq];exact CM
   have jM:(AA pl).toList.isEmpty=false:=by rw[←Bool.not_eq_true,List.isEmpty_iff];exact he
   have Hq:=hid (show tr=false by rw[tC.out];simp[CM]);clear CM;go_wp2
   go_meet
   rw[Hq.out];exact⟨rfl,rfl⟩
 case rest=>
  obtain⟨DK,hq⟩:=hcut;subst DK;subst hq;clear r0
  go_upto_if 29 with(fail)
  go_cut [4] from 30 to 32 (fun q w'=>w'=wc∧q= .slice (some ⟨rb,0,none⟩) (if tr=true then k0 else k0+1) (k0+1))
  case first=>
   have Aax:k0≤k0+1:=by omega
   cases tr with
   | true=>
    go_wp2
    go_meet
    exact⟨rfl,rfl⟩
   | false=>
    go_wp2
    go_meet
    exact⟨rfl,rfl⟩
  case rest=>
   obtain⟨DK,hq⟩:=hcut;subst DK;subst hq;obtain⟨m,hm⟩:∃m,m=(if tr=true then k0 else k0+1):=⟨_,rfl⟩;rw[←hm];have jL:m≤k0+1:=by rw[hm];split <;>omega
   have hex:∀x,GV ((ini++[pl]).drop m) m x=GW m x:=fun x=>by
    by_cases ht:tr=true
    ·rw[if_pos ht] at hm;rw[tC.out,decide_eq_true_eq] at ht;obtain⟨rfl,h0⟩:=ht;rw[hm,HK.out,List.drop_left];show(if _ then _ else _)=_;rw[if_pos ⟨rfl,by rw[←HK.out];exact h0⟩]
    ·rw[if_neg ht] at hm;rw[hm,HK.out,List.drop_of_length_le (by simp)];rfl
   have gX:k0 < m→¬(pl=[]∧0 < k0):=fun h hc=>by
    have ht:tr=true:=by rw[tC.out,decide_eq_true_eq];exact hc
    rw[if_pos ht] at hm;omega
   have HEX:=hid hex;have HLK:=hid gX;clear hm hex gX;have V6:(0:Int)≤(m:Int):=by omega
   go_wp2;go_loopw [39] (fun i wr=>∃k:Nat,i= .int .i64 k∧k≤m∧PI w mb rb (AY (List.map AA (List.map (fun x=>x++[10]) ini++[pl]))).toArray (bs s) (wc.heap.size+2) k wr) (fun i _=>m - (intOf i).toNat);case atStart=>exact⟨0,rfl,Nat.zero_le _,ft zL.out Kh.out (HG.out.quiet Kh.out) (by rw[Bu];exact hl)⟩
   case round=>
    clear tE tD zL Kh lg hw oL vI;obtain⟨k,rfl,hk,g,F,wv,Ae,x,cF,hI⟩:=hrel;have HI:=hid hI;have Aay:(0:Int)≤(k:Int):=by omega
    have Lr:True→wrap64 ((k:Int)+1)=k+1:=fun _=>IntWalk.wrap64_in _ (by omega)
    rw[←cF];have Hxb:=hid cF;clear cF hI;by_cases hkm:(k:Int) < (m:Int)
    ·have rT:k < m:=by omega
     obtain⟨q,p,en,Hf,yx,ra,yC,CM,r2,rZ⟩:=kN HP.out rT (by rw[←HK.out];exact jL) (by rw[←HK.out];exact HLK.out);rw[Bu] at yC CM;have hqs:(AA q).size≤1000001:=by rw[←Bu,Cs];omega
     have Y1:(AA p).size≤1000000:=by rw[←Bu,Cs];omega
     have r0:wr.cell? ⟨rb,k,none⟩=some (.string (AA q)):=by rw[(Ry HI.out.AT).2.2.cell,List.getElem?_toArray];exact Hf
     have hcut:Calls Tryz.prog 71 #[.string (AA q),.string ⟨#[10]⟩] wr fun e w'=>e= .returned (.tuple #[.string (AA p),.bool en])∧w'=wr:=by
      refine(Tryz.strings_CutSuffix (AA q) ⟨#[10]⟩ wr (by omega)).mono ?_;rintro e w' ⟨rfl,rfl⟩;refine⟨?_,rfl⟩;show Ending.returned (.tuple #[.string ⟨(Lib.trimSuffix (bs (AA q)) [10]).toArray⟩,.bool (Lib.hasSuffix (bs (AA q)) [10])])=_;rw[Cs,yx,ra];rfl
     have x7:=hid CM;have dR:=hid hcut;have jT:=hid r2;have jG:=hid rZ;have na:=hid (bp mb (AA p) wr HI.out.gl.gl Y1);clear Hf yx ra yC CM r2 rZ hqs Y1 hcut rT;go_wp2_with fail;refine dR.out.mono ?_;intro e w2 he;obtain⟨GJ,jM⟩:=he;replace jM:=jM.symm;subst GJ;subst jM;go_wp2_with fail;refine na.out.mono ?_;intro e w3 he;obtain⟨v,GJ,O9,cJ⟩:=he;obtain⟨sp,sc,hv,_,_⟩:=cJ.JF;obtain⟨sn,NU⟩:∃n,n=(AY (Bv (bs (AA p)))).length:=⟨_,rfl⟩;rw[←NU] at hv;subst GJ;subst hv;clear NU;have I3:=HI.out.quiet O9;have ot:=I3.pa.kD.px;obtain⟨hc,hf,Bi⟩:=Ku ot;have wC:V0 (World.setCell (World.setCell w3 ⟨g.xb,0,none⟩ (.slice sp sn sc)) ⟨g.xb,1,none⟩ (.int .i64 ((k:Int)+1))) g.xb (g.bH x) (.slice sp sn sc) ((k:Int)+1):=(ot.set 0 (.slice sp sn sc)).set 1 (.int .i64 ((k:Int)+1));have XW:Av [g.xb] w3 (World.setCell (World.setCell w3 ⟨g.xb,0,none⟩ (.slice sp sn sc)) ⟨g.xb,1,none⟩ (.int .i64 ((k:Int)+1))):=((Av.refl _ _).setCell (.inl (by simp)) _).setCell (.inl (by simp)) _;have I4:=I3.row wC XW;have HB4:=hid wC;have aQ:=hid I4;have hxr:g.xb < wr.heap.size:=BA HI.out.pa.kD.px;have IS:g.xb∉Pf mb:=fun h=>HI.out.gl.out _ h (Vk (mc (by simp)))
     have rp:Sl (World.setCell (World.setCell w3 ⟨g.xb,0,none⟩ (.slice sp sn sc)) ⟨g.xb,1,none⟩ (.int .i64 ((k:Int)+1))) (fun b=>b≠g.xb) (.slice sp sn sc) (AY (Bv p)):=by
      rw[Cs] at cJ;exact(cJ.mono (fun b _ hb=>(by omega:b≠g.xb))).Bh XW (fun b hb hm=>by rw[List.mem_singleton] at hm;exact hb hm)
     have xy:=hid rp;have Hxg:=hid IS;clear I3 ot wC XW I4 cJ rp O9 hxr IS r0 na dR;cases en with
     | false=>
      have hr:=hid (show EY (bs s)= .error (2,k+1) by rw[HI.out.go];exact jG.out rfl x);have xF:=hid (EL _ g.xb (g.bH x) (.slice sp sn sc) ((k:Int)+1) HB4.out);go_wp2_with fail;refine xF.out.mono ?_;intro e w5 he;obtain⟨⟨fb,GJ,hb⟩,hm⟩:=he;subst GJ;clear hc hf Bi;go_wp2;obtain⟨h1,h2,h3⟩:=aQ.out.fail (hm.mono (fun y hy=>by cases hy));exact KF (by rfl) (by rfl) h1 h2 hb h3 hr.out (by omega)
     | true=>
      have qS:Bv p≠[]:=fun h=>Cc 32 p (List.map_eq_nil_iff.1 h)
      have yp:∀a,a∈Bv p→a.size≤1000000:=fun a ha=>by
       obtain⟨y,hy,rfl⟩:=List.mem_map.1 ha;have:=Lb 32 p y hy;have h2:=x7.out;rw[←Bu,Cs];omega
      have dO:=hid (iK (Bv p) qS mb _ g x (.slice sp sn sc) ((k:Int)+1) F aQ.out.pa xy.out yp aQ.out.gl.gl Hxg.out aQ.out.bd (by have:=aQ.out.fn;exact⟨this.s0,by have:=this.s1;omega⟩) (by have:=aQ.out.cl;have:=aQ.out.fw.c0;omega) (by have:=aQ.out.tl;omega) aQ.out.tv);clear qS yp;have pY:=hid (jT.out rfl x);clear jT jG;go_wp2_with fail;refine dO.out.mono ?_;intro e w5 he;clear hc hf Bi;cases hr:x.row (Bv p) with
      | error c=>
       rw[hr] at he;obtain⟨⟨fb,GJ,hb⟩,hm⟩:=he;subst GJ;have hr:=hid (show EY (bs s)= .error (c,k+1) by rw[HI.out.go,pY.out,hr]);go_wp2;obtain⟨h1,h2,h3⟩:=aQ.out.fail hm;exact KF (by rfl) (by rfl) h1 h2 hb h3 hr.out (by omega)
      | ok y=>
       rw[hr] at he;obtain⟨GJ,g',F',wv',qR,_,st,hp⟩:=he;subst GJ;have hN:=hid (aQ.out.next hr (by rw[HI.out.go,pY.out,hr]) (by omega) qR st hp);clear hr st hp qR;go_wp2;go_roundw;case rel=>exact⟨k+1,by (try rw[Lr trivial]);rfl,by omega,hN.out⟩
       case measure=>(try rw[Lr trivial]);simp[intOf];omega
    ·have oJ:k=m:=by omega
     subst oJ;have dZ:EY (bs s)=GW k x:=by rw[HI.out.go,HP.out];exact HEX.out x
     have yc:=hid dZ;have ot:=HI.out.pa.kD.px;obtain⟨hc,hf,Bi⟩:=Ku ot;have I4:=HI.out.row (W:=World.setCell wr ⟨g.xb,1,none⟩ (.int .i64 ((k:Int)+1))) (wv':=wv) (line':=(k:Int)+1) (ot.set 1 (.int .i64 ((k:Int)+1))) ((Av.refl _ _).setCell (.inl (by simp)) _);have He:=hid (ZZ I4.pa I4.bd.fr);have aQ:=hid I4;clear dZ ot I4;go_wp2_with fail;refine He.out.mono ?_;intro e w5 he;clear hc hf Bi He;by_cases ho:x.Ai=[];rotate_left
     ·rw[if_neg ho] at he;obtain⟨⟨fb,GJ,hb⟩,hm⟩:=he;subst GJ;have hr:=hid (show EY (bs s)= .error (3,k+1) by rw[yc.out];unfold GW;rw[if_pos (.inl ho)]);clear ho;go_wp2;obtain⟨h1,h2,h3⟩:=aQ.out.fail (hm.mono (fun y hy=>by cases hy));exact KF (by rfl) (by rfl) h1 h2 hb h3 hr.out (by omega)
     rw[if_pos ho] at he;obtain⟨GJ,hm⟩:=he;subst GJ;have I5:=aQ.out.quiet hm;by_cases hx:x.Aa=[]
     ·have CN:=I5.pa.Al;rw[F8 hx] at CN;obtain⟨hc,hf,Bi,Tu,gN,VA,KO⟩:=SD CN;have hr:=hid (show EY (bs s)= .error (3,k+1) by rw[yc.out];unfold GW;rw[if_pos (.inr hx)]);have pX:=hid I5;clear CN KO hx ho I5 hm;go_wp2_with fail;refine(AS _ _ _).mono ?_;intro e w6 he;obtain⟨⟨fb,GJ,hb⟩,hm⟩:=he;subst GJ;clear hc hf Bi Tu gN VA;go_wp2;obtain⟨h1,h2,h3⟩:=pX.out.fail (hm.mono (fun y hy=>by cases hy));exact KF (by rfl) (by rfl) h1 h2 hb h3 hr.out (by omega)
     ·obtain⟨lv,ov,sv,tp,tc,rows,F',hF⟩:=ax I5.pa ho;have wA:=hF.st.Al.AP (i:=0) rfl;have wy:=hF.st.Al.AP (i:=1) rfl;have hxc:=wA.cell;have Tu:=wy.cell;have vf:0 < rows.length:=by rw[hF.j5.len];exact List.length_pos_iff.2 hx
      have O7:((rows.length:Int)==0)=false:=by rw[beq_eq_false_iff_ne];omega
      have Et:=wA.lt;have CM:=wy.lt;have jC:=hid (Xp F' x w5 _ g.pb tp tc rows hF.st.Al rfl rfl hF.AT hF.j5 I5.fw (fun t ht=>by have:=I5.fn.all t ht;have:=U6 t;omega));have HF:=hid hF;have pX:=hid I5;have zy:=hid (show EY (bs s)=if Em x then .ok x else .error (5,0) by rw[yc.out];unfold GW;rw[if_neg (fun h=>h.elim (fun h=>h ho) hx)]);clear wA wy hF I5 hx ho hm vf;go_wp2_with fail;refine jC.out.mono ?_;intro e w6 he;clear hxc Tu O7 Et CM;unfold sW at he;cases rP:Em x with
      | false=>
       rw[rP,if_neg (by simp)] at he;obtain⟨⟨fb,GJ,hb⟩,hm⟩:=he;subst GJ;have hr:=hid (zy.out.trans (by rw[rP]));go_wp2;obtain⟨h1,h2,h3⟩:=pX.out.fail (hm.mono (fun y hy=>by cases hy));exact KF (by rfl) (by rfl) h1 h2 hb h3 hr.out rfl
      | true=>
       rw[rP,if_pos rfl] at he;obtain⟨GJ,hm⟩:=he;subst GJ;have hr:=hid (zy.out.trans (by rw[rP]));have cM:=bL pX.out HF.out hm;have Gd:=(HF.out.st.Al.quiet hm).AP (i:=0) rfl;have xc:=Gd.cell;have xl:=Gd.lt;obtain⟨kp,ke,_⟩:=Ry (pX.out.AT.quiet hm);have pc:=kp.cell 0;have pf:=kp.free 0;have pl:=kp.lt;have ec:=ke.cell 0;have ef:=ke.free 0;have el:=ke.lt;have eb:BR (World.setCell (World.setCell w6 ⟨w.heap.size,0,none⟩ (.pointer (some ⟨g.pb,0,none⟩))) ⟨w.heap.size+1,0,none⟩ .nilIface) w.heap.size #[.pointer (some ⟨g.pb,0,none⟩)] 117:=BR.DW (kp.set 0 _) (by simp) _;have zo:BR (World.setCell (World.setCell w6 ⟨w.heap.size,0,none⟩ (.pointer (some ⟨g.pb,0,none⟩))) ⟨w.heap.size+1,0,none⟩ .nilIface) (w.heap.size+1) #[.nilIface] 85:=(ke.DW (by simp) _).set 0 _;have HPE:=hid cM;have MT:=hid eb;have HB2:=hid zo;clear cM Gd kp ke eb zo hm rP;go_wp2;refine lH (by rfl) (by rfl) MT.out HB2.out rfl rfl ?_;rw[hr.out];exact HPE.out
end Go.Proofs.YtpdfifdlhpmofaaGreatDoor
