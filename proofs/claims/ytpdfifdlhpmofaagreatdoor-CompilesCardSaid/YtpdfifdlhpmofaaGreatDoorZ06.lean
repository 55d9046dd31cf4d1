/-
  Part 6 of the proof, packed by program out of Lex, Lex3, Lex4.
-/
import Derived.Test.YtpdfifdlhpmofaaGreatDoorZ04
set_option linter.unusedVariables false
set_option linter.unusedSimpArgs false
set_option maxHeartbeats 3200000
set_option maxRecDepth 100000
namespace Go.Proofs.YtpdfifdlhpmofaaGreatDoor
open Go.Lib (hid)
section
variable {P:Program} {Bq:Array Oper} {Q:Exit→Act→World→Prop} {md:Region.Mode} {S:World→Prop}
def TZ (md:Region.Mode) (Bq:Array Oper) (n:Nat):Bool:=
 (List.range Bq.size).all fun k=>k==n || (List.range Bq.size).any fun j=>decide (k < j) && match Bq[j]? with
  | some o=>o.after.any fun e=>Region.binds md e && e.on==k
  | none=>false
def FY (md:Region.Mode) (Bq:Array Oper) (listed:Array Bool):Prop:=
 ∀j o,Bq[j]?=some o→listed.getD j false=true→∀e∈o.after,Region.binds md e=true→listed.getD e.on false=true
theorem FY.set {listed:Array Bool} {i:Nat} (h:FY md Bq listed) (hi:i∈Region.ready md Bq listed):FY md Bq (listed.setIfInBounds i true):=by
 intro j o ho hl e he hb;obtain⟨_,oi,tV,FV⟩:=mem_ready.1 hi;refine getD_set_true ?_;by_cases ij:i=j
 ·subst ij;rw[ho] at tV;cases tV;exact FV e he hb
 ·rw[getD_set_ne false ij] at hl;exact h j o ho hl e he hb
theorem Yo {n:Nat} {listed:Array Bool} (h:TZ md Bq n=true) (hc:FY md Bq listed) (hn:n∈Region.ready md Bq listed):∀m k,Bq.size - k≤m→k < Bq.size→k≠n→listed.getD k false=true:=by
 intro m;induction m with
 | zero=>intro k hk Bi;omega
 | succ m ih=>
  intro k hk Bi BQ;have h1:=List.all_eq_true.1 h k (List.mem_range.2 Bi);simp only[Bool.or_eq_true,beq_iff_eq,BQ,false_or,List.any_eq_true,List.mem_range,Bool.and_eq_true,decide_eq_true_eq] at h1;obtain⟨j,hj,hkj,h2⟩:=h1;cases XV:Bq[j]? with
  | none=>rw[XV] at h2;cases h2
  | some o=>
   rw[XV] at h2;obtain⟨e,he,hb⟩:=Array.any_eq_true'.1 h2;simp only[Bool.and_eq_true,beq_iff_eq] at hb;by_cases dY:j=n
   ·subst dY;obtain⟨_,o',ah,FV⟩:=mem_ready.1 hn;rw[XV] at ah;cases ah;have:=FV e he hb.1;rw[hb.2] at this;exact this
   ·have:=hc j o XV (ih j (by omega) hj dY) e he hb.1;rw[hb.2] at this;exact this
def KW (P:Program) (md:Region.Mode) (Bq:Array Oper) (Q:Exit→Act→World→Prop) (S:World→Prop) (n:Nat):Nat→Array Bool→Act→World→Prop
 | 0,listed,a,w=>Region.ready md Bq listed=[]∧Q .normal a w
 | fuel+1,listed,a,w=>
  (Region.ready md Bq listed=[]→Q .normal a w)∧
  ∀i∈Region.ready md Bq listed,wpOp P Bq Q i (fun a' w'=>(i≠n→S w')∧KW P md Bq Q S n fuel (listed.setIfInBounds i true) a' w') a w
theorem Nn {n:Nat}:∀(fuel:Nat) (listed:Array Bool) (a:Act) (w:World),KW P md Bq Q S n fuel listed a w→wpAny P md Bq Q fuel listed a w
 | 0,_,_,_,h=>h
 | fuel+1,_,_,_,h=>⟨h.1,fun i hi=>wpOp_mono (fun a' w' h'=>Nn fuel _ a' w' h'.2) (h.2 i hi)⟩
theorem NW {n i:Nat} {oi:Oper} {v:Value} (NU:TZ md Bq n=true) (Tc:i≠n) (hi:Bq[i]?=some oi) (JC:∀(j:Nat) (o:Oper) cs b,Bq[j]?=some o→o.op≠ .select cs b)
  (hQ:∀c a w,Q (.panic c) (a.put oi.dst v) w→Q (.panic c) a w):
  ∀(fuel:Nat) (listed:Array Bool) (a:Act) (w:World),FY md Bq listed→
   (∀j oj,Bq[j]?=some oj→j≠i→listed.getD j true=false→(∀e∈oj.after,Region.binds md e=true→e.on≠i)→oi.apart Bq oj=true)→
   i∈Region.ready md Bq listed→YieldsIf P Bq S oi v a→S w→
   KW P md Bq Q S n fuel (listed.setIfInBounds i true) (a.put oi.dst v) w→KW P md Bq Q S n (fuel+1) listed a w:=by
 intro fuel;induction fuel with
 | zero=>
  intro listed a w _ _ hr hy hS H;refine⟨fun h=>(by rw[h] at hr;cases hr),fun j hj=> ?_⟩;by_cases Xg:j=i
  ·subst Xg;exact hy.wpOp hi hS ⟨fun _=>hS,H⟩
  ·have:=ready_mono hj Xg;rw[H.1] at this;cases this
 | succ fuel ih=>
  intro listed a w Dp Ux hr hy hS H;refine⟨fun h=>(by rw[h] at hr;cases hr),fun j hj=> ?_⟩;by_cases Xg:j=i
  ·subst Xg;exact hy.wpOp hi hS ⟨fun _=>hS,H⟩
  ·have dY:j≠n:=by
    rintro rfl;have Bi:i < Bq.size:=(Array.getElem?_eq_some_iff.1 hi).1;have h1:=Yo NU Dp hj _ i (Nat.le_refl _) Bi Tc;have h0:=(mem_ready.1 hr).1;rcases Nat.lt_or_ge i listed.size with h' | h'
    ·simp[h'] at h0 h1;rw[h0] at h1;cases h1
    ·simp[Array.getElem?_eq_none h'] at h1
   have h1:=H.2 j (ready_mono hj Xg);obtain⟨ie,oj,XV,FV⟩:=mem_ready.1 hj;have oz:∀e∈oj.after,Region.binds md e=true→e.on≠i:=fun e he hb heq=>by
    have h1:=FV e he hb;have h0:=(mem_ready.1 hr).1;rw[heq] at h1;rcases Nat.lt_or_ge i listed.size with h' | h'
    ·simp[h'] at h0 h1;rw[h0] at h1;cases h1
    ·simp[Array.getElem?_eq_none h'] at h1
   have h2:=wpOp_putIf XV (Ux j oj XV Xg ie oz) (fun cs b=>JC i oi cs b hi) (fun cs b=>JC j oj cs b XV) hQ hy h1;have Y8:∀k ok,Bq[k]?=some ok→k≠i→(listed.setIfInBounds j true).getD k true=false→
     (∀e∈ok.after,Region.binds md e=true→e.on≠i)→oi.apart Bq ok=true:=fun k ok hk rV nY Xc=>by
    refine Ux k ok hk rV ?_ Xc;by_cases rX:j=k
    ·subst rX;exact ie
    ·rw[getD_set_ne true rX] at nY;exact nY
   refine wpOp_mono (fun a' w' h3=>⟨h3.2.1,ih (listed.setIfInBounds j true) a' w' (Dp.set hj) Y8 (ready_mono hr (Ne.symm Xg)) h3.1 (h3.2.1 dY) ?_⟩) h2;rw[Array.setIfInBounds_comm _ _ Xg];exact h3.2.2
def A0 (P:Program) (Bq:Array Oper) (Q:Exit→Act→World→Prop) (S:World→Prop):List (Nat×Bool)→Act→World→Prop
 | [],a,w=>Q .normal a w
 | (i,true)::rest,a,w=>∃o v,Bq[i]?=some o∧YieldsIf P Bq S o v a∧A0 P Bq Q S rest (a.put o.dst v) w
 | (i,false)::rest,a,w=>wpOp P Bq Q i (fun a' w'=>(rest≠[]→S w')∧A0 P Bq Q S rest a' w') a w
def PH (md:Region.Mode) (Bq:Array Oper) (n:Nat):List (Nat×Bool)→Array Bool→Bool
 | [],listed=>(Region.ready md Bq listed).isEmpty
 | (i,true)::rest,listed=>i !=n && !rest.isEmpty && (Region.ready md Bq listed).contains i && Region.free md Bq listed i && PH md Bq n rest (listed.setIfInBounds i true)
 | (i,false)::rest,listed=>(Region.ready md Bq listed==[i]) && (rest.isEmpty==(i==n)) && PH md Bq n rest (listed.setIfInBounds i true)
theorem Ip {n:Nat} (NU:TZ md Bq n=true) (JC:Region.noSelect Bq=true) (hQ:∀c a d v w,Q (.panic c) (Act.put a d v) w→Q (.panic c) a w):
  ∀(l:List (Nat×Bool)) (listed:Array Bool) (a:Act) (w:World),FY md Bq listed→PH md Bq n l listed=true→(l≠[]→S w)→A0 P Bq Q S l a w→KW P md Bq Q S n l.length listed a w
 | [],listed,a,w,_,hk,_,h=>⟨by simpa[PH] using hk,h⟩
 | (i,true)::rest,listed,a,w,Dp,hk,hS,h=>by
  simp only[PH,Bool.and_eq_true,bne_iff_ne,ne_eq,Bool.not_eq_true',List.contains_iff_mem] at hk;obtain⟨⟨⟨⟨h1,h2⟩,h3⟩,h4⟩,h5⟩:=hk;obtain⟨o,v,ho,hy,hr⟩:=h;have sF:=hS (by simp);exact NW NU h1 ho (Region.noSelect_spec JC) (fun c a w=>hQ c a _ _ w) _ listed a w Dp (Region.free_spec ho h4) (by simpa using h3) hy sF
   (Ip NU JC hQ rest _ _ w (Dp.set (by simpa using h3)) h5 (fun _=>sF) hr)
 | (i,false)::rest,listed,a,w,Dp,hk,hS,h=>by
  simp only[PH,Bool.and_eq_true,beq_iff_eq] at hk;obtain⟨⟨h1,h2⟩,h3⟩:=hk;refine⟨fun h0=>(by rw[h1] at h0;cases h0),fun j hj=> ?_⟩;rw[h1] at hj;obtain rfl:=List.mem_singleton.1 hj;refine wpOp_mono (fun a' w' hh=>⟨fun dY=>hh.1 fun hr=> ?_,Ip NU JC hQ rest _ a' w' (Dp.set (by rw[h1];exact List.mem_singleton.2 rfl)) h3 hh.1 hh.2⟩) h;rw[hr] at h2;simp at h2;exact dY h2
theorem Ao {id:Nat} {a:Act} {w:World} {l:List (Nat×Bool)} (S:World→Prop) (n:Nat) (hm:P.follows .mixedOrders=true) (hlen:l.length=Bq.size) (NU:TZ .any Bq n=true) (JC:Region.noSelect Bq=true)
  (hk:PH .any Bq n l (Array.replicate Bq.size false)=true) (hQ:∀c a d v w,Q (.panic c) (Act.put a d v) w→Q (.panic c) a w) (hS:S w.drew) (h:A0 P Bq Q S l a w.drew):(Code.region id Bq true).wp P Q a w:=by
 refine wp_region_any hm ?_;have:=Nn _ _ _ _ (Ip NU JC hQ l _ a w.drew (fun j o _ hl=>by
   rw[Array.getD_eq_getD_getElem?,Array.getElem?_replicate] at hl;split at hl <;>cases hl) hk (fun _=>hS) h)
 rw[hlen] at this;exact this
theorem Ak {o:Oper} {i d:Nat} {v:Value} {rest:List (Nat×Bool)} {a:Act} {w:World} (ho:Bq[i]?=some o) (hd:o.dst=some d) (hg:Region.wanted o (yielded Bq a.tmps)=true)
  (hv:∀W,S W→(execOp a.eval o).run P W= .ok (.value v) W) (h:A0 P Bq Q S rest ⟨a.tmps.setIfInBounds d v,a.defers⟩ w):A0 P Bq Q S ((i,true)::rest) a w:=
 ⟨o,v,ho,.inl ⟨hg,hv⟩,by unfold Act.put;rw[hd];exact h⟩
theorem QZ {o:Oper} {i d:Nat} {rest:List (Nat×Bool)} {a:Act} {w:World} (ho:Bq[i]?=some o) (hd:o.dst=some d) (hg:Region.wanted o (yielded Bq a.tmps)=false)
  (h:A0 P Bq Q S rest ⟨a.tmps.setIfInBounds d undef,a.defers⟩ w):A0 P Bq Q S ((i,true)::rest) a w:=⟨o,undef,ho,.inr ⟨hg,rfl⟩,by unfold Act.put;rw[hd];exact h⟩
theorem DM {l:List (Nat×Bool)} {a:Act} {w:World} {dst:Option Tmp} {d:Nat} {v:Value} (hd:dst=some d) (h:A0 P Bq Q S l ⟨a.tmps.setIfInBounds d v,a.defers⟩ w):A0 P Bq Q S l (a.put dst v) w:=by
 unfold Act.put;rw[hd];exact h
theorem Ab {o:Oper} {i:Nat} {rest:List (Nat×Bool)} {a:Act} {w:World} (ho:Bq[i]?=some o)
  (h:∀K:Act→World→Prop,(∀a' w',(rest≠[]→S w')→A0 P Bq Q S rest a' w'→K a' w')→if Region.wanted o (yielded Bq a.tmps)=true then Oper.wp P o a w K Q else K (a.put o.dst undef) w):
  A0 P Bq Q S ((i,false)::rest) a w:=by
 have h1:=h (fun a' w'=>(rest≠[]→S w')∧A0 P Bq Q S rest a' w') (fun a' w' h2 h3=>⟨h2,h3⟩);unfold A0 wpOp;rw[ho];simp only[];split
 ·rename_i hg;rw[if_pos hg] at h1;exact .inl h1
 ·rename_i hg;rw[if_neg hg] at h1;exact h1
end
theorem Bo:(∀(l:List Value) (i:Nat) (v:Value),l.toArray.setIfInBounds i v=(l.set i v).toArray)∧(∀(x:Value) (xs:List Value) (n:Nat) (a:Value),(x::xs).set (n+1) a=x::xs.set n a)∧∀(x:Value) (xs:List Value) (a:Value),(x::xs).set 0 a=a::xs:=⟨fun _ _ _=>List.setIfInBounds_toArray ..,fun _ _ _ _=>List.set_cons_succ ..,fun _ _ _=>List.set_cons_zero ..⟩
section
variable {P:Program} {Bq:Array Oper} {Q:Exit→Act→World→Prop} {md:Region.Mode} {S:World→Prop}
def No (md:Region.Mode) (Bq:Array Oper) (j k:Nat):Bool:=match Bq[j]? with
 | some o=>o.after.any fun e=>Region.binds md e && e.on==k
 | none=>false
def N7 (md:Region.Mode) (Bq:Array Oper) (n:Nat):Bool:=
 ((List.range n).all fun k=>(List.range (n+1)).any fun j=>decide (k < j) && No md Bq j k) &&
 (List.range Bq.size).all fun j=>decide (j≤n) || (List.range j).any fun i=>decide (n≤i) && No md Bq j i
theorem KX {listed:Array Bool} (hc:FY md Bq listed) {j k:Nat} (h:No md Bq j k=true) (hj:listed.getD j false=true):listed.getD k false=true:=by
 unfold No at h;cases XV:Bq[j]? with
 | none=>rw[XV] at h;cases h
 | some o=>
  rw[XV] at h;obtain⟨e,he,hb⟩:=Array.any_eq_true'.1 h;simp only[Bool.and_eq_true,beq_iff_eq] at hb;have:=hc j o XV hj e he hb.1;rw[hb.2] at this;exact this
theorem Pu {listed:Array Bool} {j k:Nat} (h:No md Bq j k=true) (hj:j∈Region.ready md Bq listed):listed.getD k false=true:=by
 unfold No at h;obtain⟨_,o,ho,FV⟩:=mem_ready.1 hj;rw[ho] at h;obtain⟨e,he,hb⟩:=Array.any_eq_true'.1 h;simp only[Bool.and_eq_true,beq_iff_eq] at hb;have:=FV e he hb.1;rw[hb.2] at this;exact this
theorem PF {n:Nat} {listed:Array Bool} (h:N7 md Bq n=true) (hc:FY md Bq listed) (hn:∀k,No md Bq n k=true→listed.getD k false=true):∀m k,n - k≤m→k < n→listed.getD k false=true:=by
 unfold N7 at h;rw[Bool.and_eq_true] at h;intro m;induction m with
 | zero=>intro k hk Bi;omega
 | succ m ih=>
  intro k hk Bi;have h1:=List.all_eq_true.1 h.1 k (List.mem_range.2 Bi);simp only[List.any_eq_true,List.mem_range,Bool.and_eq_true,decide_eq_true_eq] at h1;obtain⟨j,hj,hkj,h2⟩:=h1;by_cases dY:j=n
  ·subst dY;exact hn k h2
  ·exact KX hc h2 (ih j (by omega) (by omega))
theorem eL {n:Nat} {listed:Array Bool} (h:N7 md Bq n=true) (hc:FY md Bq listed):∀m j,j≤m→n≤j→j < Bq.size→listed.getD j false=true→listed.getD n false=true:=by
 have h0:=h;unfold N7 at h;rw[Bool.and_eq_true] at h;intro m;induction m with
 | zero=>
  intro j hj tX _ hl;have:j=n:=by omega
  rw[←this];exact hl
 | succ m ih=>
  intro j hj tX oM hl;have h1:=List.all_eq_true.1 h.2 j (List.mem_range.2 oM);simp only[Bool.or_eq_true,decide_eq_true_eq,List.any_eq_true,List.mem_range,Bool.and_eq_true] at h1;rcases h1 with h1 | ⟨i,hi,vC,h2⟩
  ·have:j=n:=by omega
   rw[←this];exact hl
  ·exact ih i (by omega) vC (by omega) (KX hc h2 hl)
theorem Wn {n j:Nat} {listed:Array Bool} (h:N7 md Bq n=true) (hc:FY md Bq listed) (hj:j∈Region.ready md Bq listed) (tX:n≤j):∀k,k < n→listed.getD k false=true:=by
 intro k hk;by_cases dY:j=n
 ·subst dY;exact PF h hc (fun k hk=>Pu hk hj) _ k (Nat.le_refl _) hk
 ·have h0:=h;unfold N7 at h0;rw[Bool.and_eq_true] at h0;obtain⟨_,o,ho,_⟩:=mem_ready.1 hj;have oM:j < Bq.size:=(Array.getElem?_eq_some_iff.1 ho).1;have h1:=List.all_eq_true.1 h0.2 j (List.mem_range.2 oM);simp only[Bool.or_eq_true,decide_eq_true_eq,List.any_eq_true,List.mem_range,Bool.and_eq_true] at h1;rcases h1 with h1 | ⟨i,hi,vC,h2⟩
  ·omega
  ·have hl:=eL h hc i i (Nat.le_refl _) vC (by omega) (Pu h2 hj);exact PF h hc (fun k hk=>KX hc hk hl) _ k (Nat.le_refl _) hk
def Q1 (P:Program) (md:Region.Mode) (Bq:Array Oper) (Q:Exit→Act→World→Prop) (S:World→Prop) (n:Nat):Nat→Array Bool→Act→World→Prop
 | 0,listed,a,w=>Region.ready md Bq listed=[]∧Q .normal a w
 | fuel+1,listed,a,w=>
  (Region.ready md Bq listed=[]→Q .normal a w)∧
  ∀i∈Region.ready md Bq listed,wpOp P Bq Q i (fun a' w'=>(i < n→S w')∧Q1 P md Bq Q S n fuel (listed.setIfInBounds i true) a' w') a w
theorem Q0 {n:Nat}:∀(fuel:Nat) (listed:Array Bool) (a:Act) (w:World),Q1 P md Bq Q S n fuel listed a w→wpAny P md Bq Q fuel listed a w
 | 0,_,_,_,h=>h
 | fuel+1,_,_,_,h=>⟨h.1,fun i hi=>wpOp_mono (fun a' w' h'=>Q0 fuel _ a' w' h'.2) (h.2 i hi)⟩
theorem UZ {n i:Nat} {oi:Oper} {v:Value} (NU:N7 md Bq n=true) (Tc:i < n) (hi:Bq[i]?=some oi) (JC:∀(j:Nat) (o:Oper) cs b,Bq[j]?=some o→o.op≠ .select cs b)
  (hQ:∀c a w,Q (.panic c) (a.put oi.dst v) w→Q (.panic c) a w):
  ∀(fuel:Nat) (listed:Array Bool) (a:Act) (w:World),FY md Bq listed→
   (∀j oj,Bq[j]?=some oj→j≠i→listed.getD j true=false→(∀e∈oj.after,Region.binds md e=true→e.on≠i)→oi.apart Bq oj=true)→
   i∈Region.ready md Bq listed→YieldsIf P Bq S oi v a→S w→
   Q1 P md Bq Q S n fuel (listed.setIfInBounds i true) (a.put oi.dst v) w→Q1 P md Bq Q S n (fuel+1) listed a w:=by
 intro fuel;induction fuel with
 | zero=>
  intro listed a w _ _ hr hy hS H;refine⟨fun h=>(by rw[h] at hr;cases hr),fun j hj=> ?_⟩;by_cases Xg:j=i
  ·subst Xg;exact hy.wpOp hi hS ⟨fun _=>hS,H⟩
  ·have:=ready_mono hj Xg;rw[H.1] at this;cases this
 | succ fuel ih=>
  intro listed a w Dp Ux hr hy hS H;refine⟨fun h=>(by rw[h] at hr;cases hr),fun j hj=> ?_⟩;by_cases Xg:j=i
  ·subst Xg;exact hy.wpOp hi hS ⟨fun _=>hS,H⟩
  ·have dY:j < n:=by
    refine Nat.lt_of_not_le fun tX=> ?_
    have h1:=Wn NU Dp hj tX i Tc;have h0:=(mem_ready.1 hr).1;rcases Nat.lt_or_ge i listed.size with h' | h'
    ·simp[h'] at h0 h1;rw[h0] at h1;cases h1
    ·simp[Array.getElem?_eq_none h'] at h1
   have h1:=H.2 j (ready_mono hj Xg);obtain⟨ie,oj,XV,FV⟩:=mem_ready.1 hj;have oz:∀e∈oj.after,Region.binds md e=true→e.on≠i:=fun e he hb heq=>by
    have h1:=FV e he hb;have h0:=(mem_ready.1 hr).1;rw[heq] at h1;rcases Nat.lt_or_ge i listed.size with h' | h'
    ·simp[h'] at h0 h1;rw[h0] at h1;cases h1
    ·simp[Array.getElem?_eq_none h'] at h1
   have h2:=wpOp_putIf XV (Ux j oj XV Xg ie oz) (fun cs b=>JC i oi cs b hi) (fun cs b=>JC j oj cs b XV) hQ hy h1;have Y8:∀k ok,Bq[k]?=some ok→k≠i→(listed.setIfInBounds j true).getD k true=false→
     (∀e∈ok.after,Region.binds md e=true→e.on≠i)→oi.apart Bq ok=true:=fun k ok hk rV nY Xc=>by
    refine Ux k ok hk rV ?_ Xc;by_cases rX:j=k
    ·subst rX;exact ie
    ·rw[getD_set_ne true rX] at nY;exact nY
   refine wpOp_mono (fun a' w' h3=>⟨h3.2.1,ih (listed.setIfInBounds j true) a' w' (Dp.set hj) Y8 (ready_mono hr (Ne.symm Xg)) h3.1 (h3.2.1 dY) ?_⟩) h2;rw[Array.setIfInBounds_comm _ _ Xg];exact h3.2.2
def GN (P:Program) (Bq:Array Oper) (Q:Exit→Act→World→Prop) (S:World→Prop) (n:Nat):List (Nat×Bool)→Act→World→Prop
 | [],a,w=>Q .normal a w
 | (i,true)::rest,a,w=>∃o v,Bq[i]?=some o∧YieldsIf P Bq S o v a∧GN P Bq Q S n rest (a.put o.dst v) w
 | (i,false)::rest,a,w=>wpOp P Bq Q i (fun a' w'=>(i < n→S w')∧GN P Bq Q S n rest a' w') a w
def Ns (md:Region.Mode) (Bq:Array Oper) (n:Nat):List (Nat×Bool)→Array Bool→Bool
 | [],listed=>(Region.ready md Bq listed).isEmpty
 | (i,true)::rest,listed=>decide (i < n) && (Region.ready md Bq listed).contains i && Region.free md Bq listed i && Ns md Bq n rest (listed.setIfInBounds i true)
 | (i,false)::rest,listed=>(Region.ready md Bq listed==[i]) && (decide (i < n) || rest.all fun x=> !x.2) && Ns md Bq n rest (listed.setIfInBounds i true)
theorem J4 {n:Nat} (NU:N7 md Bq n=true) (JC:Region.noSelect Bq=true) (hQ:∀c a d v w,Q (.panic c) (Act.put a d v) w→Q (.panic c) a w):
  ∀(l:List (Nat×Bool)) (listed:Array Bool) (a:Act) (w:World),FY md Bq listed→Ns md Bq n l listed=true→((l.any fun x=>x.2)=true→S w)→GN P Bq Q S n l a w→Q1 P md Bq Q S n l.length listed a w
 | [],listed,a,w,_,hk,_,h=>⟨by simpa[Ns] using hk,h⟩
 | (i,true)::rest,listed,a,w,Dp,hk,hS,h=>by
  simp only[Ns,Bool.and_eq_true,decide_eq_true_eq,List.contains_iff_mem] at hk;obtain⟨⟨⟨h1,h3⟩,h4⟩,h5⟩:=hk;obtain⟨o,v,ho,hy,hr⟩:=h;have sF:=hS (by simp);exact UZ NU h1 ho (Region.noSelect_spec JC) (fun c a w=>hQ c a _ _ w) _ listed a w Dp (Region.free_spec ho h4) (by simpa using h3) hy sF
   (J4 NU JC hQ rest _ _ w (Dp.set (by simpa using h3)) h5 (fun _=>sF) hr)
 | (i,false)::rest,listed,a,w,Dp,hk,hS,h=>by
  simp only[Ns,Bool.and_eq_true,beq_iff_eq,Bool.or_eq_true,decide_eq_true_eq] at hk;obtain⟨⟨h1,h2⟩,h3⟩:=hk;refine⟨fun h0=>(by rw[h1] at h0;cases h0),fun j hj=> ?_⟩;rw[h1] at hj;obtain rfl:=List.mem_singleton.1 hj;refine wpOp_mono (fun a' w' hh=>⟨hh.1,J4 NU JC hQ rest _ a' w' (Dp.set (by rw[h1];exact List.mem_singleton.2 rfl)) h3 (fun wh=> ?_) hh.2⟩) h;rcases h2 with h2 | h2
  ·exact hh.1 h2
  ·exfalso;obtain⟨x,hx,Ef⟩:=List.any_eq_true.1 wh;have:=List.all_eq_true.1 h2 x hx;rw[Ef] at this;cases this
theorem GM {id:Nat} {a:Act} {w:World} {l:List (Nat×Bool)} (S:World→Prop) (n:Nat) (hm:P.follows .mixedOrders=true) (hlen:l.length=Bq.size) (NU:N7 .any Bq n=true) (JC:Region.noSelect Bq=true)
  (hk:Ns .any Bq n l (Array.replicate Bq.size false)=true) (hQ:∀c a d v w,Q (.panic c) (Act.put a d v) w→Q (.panic c) a w) (hS:S w.drew) (h:GN P Bq Q S n l a w.drew):(Code.region id Bq true).wp P Q a w:=by
 refine wp_region_any hm ?_;have:=Q0 _ _ _ _ (J4 NU JC hQ l _ a w.drew (fun j o _ hl=>by
   rw[Array.getD_eq_getD_getElem?,Array.getElem?_replicate] at hl;split at hl <;>cases hl) hk (fun _=>hS) h)
 rw[hlen] at this;exact this
theorem KV {n:Nat} {o:Oper} {i d:Nat} {v:Value} {rest:List (Nat×Bool)} {a:Act} {w:World} (ho:Bq[i]?=some o) (hd:o.dst=some d) (hg:Region.wanted o (yielded Bq a.tmps)=true)
  (hv:∀W,S W→(execOp a.eval o).run P W= .ok (.value v) W) (h:GN P Bq Q S n rest ⟨a.tmps.setIfInBounds d v,a.defers⟩ w):GN P Bq Q S n ((i,true)::rest) a w:=
 ⟨o,v,ho,.inl ⟨hg,hv⟩,by unfold Act.put;rw[hd];exact h⟩
theorem Fs {n:Nat} {o:Oper} {i:Nat} {rest:List (Nat×Bool)} {a:Act} {w:World} (ho:Bq[i]?=some o)
  (h:∀K:Act→World→Prop,(∀a' w',(i < n→S w')→GN P Bq Q S n rest a' w'→K a' w')→if Region.wanted o (yielded Bq a.tmps)=true then Oper.wp P o a w K Q else K (a.put o.dst undef) w):
  GN P Bq Q S n ((i,false)::rest) a w:=by
 have h1:=h (fun a' w'=>(i < n→S w')∧GN P Bq Q S n rest a' w') (fun a' w' h2 h3=>⟨h2,h3⟩);unfold GN wpOp;rw[ho];simp only[];split
 ·rename_i hg;rw[if_pos hg] at h1;exact .inl h1
 ·rename_i hg;rw[if_neg hg] at h1;exact h1
end
section
variable {P:Program} {Bq:Array Oper} {Q:Exit→Act→World→Prop} {md:Region.Mode} {S:World→Prop}
def aV (P:Program) (Bq:Array Oper) (Q:Exit→Act→World→Prop) (S:World→Prop) (R:Act→World→Prop):Nat→List Nat→List Nat→Act→World→Prop
 | 0,_,_,a,w=>R a w
 | f+1,cs,al,a,w=>(∀c cs',cs=c::cs'→wpOp P Bq Q c (fun a' w'=>S w'∧aV P Bq Q S R f cs' al a' w') a w)∧(∀i,i∈al→wpOp P Bq Q i (fun a' w'=>S w'∧aV P Bq Q S R f cs (al.erase i) a' w') a w)
def iO (md:Region.Mode) (Bq:Array Oper) (k:Array Bool→Bool):Nat→List Nat→List Nat→Array Bool→Bool
 | 0,_,_,listed=>k listed
 | f+1,cs,al,listed=>(Region.ready md Bq listed).all (fun i=>cs.head?==some i || al.contains i) && !(Region.ready md Bq listed).isEmpty
   && (match cs with | c::cs'=> !(Region.ready md Bq listed).contains c || iO md Bq k f cs' al (listed.setIfInBounds c true) | []=>true) && al.all (fun i=> !(Region.ready md Bq listed).contains i || iO md Bq k f cs (al.erase i) (listed.setIfInBounds i true))
theorem U0 {n m:Nat} {R:Act→World→Prop} {k:Array Bool→Bool} (hR:∀listed a w,k listed=true→FY md Bq listed→S w→R a w→KW P md Bq Q S n m listed a w):
  ∀(f:Nat) (cs al:List Nat) (listed:Array Bool) (a:Act) (w:World),FY md Bq listed→iO md Bq k f cs al listed=true→S w→aV P Bq Q S R f cs al a w→KW P md Bq Q S n (f+m) listed a w:=by
 intro f;induction f with
 | zero=>intro cs al listed a w Dp hk hS h;rw[Nat.zero_add];exact hR listed a w hk Dp hS h
 | succ f ih=>
  intro cs al listed a w Dp hk hS h;rw[show f+1+m=(f+m)+1 by omega];simp only[iO,Bool.and_eq_true,Bool.not_eq_true'] at hk;obtain⟨⟨⟨h1,h2⟩,h3⟩,h4⟩:=hk;refine⟨fun h0=>(by rw[h0] at h2;cases h2),fun i hi=> ?_⟩;have yR:=List.all_eq_true.1 h1 i hi;have yQ:(Region.ready md Bq listed).contains i=true:=by simpa using hi
  by_cases vN:i∈al
  ·have:=List.all_eq_true.1 h4 i vN;rw[yQ] at this;simp only[Bool.not_true,Bool.false_or] at this;exact wpOp_mono (fun a' w' hh=>⟨fun _=>hh.1,ih _ _ _ a' w' (Dp.set hi) this hh.1 hh.2⟩) (h.2 i vN)
  ·have hc:cs.head?=some i:=by
    simp only[Bool.or_eq_true,beq_iff_eq,List.contains_iff_mem] at yR;rcases yR with h5 | h5
    ·exact h5
    ·exact absurd h5 vN
   cases cs with
   | nil=>cases hc
   | cons c cs'=>
    simp only[List.head?_cons,Option.some.injEq] at hc;subst hc;simp only[yQ,Bool.not_true,Bool.false_or] at h3;exact wpOp_mono (fun a' w' hh=>⟨fun _=>hh.1,ih _ _ _ a' w' (Dp.set hi) h3 hh.1 hh.2⟩) (h.1 c cs' rfl)
def Ps (P:Program) (Bq:Array Oper) (S:World→Prop) (R:Act→World→Prop):List Nat→Act→World→Prop
 | [],a,w=>R a w
 | i::rest,a,w=>∃o v,Bq[i]?=some o∧YieldsIf P Bq S o v a∧Ps P Bq S R rest (a.put o.dst v) w
def ZX (md:Region.Mode) (Bq:Array Oper) (n:Nat) (k:Array Bool→Bool):List Nat→Array Bool→Bool
 | [],listed=>k listed
 | i::rest,listed=>i !=n && (Region.ready md Bq listed).contains i && Region.free md Bq listed i && ZX md Bq n k rest (listed.setIfInBounds i true)
theorem M4 {n m:Nat} {R:Act→World→Prop} {k:Array Bool→Bool} (NU:TZ md Bq n=true) (JC:Region.noSelect Bq=true) (hQ:∀c a d v w,Q (.panic c) (Act.put a d v) w→Q (.panic c) a w)
  (hR:∀listed a w,k listed=true→FY md Bq listed→S w→R a w→KW P md Bq Q S n m listed a w):
  ∀(l:List Nat) (listed:Array Bool) (a:Act) (w:World),FY md Bq listed→ZX md Bq n k l listed=true→S w→Ps P Bq S R l a w→KW P md Bq Q S n (l.length+m) listed a w
 | [],listed,a,w,Dp,hk,hS,h=>by rw[List.length_nil,Nat.zero_add];exact hR listed a w hk Dp hS h
 | i::rest,listed,a,w,Dp,hk,hS,h=>by
  simp only[ZX,Bool.and_eq_true,bne_iff_ne,ne_eq] at hk;obtain⟨⟨⟨h1,h3⟩,h4⟩,h5⟩:=hk;obtain⟨o,v,ho,hy,hr⟩:=h;rw[show(i::rest).length+m=(rest.length+m)+1 by simp;omega];have zt:i∈Region.ready md Bq listed:=by simpa using h3
  exact NW NU h1 ho (Region.noSelect_spec JC) (fun c a w=>hQ c a _ _ w) _ listed a w Dp (Region.free_spec ho h4) zt hy hS
   (M4 NU JC hQ hR rest _ _ w (Dp.set zt) h5 hS hr)
theorem KU {id:Nat} {a:Act} {w:World} (l1 cs al:List Nat) (l2:List (Nat×Bool)) (S:World→Prop) (n:Nat) (hm:P.follows .mixedOrders=true) (hlen:l1.length+((cs.length+al.length)+l2.length)=Bq.size) (NU:TZ .any Bq n=true) (JC:Region.noSelect Bq=true)
  (hk:ZX .any Bq n (iO .any Bq (PH .any Bq n l2) (cs.length+al.length) cs al) l1 (Array.replicate Bq.size false)=true) (hQ:∀c a d v w,Q (.panic c) (Act.put a d v) w→Q (.panic c) a w) (hS:S w.drew)
  (h:Ps P Bq S (fun a w=>aV P Bq Q S (fun a w=>A0 P Bq Q S l2 a w) (cs.length+al.length) cs al a w) l1 a w.drew):(Code.region id Bq true).wp P Q a w:=by
 refine wp_region_any hm ?_;have:=Nn _ _ _ _ (M4 (n:=n) NU JC hQ (fun listed a w hk Dp hS h=>U0 (fun listed a w hk Dp hS h=>Ip NU JC hQ l2 listed a w Dp hk (fun _=>hS) h) _ cs al listed a w Dp hk hS h) l1 _ a w.drew (fun j o _ hl=>by
   rw[Array.getD_eq_getD_getElem?,Array.getElem?_replicate] at hl;split at hl <;>cases hl) hk hS h)
 rw[hlen] at this;exact this
theorem Jc {R:Act→World→Prop} {o:Oper} {i d:Nat} {v:Value} {rest:List Nat} {a:Act} {w:World} (ho:Bq[i]?=some o) (hd:o.dst=some d) (hg:Region.wanted o (yielded Bq a.tmps)=true)
  (hv:∀W,S W→(execOp a.eval o).run P W= .ok (.value v) W) (h:Ps P Bq S R rest ⟨a.tmps.setIfInBounds d v,a.defers⟩ w):Ps P Bq S R (i::rest) a w:=
 ⟨o,v,ho,.inl ⟨hg,hv⟩,by unfold Act.put;rw[hd];exact h⟩
theorem aU {o:Oper} {i:Nat} {K:Act→World→Prop} {a:Act} {w:World} (ho:Bq[i]?=some o) (h:if Region.wanted o (yielded Bq a.tmps)=true then Oper.wp P o a w K Q else K (a.put o.dst undef) w):wpOp P Bq Q i K a w:=by
 unfold wpOp;rw[ho];simp only[];split
 ·rename_i hg;rw[if_pos hg] at h;exact .inl h
 ·rename_i hg;rw[if_neg hg] at h;exact h
theorem ej {R:Act→World→Prop} (I:List Nat→List Nat→Act→World→Prop) (hc:∀c cs al a w,I (c::cs) al a w→wpOp P Bq Q c (fun a' w'=>S w'∧I cs al a' w') a w)
  (ha:∀cs al i a w,i∈al→I cs al a w→wpOp P Bq Q i (fun a' w'=>S w'∧I cs (al.erase i) a' w') a w) (he:∀a w,I [] [] a w→R a w):
  ∀(f:Nat) (cs al:List Nat) (a:Act) (w:World),cs.length+al.length=f→I cs al a w→aV P Bq Q S R f cs al a w:=by
 intro f;induction f with
 | zero=>
  intro cs al a w hf h;have h1:cs=[]:=List.eq_nil_of_length_eq_zero (by omega);have h2:al=[]:=List.eq_nil_of_length_eq_zero (by omega);subst h1;subst h2;exact he a w h
 | succ f ih=>
  intro cs al a w hf h;refine⟨fun c cs' e=> ?_,fun i hi=> ?_⟩
  ·subst e;exact wpOp_mono (fun a' w' hh=>⟨hh.1,ih _ _ _ _ (by simp at hf;omega) hh.2⟩) (hc c cs' al a w h)
  ·exact wpOp_mono (fun a' w' hh=>⟨hh.1,ih _ _ _ _ (by have:=List.length_pos_of_mem hi;rw[List.length_erase_of_mem hi];omega) hh.2⟩) (ha cs al i a w hi h)
theorem OP {σ:Type} {R:Act→World→Prop} {T:Array Value} {D:List Deferred} (mk:Array Value→σ→Array Value) (J:List Nat→List Nat→σ→World→Prop)
  (hc:∀c cs al s w,J (c::cs) al s w→wpOp P Bq Q c (fun a' w'=>S w'∧∃s',a'=⟨mk T s',D⟩∧J cs al s' w') ⟨mk T s,D⟩ w)
  (ha:∀cs al i s w,i∈al→J cs al s w→wpOp P Bq Q i (fun a' w'=>S w'∧∃s',a'=⟨mk T s',D⟩∧J cs (al.erase i) s' w') ⟨mk T s,D⟩ w)
  (he:∀s w,J [] [] s w→R ⟨mk T s,D⟩ w) {f:Nat} {cs al:List Nat} {w:World} (hf:cs.length+al.length=f) (s0:σ) (h0:mk T s0=T) (h:J cs al s0 w):aV P Bq Q S R f cs al ⟨T,D⟩ w:=by
 refine ej (I:=fun cs al a w=>∃s,a=⟨mk T s,D⟩∧J cs al s w) ?_ ?_ ?_ f cs al _ w hf ⟨s0,by rw[h0],h⟩
 ·rintro c cs al a w ⟨s,rfl,h⟩;exact hc c cs al s w h
 ·rintro cs al i a w hi ⟨s,rfl,h⟩;exact ha cs al i s w hi h
 ·rintro a w ⟨s,rfl,h⟩;exact he s w h
end
end Go.Proofs.YtpdfifdlhpmofaaGreatDoor
