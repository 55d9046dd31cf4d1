/-
  Part 6 of the proof.
-/
import Derived.Test.YtpdfifdlhpmofaaGreatDoorZ04
set_option linter.unusedVariables false
set_option linter.unusedSimpArgs false
set_option maxHeartbeats 3200000
set_option maxRecDepth 100000
namespace Go.Proofs.YtpdfifdlhpmofaaGreatDoor
open Go.Lib (hid)
theorem man {p:Prop} (h:p:=by
 have h1:=H.2 j (ready_mono hj eD);obtain⟨uQ,oj,fR,Ie⟩:=mem_ready.1 hj;have AbY:∀e∈oj.after,Region.binds md e=true->e.on≠i:=fun e he hb heq=>by
  have h1:=Ie e he hb;have h0:=(mem_ready.1 hr).1;rw[heq] at h1;rcases Qbs i listed.size with h' | h'
  ·simp[h'] at h0 h1;rw[h0] at h1;cases h1
  ·simp[Qbb h'] at h1
 have h2:=wpOp_putIf fR (NI j oj fR eD uQ AbY) (fun cs b=>hsel i oi cs b hi) (fun cs b=>hsel j oj cs b fR) hQ hy h1;have iU:∀k ok,Bh[k]?=some ok->k≠i->(listed.setIfInBounds j true).getD k true=false->
   (∀e∈ok.after,Region.binds md e=true->e.on≠i)->oi.apart Bh ok=true:=fun k ok hk oG hun RT=>by
  refine NI k ok hk oG ?_ RT;by_cases hjk:j=k
  ·subst hjk;exact uQ
  ·rw[getD_set_ne true hjk] at hun;exact hun
 refine wpOp_mono (fun a' w' h3=>⟨h3.2.1,ih (listed.setIfInBounds j true) a' w' (Db.set hj) iU (ready_mono hr (Ne.symm eD)) h3.1 (h3.2.1 eC) ?_⟩) h2;rw[Array.setIfInBounds_comm _ _ eD];exact h3.2.2):p:=h
theorem maH {p:Prop} (h:p:=by
 rcases Qbs i listed.size with h' | h'
 ·simp[h'] at h0 h1;rw[h0] at h1;cases h1
 ·simp[Qbb h'] at h1):p:=h
theorem ma2 {p:Prop} (h:p:=by
 intro listed a w _ _ hr hy hS H;refine⟨fun h=>(by rw[h] at hr;cases hr),fun j hj=> ?_⟩;by_cases eD:j=i
 ·subst eD;exact hy.wpOp hi hS ⟨fun _=>hS,H⟩
 ·have:=ready_mono hj eD;rw[H.1] at this;cases this):p:=h
theorem mbM {p:Prop} (h:p:=by
 rw[ho];simp only[];split
 ·rename_i hg;rw[In hg] at h1;exact .inl h1
 ·rename_i hg;rw[I hg] at h1;exact h1):p:=h
variable {listed:Array Bool} {i n d j:Nat} {oi o:Oper} {v:Value} {a:Act} {w:World} {l rest:List (Nat×Bool)} {P' Q':Prop} {R:Act->World->Prop}
section
variable {P:Program} {Bh:Array Oper} {Q:Exit->Act->World->Prop} {md:Region.Mode} {S:World->Prop}
def VO (md:Region.Mode) (Bh:Array Oper) (n:Nat):Bool:=
 (List.range Bh.size).all fun k=>k==n || (List.range Bh.size).any fun j=>decide (k < j) && match Bh[j]? with
  | some o=>o.after.any fun e=>Region.binds md e && e.on==k
  | none=>false
def GJ (md:Region.Mode) (Bh:Array Oper) (listed:Array Bool):Prop:=
 ∀j o,Bh[j]?=some o->listed.getD j false=true->∀e∈o.after,Region.binds md e=true->listed.getD e.on false=true
theorem GJ.set (h:GJ md Bh listed) (hi:i∈Region.ready md Bh listed):GJ md Bh (listed.setIfInBounds i true):=by
 intro j o ho hl e he hb;obtain⟨_,oi,iP,Ie⟩:=mem_ready.1 hi;refine getD_set_true ?_;by_cases oH:i=j
 ·subst oH;rw[ho] at iP;cases iP;exact Ie e he hb
 ·rw[getD_set_ne false oH] at hl;exact h j o ho hl e he hb
theorem gC (h:VO md Bh n=true) (hc:GJ md Bh listed) (hn:n∈Region.ready md Bh listed):∀m k,Bh.size - k<=m->k < Bh.size->k≠n->listed.getD k false=true:=by
 intro m;induction m with
 | zero=>intro k hk AX;omega
 | succ m ih=>
  intro k hk AX Bi;have h1:=Qa4.1 h k (Qbk.2 AX);simp only[Qcq,Qbu,Bi,false_or,Qb9,Qbk,Qaf,Qad] at h1;obtain⟨j,hj,hkj,h2⟩:=h1;cases fR:Bh[j]? with
  | none=>rw[fR] at h2;cases h2
  | some o=>
   rw[fR] at h2;obtain⟨e,he,hb⟩:=Qdp.1 h2;simp only[Qaf,Qbu] at hb;by_cases eC:j=n
   ·subst eC;obtain⟨_,o',Oz,Ie⟩:=mem_ready.1 hn;rw[fR] at Oz;cases Oz;have:=Ie e he hb.1;rw[hb.2] at this;exact this
   ·have:=hc j o fR (ih j Y hj eC) e he hb.1;rw[hb.2] at this;exact this
def Mz (P:Program) (md:Region.Mode) (Bh:Array Oper) (Q:Exit->Act->World->Prop) (S:World->Prop) (n:Nat):Nat->Array Bool->Act->World->Prop
 | 0,listed,a,w=>Region.ready md Bh listed=[]/\Q .normal a w
 | fuel+1,listed,a,w=>
  (Region.ready md Bh listed=[]->Q .normal a w)/\
  ∀i∈Region.ready md Bh listed,wpOp P Bh Q i (fun a' w'=>(i≠n->S w')/\Mz P md Bh Q S n fuel (listed.setIfInBounds i true) a' w') a w
theorem Qd:∀(fuel:Nat) (listed:Array Bool) (a:Act) (w:World),Mz P md Bh Q S n fuel listed a w->wpAny P md Bh Q fuel listed a w
 | 0,_,_,_,h=>h
 | fuel+1,_,_,_,h=>⟨h.1,fun i hi=>wpOp_mono (fun a' w' h'=>Qd fuel _ a' w' h'.2) (h.2 i hi)⟩
theorem Q5 (hsn:VO md Bh n=true) (RV:i≠n) (hi:Bh[i]?=some oi) (hsel:∀(j:Nat) (o:Oper) cs b,Bh[j]?=some o->o.op≠ .select cs b)
  (hQ:∀c a w,Q (.panic c) (a.put oi.dst v) w->Q (.panic c) a w):
  ∀(fuel:Nat) (listed:Array Bool) (a:Act) (w:World),GJ md Bh listed->
   (∀j oj,Bh[j]?=some oj->j≠i->listed.getD j true=false->(∀e∈oj.after,Region.binds md e=true->e.on≠i)->oi.apart Bh oj=true)->
   i∈Region.ready md Bh listed->YieldsIf P Bh S oi v a->S w->
   Mz P md Bh Q S n fuel (listed.setIfInBounds i true) (a.put oi.dst v) w->Mz P md Bh Q S n (fuel+1) listed a w:=by
 intro fuel;induction fuel with
 | zero=>
  exact ma2
 | succ fuel ih=>
  intro listed a w Db NI hr hy hS H;refine⟨fun h=>(by rw[h] at hr;cases hr),fun j hj=> ?_⟩;by_cases eD:j=i
  ·subst eD;exact hy.wpOp hi hS ⟨fun _=>hS,H⟩
  ·have eC:j≠n:=by
    rintro rfl;have AX:i < Bh.size:=(Array.getElem?_eq_some_iff.1 hi).1;have h1:=gC hsn Db hj _ i (LE _) AX RV;have h0:=(mem_ready.1 hr).1;exact maH
   exact man
def BB (P:Program) (Bh:Array Oper) (Q:Exit->Act->World->Prop) (S:World->Prop):List (Nat×Bool)->Act->World->Prop
 | [],a,w=>Q .normal a w
 | (i,true)::rest,a,w=>∃o v,Bh[i]?=some o/\YieldsIf P Bh S o v a/\BB P Bh Q S rest (a.put o.dst v) w
 | (i,false)::rest,a,w=>wpOp P Bh Q i (fun a' w'=>(rest≠[]->S w')/\BB P Bh Q S rest a' w') a w
def Rk (md:Region.Mode) (Bh:Array Oper) (n:Nat):List (Nat×Bool)->Array Bool->Bool
 | [],listed=>(Region.ready md Bh listed).isEmpty
 | (i,true)::rest,listed=>i !=n && !rest.isEmpty && (Region.ready md Bh listed).contains i && Region.free md Bh listed i && Rk md Bh n rest (listed.setIfInBounds i true)
 | (i,false)::rest,listed=>(Region.ready md Bh listed==[i]) && (rest.isEmpty==(i==n)) && Rk md Bh n rest (listed.setIfInBounds i true)
theorem Jl {n:Nat} (hsn:VO md Bh n=true) (hsel:Region.noSelect Bh=true) (hQ:∀c a d v w,Q (.panic c) (Act.put a d v) w->Q (.panic c) a w):
  ∀(l:List (Nat×Bool)) (listed:Array Bool) (a:Act) (w:World),GJ md Bh listed->Rk md Bh n l listed=true->(l≠[]->S w)->BB P Bh Q S l a w->Mz P md Bh Q S n l.length listed a w
 | [],listed,a,w,_,hk,_,h=>⟨by simpa[Rk] using hk,h⟩
 | (i,true)::rest,listed,a,w,Db,hk,hS,h=>by
  simp only[Rk,Qaf,bne_iff_ne,ne_eq,Qdt,Qc9] at hk;obtain⟨⟨⟨⟨h1,h2⟩,h3⟩,h4⟩,h5⟩:=hk;obtain⟨o,v,ho,hy,hr⟩:=h;have hS':=hS EQ;exact Q5 hsn h1 ho (Region.noSelect_spec hsel) (fun c a w=>hQ c a _ _ w) _ listed a w Db (Region.free_spec ho h4) (by simpa using h3) hy hS'
   (Jl hsn hsel hQ rest _ _ w (Db.set (by simpa using h3)) h5 (fun _=>hS') hr)
 | (i,false)::rest,listed,a,w,Db,hk,hS,h=>by
  simp only[Rk,Qaf,Qbu] at hk;obtain⟨⟨h1,h2⟩,h3⟩:=hk;refine⟨fun h0=>(by rw[h1] at h0;cases h0),fun j hj=> ?_⟩;rw[h1] at hj;obtain rfl:=Z.1 hj;refine wpOp_mono (fun a' w' hh=>⟨fun eC=>hh.1 fun hr=> ?_,Jl hsn hsel hQ rest _ a' w' (Db.set (by rw[h1];exact Z.2 rfl)) h3 hh.1 hh.2⟩) h;rw[hr] at h2;simp at h2;exact eC h2
theorem Ap {id:Nat} (S:World->Prop) (n:Nat) (hS:S w.drew) (h:BB P Bh Q S l a w.drew) (hm:P.follows .mixedOrders=true:=by kernel_rfl) (hlen:l.length=Bh.size:=by kernel_rfl) (hsn:VO .any Bh n=true:=by kernel_rfl) (hsel:Region.noSelect Bh=true:=by kernel_rfl)
  (hk:Rk .any Bh n l (Array.replicate Bh.size false)=true:=by kernel_rfl) (hQ:∀c a d v w,Q (.panic c) (Act.put a d v) w->Q (.panic c) a w:=by (intro c a d v w h;cases d <;>exact h)):(Code.region id Bh true).wp P Q a w:=by
 refine wp_region_any hm ?_;have:=Qd _ _ _ _ (Jl hsn hsel hQ l _ a w.drew (fun j o _ hl=>by
   rw[Qb7,Qcy] at hl;split at hl <;>cases hl) hk (fun _=>hS) h)
 rw[hlen] at this;exact this
theorem I0 (ho:Bh[i]?=some o) (hd:o.dst=some d) (hg:Region.wanted o (yielded Bh a.tmps)=true)
  (hv:∀W,S W->(execOp a.eval o).run P W= .ok (.value v) W) (h:BB P Bh Q S rest ⟨a.tmps.setIfInBounds d v,a.defers⟩ w):BB P Bh Q S ((i,true)::rest) a w:=
 ⟨o,v,ho,.inl ⟨hg,hv⟩,by unfold Act.put;rw[hd];exact h⟩
theorem Vr (ho:Bh[i]?=some o) (hd:o.dst=some d) (hg:Region.wanted o (yielded Bh a.tmps)=false)
  (h:BB P Bh Q S rest ⟨a.tmps.setIfInBounds d undef,a.defers⟩ w):BB P Bh Q S ((i,true)::rest) a w:=⟨o,undef,ho,.inr ⟨hg,rfl⟩,by unfold Act.put;rw[hd];exact h⟩
theorem D9 {dst:Option Tmp} (hd:dst=some d) (h:BB P Bh Q S l ⟨a.tmps.setIfInBounds d v,a.defers⟩ w):BB P Bh Q S l (a.put dst v) w:=by
 unfold Act.put;rw[hd];exact h
theorem Ai (ho:Bh[i]?=some o)
  (h:∀K:Act->World->Prop,(∀a' w',(rest≠[]->S w')->BB P Bh Q S rest a' w'->K a' w')->if Region.wanted o (yielded Bh a.tmps)=true then Oper.wp P o a w K Q else K (a.put o.dst undef) w):
  BB P Bh Q S ((i,false)::rest) a w:=by
 have h1:=h (fun a' w'=>(rest≠[]->S w')/\BB P Bh Q S rest a' w') (fun a' w' h2 h3=>⟨h2,h3⟩);unfold BB wpOp;exact mbM
end
theorem FQ:(∀(l:List Value) (i:Nat) (v:Value),l.toArray.setIfInBounds i v=(l.set i v).toArray)/\(∀(x:Value) (xs:List Value) (n:Nat) (a:Value),(x::xs).set (n+1) a=x::xs.set n a)/\∀(x:Value) (xs:List Value) (a:Value),(x::xs).set 0 a=a::xs:=⟨fun _ _ _=>List.setIfInBounds_toArray ..,fun _ _ _ _=>Qbl ..,fun _ _ _=>Qcd ..⟩
theorem AY (k:Q') (h:RowKit.Hid Q'->P':=by
  intro zk;repeat
    refine I0 (v:= ?_) rfl rfl rfl (fun W hW=> ?_) ?_;rotate_left
    · repeat (obtain⟨_,hW⟩:=hW)
      go_simp;rfl
    simp only[FQ]
  exact zk.out):P':=h k
theorem detE (k:Q') (h:RowKit.Hid Q'->P':=by
  intro zk;refine AY ?_;refine Ai rfl (fun zK hK=> ?_);go_simp
  revert zK
  exact zk.out):P':=h k
section
variable {P:Program} {Bh:Array Oper} {Q:Exit->Act->World->Prop} {md:Region.Mode} {S:World->Prop}
def Qe (md:Region.Mode) (Bh:Array Oper) (j k:Nat):Bool:=match Bh[j]? with
 | some o=>o.after.any fun e=>Region.binds md e && e.on==k
 | none=>false
def Ri (md:Region.Mode) (Bh:Array Oper) (n:Nat):Bool:=
 ((List.range n).all fun k=>(List.range (n+1)).any fun j=>decide (k < j) && Qe md Bh j k) &&
 (List.range Bh.size).all fun j=>decide (j<=n) || (List.range j).any fun i=>decide (n<=i) && Qe md Bh j i
theorem MF (hc:GJ md Bh listed) {j k:Nat} (h:Qe md Bh j k=true) (hj:listed.getD j false=true):listed.getD k false=true:=by
 unfold Qe at h;cases fR:Bh[j]? with
 | none=>rw[fR] at h;cases h
 | some o=>
  rw[fR] at h;obtain⟨e,he,hb⟩:=Qdp.1 h;simp only[Qaf,Qbu] at hb;have:=hc j o fR hj e he hb.1;rw[hb.2] at this;exact this
theorem TD {k:Nat} (h:Qe md Bh j k=true) (hj:j∈Region.ready md Bh listed):listed.getD k false=true:=by
 unfold Qe at h;obtain⟨_,o,ho,Ie⟩:=mem_ready.1 hj;rw[ho] at h;obtain⟨e,he,hb⟩:=Qdp.1 h;simp only[Qaf,Qbu] at hb;have:=Ie e he hb.1;rw[hb.2] at this;exact this
theorem TP (h:Ri md Bh n=true) (hc:GJ md Bh listed) (hn:∀k,Qe md Bh n k=true->listed.getD k false=true):∀m k,n - k<=m->k < n->listed.getD k false=true:=by
 unfold Ri at h;rw[Qaf] at h;intro m;induction m with
 | zero=>intro k hk AX;omega
 | succ m ih=>
  intro k hk AX;have h1:=Qa4.1 h.1 k (Qbk.2 AX);simp only[Qb9,Qbk,Qaf,Qad] at h1;obtain⟨j,hj,hkj,h2⟩:=h1;by_cases eC:j=n
  ·subst eC;exact hn k h2
  ·exact MF hc h2 (ih j Y Y)
theorem rr (h:Ri md Bh n=true) (hc:GJ md Bh listed):∀m j,j<=m->n<=j->j < Bh.size->listed.getD j false=true->listed.getD n false=true:=by
 have h0:=h;unfold Ri at h;rw[Qaf] at h;intro m;induction m with
 | zero=>
  intro j hj hnj _ hl;have:j=n:=Y
  rw[<-this];exact hl
 | succ m ih=>
  intro j hj hnj hjs hl;have h1:=Qa4.1 h.2 j (Qbk.2 hjs);simp only[Qcq,Qad,Qb9,Qbk,Qaf] at h1;rcases h1 with h1 | ⟨i,hi,hni,h2⟩
  ·have:j=n:=Y
   rw[<-this];exact hl
  ·exact ih i Y hni Y (MF hc h2 hl)
theorem cS (h:Ri md Bh n=true) (hc:GJ md Bh listed) (hj:j∈Region.ready md Bh listed) (hnj:n<=j):∀k,k < n->listed.getD k false=true:=by
 intro k hk;by_cases eC:j=n
 ·subst eC;exact TP h hc (fun k hk=>TD hk hj) _ k (LE _) hk
 ·have h0:=h;unfold Ri at h0;rw[Qaf] at h0;obtain⟨_,o,ho,_⟩:=mem_ready.1 hj;have hjs:j < Bh.size:=(Array.getElem?_eq_some_iff.1 ho).1;have h1:=Qa4.1 h0.2 j (Qbk.2 hjs);simp only[Qcq,Qad,Qb9,Qbk,Qaf] at h1;rcases h1 with h1 | ⟨i,hi,hni,h2⟩
  ·omega
  ·have hl:=rr h hc i i (LE _) hni Y (TD h2 hj);exact TP h hc (fun k hk=>MF hc hk hl) _ k (LE _) hk
def Vt (P:Program) (md:Region.Mode) (Bh:Array Oper) (Q:Exit->Act->World->Prop) (S:World->Prop) (n:Nat):Nat->Array Bool->Act->World->Prop
 | 0,listed,a,w=>Region.ready md Bh listed=[]/\Q .normal a w
 | fuel+1,listed,a,w=>
  (Region.ready md Bh listed=[]->Q .normal a w)/\
  ∀i∈Region.ready md Bh listed,wpOp P Bh Q i (fun a' w'=>(i < n->S w')/\Vt P md Bh Q S n fuel (listed.setIfInBounds i true) a' w') a w
theorem Vs:∀(fuel:Nat) (listed:Array Bool) (a:Act) (w:World),Vt P md Bh Q S n fuel listed a w->wpAny P md Bh Q fuel listed a w
 | 0,_,_,_,h=>h
 | fuel+1,_,_,_,h=>⟨h.1,fun i hi=>wpOp_mono (fun a' w' h'=>Vs fuel _ a' w' h'.2) (h.2 i hi)⟩
theorem Z0 (hsn:Ri md Bh n=true) (RV:i < n) (hi:Bh[i]?=some oi) (hsel:∀(j:Nat) (o:Oper) cs b,Bh[j]?=some o->o.op≠ .select cs b)
  (hQ:∀c a w,Q (.panic c) (a.put oi.dst v) w->Q (.panic c) a w):
  ∀(fuel:Nat) (listed:Array Bool) (a:Act) (w:World),GJ md Bh listed->
   (∀j oj,Bh[j]?=some oj->j≠i->listed.getD j true=false->(∀e∈oj.after,Region.binds md e=true->e.on≠i)->oi.apart Bh oj=true)->
   i∈Region.ready md Bh listed->YieldsIf P Bh S oi v a->S w->
   Vt P md Bh Q S n fuel (listed.setIfInBounds i true) (a.put oi.dst v) w->Vt P md Bh Q S n (fuel+1) listed a w:=by
 intro fuel;induction fuel with
 | zero=>
  exact ma2
 | succ fuel ih=>
  intro listed a w Db NI hr hy hS H;refine⟨fun h=>(by rw[h] at hr;cases hr),fun j hj=> ?_⟩;by_cases eD:j=i
  ·subst eD;exact hy.wpOp hi hS ⟨fun _=>hS,H⟩
  ·have eC:j < n:=by
    refine Nat.lt_of_not_le fun hnj=> ?_
    have h1:=cS hsn Db hj hnj i RV;have h0:=(mem_ready.1 hr).1;exact maH
   exact man
def DP (P:Program) (Bh:Array Oper) (Q:Exit->Act->World->Prop) (S:World->Prop) (n:Nat):List (Nat×Bool)->Act->World->Prop
 | [],a,w=>Q .normal a w
 | (i,true)::rest,a,w=>∃o v,Bh[i]?=some o/\YieldsIf P Bh S o v a/\DP P Bh Q S n rest (a.put o.dst v) w
 | (i,false)::rest,a,w=>wpOp P Bh Q i (fun a' w'=>(i < n->S w')/\DP P Bh Q S n rest a' w') a w
def Ql (md:Region.Mode) (Bh:Array Oper) (n:Nat):List (Nat×Bool)->Array Bool->Bool
 | [],listed=>(Region.ready md Bh listed).isEmpty
 | (i,true)::rest,listed=>decide (i < n) && (Region.ready md Bh listed).contains i && Region.free md Bh listed i && Ql md Bh n rest (listed.setIfInBounds i true)
 | (i,false)::rest,listed=>(Region.ready md Bh listed==[i]) && (decide (i < n) || rest.all fun x=> !x.2) && Ql md Bh n rest (listed.setIfInBounds i true)
theorem Lu {n:Nat} (hsn:Ri md Bh n=true) (hsel:Region.noSelect Bh=true) (hQ:∀c a d v w,Q (.panic c) (Act.put a d v) w->Q (.panic c) a w):
  ∀(l:List (Nat×Bool)) (listed:Array Bool) (a:Act) (w:World),GJ md Bh listed->Ql md Bh n l listed=true->((l.any fun x=>x.2)=true->S w)->DP P Bh Q S n l a w->Vt P md Bh Q S n l.length listed a w
 | [],listed,a,w,_,hk,_,h=>⟨by simpa[Ql] using hk,h⟩
 | (i,true)::rest,listed,a,w,Db,hk,hS,h=>by
  simp only[Ql,Qaf,Qad,Qc9] at hk;obtain⟨⟨⟨h1,h3⟩,h4⟩,h5⟩:=hk;obtain⟨o,v,ho,hy,hr⟩:=h;have hS':=hS EQ;exact Z0 hsn h1 ho (Region.noSelect_spec hsel) (fun c a w=>hQ c a _ _ w) _ listed a w Db (Region.free_spec ho h4) (by simpa using h3) hy hS'
   (Lu hsn hsel hQ rest _ _ w (Db.set (by simpa using h3)) h5 (fun _=>hS') hr)
 | (i,false)::rest,listed,a,w,Db,hk,hS,h=>by
  simp only[Ql,Qaf,Qbu,Qcq,Qad] at hk;obtain⟨⟨h1,h2⟩,h3⟩:=hk;refine⟨fun h0=>(by rw[h1] at h0;cases h0),fun j hj=> ?_⟩;rw[h1] at hj;obtain rfl:=Z.1 hj;refine wpOp_mono (fun a' w' hh=>⟨hh.1,Lu hsn hsel hQ rest _ a' w' (Db.set (by rw[h1];exact Z.2 rfl)) h3 (fun AfO=> ?_) hh.2⟩) h;rcases h2 with h2 | h2
  ·exact hh.1 h2
  ·exfalso;obtain⟨x,hx,IG⟩:=Qb9.1 AfO;have:=Qa4.1 h2 x hx;rw[IG] at this;cases this
theorem BR {id:Nat} (S:World->Prop) (n:Nat) (hS:S w.drew) (h:DP P Bh Q S n l a w.drew) (hm:P.follows .mixedOrders=true:=by kernel_rfl) (hlen:l.length=Bh.size:=by kernel_rfl) (hsn:Ri .any Bh n=true:=by kernel_rfl) (hsel:Region.noSelect Bh=true:=by kernel_rfl)
  (hk:Ql .any Bh n l (Array.replicate Bh.size false)=true:=by kernel_rfl) (hQ:∀c a d v w,Q (.panic c) (Act.put a d v) w->Q (.panic c) a w:=by (intro c a d v w h;cases d <;>exact h)):(Code.region id Bh true).wp P Q a w:=by
 refine wp_region_any hm ?_;have:=Vs _ _ _ _ (Lu hsn hsel hQ l _ a w.drew (fun j o _ hl=>by
   rw[Qb7,Qcy] at hl;split at hl <;>cases hl) hk (fun _=>hS) h)
 rw[hlen] at this;exact this
theorem ga (ho:Bh[i]?=some o) (hd:o.dst=some d) (hg:Region.wanted o (yielded Bh a.tmps)=true)
  (hv:∀W,S W->(execOp a.eval o).run P W= .ok (.value v) W) (h:DP P Bh Q S n rest ⟨a.tmps.setIfInBounds d v,a.defers⟩ w):DP P Bh Q S n ((i,true)::rest) a w:=
 ⟨o,v,ho,.inl ⟨hg,hv⟩,by unfold Act.put;rw[hd];exact h⟩
theorem Ch (ho:Bh[i]?=some o)
  (h:∀K:Act->World->Prop,(∀a' w',(i < n->S w')->DP P Bh Q S n rest a' w'->K a' w')->if Region.wanted o (yielded Bh a.tmps)=true then Oper.wp P o a w K Q else K (a.put o.dst undef) w):
  DP P Bh Q S n ((i,false)::rest) a w:=by
 have h1:=h (fun a' w'=>(i < n->S w')/\DP P Bh Q S n rest a' w') (fun a' w' h2 h3=>⟨h2,h3⟩);unfold DP wpOp;exact mbM
end
theorem KQ (k:Q') (h:RowKit.Hid Q'->P':=by
  intro zk;repeat
    refine ga (v:= ?_) rfl rfl rfl (fun W hW=> ?_) ?_;rotate_left
    · repeat (obtain⟨_,hW⟩:=hW)
      go_simp;rfl
    simp only[FQ]
  exact zk.out):P':=h k
section
variable {P:Program} {Bh:Array Oper} {Q:Exit->Act->World->Prop} {md:Region.Mode} {S:World->Prop}
def lY (P:Program) (Bh:Array Oper) (Q:Exit->Act->World->Prop) (S:World->Prop) (R:Act->World->Prop):Nat->List Nat->List Nat->Act->World->Prop
 | 0,_,_,a,w=>R a w
 | f+1,cs,al,a,w=>(∀c cs',cs=c::cs'->wpOp P Bh Q c (fun a' w'=>S w'/\lY P Bh Q S R f cs' al a' w') a w)/\(∀i,i∈al->wpOp P Bh Q i (fun a' w'=>S w'/\lY P Bh Q S R f cs (al.erase i) a' w') a w)
def vr (md:Region.Mode) (Bh:Array Oper) (k:Array Bool->Bool):Nat->List Nat->List Nat->Array Bool->Bool
 | 0,_,_,listed=>k listed
 | f+1,cs,al,listed=>(Region.ready md Bh listed).all (fun i=>cs.head?==some i || al.contains i) && !(Region.ready md Bh listed).isEmpty
   && (match cs with | c::cs'=> !(Region.ready md Bh listed).contains c || vr md Bh k f cs' al (listed.setIfInBounds c true) | []=>true) && al.all (fun i=> !(Region.ready md Bh listed).contains i || vr md Bh k f cs (al.erase i) (listed.setIfInBounds i true))
theorem Z1 {m:Nat} {k:Array Bool->Bool} (hR:∀listed a w,k listed=true->GJ md Bh listed->S w->R a w->Mz P md Bh Q S n m listed a w):
  ∀(f:Nat) (cs al:List Nat) (listed:Array Bool) (a:Act) (w:World),GJ md Bh listed->vr md Bh k f cs al listed=true->S w->lY P Bh Q S R f cs al a w->Mz P md Bh Q S n (f+m) listed a w:=by
 intro f;induction f with
 | zero=>intro cs al listed a w Db hk hS h;rw[Qaw];exact hR listed a w hk Db hS h
 | succ f ih=>
  intro cs al listed a w Db hk hS h;rw[show f+1+m=(f+m)+1 by omega];simp only[vr,Qaf,Qdt] at hk;obtain⟨⟨⟨h1,h2⟩,h3⟩,h4⟩:=hk;refine⟨fun h0=>(by rw[h0] at h2;cases h2),fun i hi=> ?_⟩;have hi1:=Qa4.1 h1 i hi;have hic:(Region.ready md Bh listed).contains i=true:=by simpa using hi
  by_cases hia:i∈al
  ·have:=Qa4.1 h4 i hia;rw[hic] at this;simp only[Bool.not_true,Qcj] at this;exact wpOp_mono (fun a' w' hh=>⟨fun _=>hh.1,ih _ _ _ a' w' (Db.set hi) this hh.1 hh.2⟩) (h.2 i hia)
  ·have hc:cs.head?=some i:=by
    simp only[Qcq,Qbu,Qc9] at hi1;rcases hi1 with h5 | h5
    ·exact h5
    ·exact UV h5 hia
   cases cs with
   | nil=>cases hc
   | cons c cs'=>
    simp only[List.head?_cons,Option.some.injEq] at hc;subst hc;simp only[hic,Bool.not_true,Qcj] at h3;exact wpOp_mono (fun a' w' hh=>⟨fun _=>hh.1,ih _ _ _ a' w' (Db.set hi) h3 hh.1 hh.2⟩) (h.1 c cs' rfl)
def TB (P:Program) (Bh:Array Oper) (S:World->Prop) (R:Act->World->Prop):List Nat->Act->World->Prop
 | [],a,w=>R a w
 | i::rest,a,w=>∃o v,Bh[i]?=some o/\YieldsIf P Bh S o v a/\TB P Bh S R rest (a.put o.dst v) w
def km (md:Region.Mode) (Bh:Array Oper) (n:Nat) (k:Array Bool->Bool):List Nat->Array Bool->Bool
 | [],listed=>k listed
 | i::rest,listed=>i !=n && (Region.ready md Bh listed).contains i && Region.free md Bh listed i && km md Bh n k rest (listed.setIfInBounds i true)
theorem PU {n m:Nat} {R:Act->World->Prop} {k:Array Bool->Bool} (hsn:VO md Bh n=true) (hsel:Region.noSelect Bh=true) (hQ:∀c a d v w,Q (.panic c) (Act.put a d v) w->Q (.panic c) a w)
  (hR:∀listed a w,k listed=true->GJ md Bh listed->S w->R a w->Mz P md Bh Q S n m listed a w):
  ∀(l:List Nat) (listed:Array Bool) (a:Act) (w:World),GJ md Bh listed->km md Bh n k l listed=true->S w->TB P Bh S R l a w->Mz P md Bh Q S n (l.length+m) listed a w
 | [],listed,a,w,Db,hk,hS,h=>by rw[m7,Qaw];exact hR listed a w hk Db hS h
 | i::rest,listed,a,w,Db,hk,hS,h=>by
  simp only[km,Qaf,bne_iff_ne,ne_eq] at hk;obtain⟨⟨⟨h1,h3⟩,h4⟩,h5⟩:=hk;obtain⟨o,v,ho,hy,hr⟩:=h;rw[show(i::rest).length+m=(rest.length+m)+1 by simp;omega];have qo:i∈Region.ready md Bh listed:=by simpa using h3
  exact Q5 hsn h1 ho (Region.noSelect_spec hsel) (fun c a w=>hQ c a _ _ w) _ listed a w Db (Region.free_spec ho h4) qo hy hS
   (PU hsn hsel hQ hR rest _ _ w (Db.set qo) h5 hS hr)
theorem My {id:Nat} (l1 cs al:List Nat) (l2:List (Nat×Bool)) (S:World->Prop) (n:Nat) (hS:S w.drew)
  (h:TB P Bh S (fun a w=>lY P Bh Q S (fun a w=>BB P Bh Q S l2 a w) (cs.length+al.length) cs al a w) l1 a w.drew) (hm:P.follows .mixedOrders=true:=by kernel_rfl) (hlen:l1.length+((cs.length+al.length)+l2.length)=Bh.size:=by kernel_rfl) (hsn:VO .any Bh n=true:=by kernel_rfl) (hsel:Region.noSelect Bh=true:=by kernel_rfl)
  (hk:km .any Bh n (vr .any Bh (Rk .any Bh n l2) (cs.length+al.length) cs al) l1 (Array.replicate Bh.size false)=true:=by kernel_rfl) (hQ:∀c a d v w,Q (.panic c) (Act.put a d v) w->Q (.panic c) a w:=by (intro c a d v w h;cases d <;>exact h)):(Code.region id Bh true).wp P Q a w:=by
 refine wp_region_any hm ?_;have:=Qd _ _ _ _ (PU (n:=n) hsn hsel hQ (fun listed a w hk Db hS h=>Z1 (fun listed a w hk Db hS h=>Jl hsn hsel hQ l2 listed a w Db hk (fun _=>hS) h) _ cs al listed a w Db hk hS h) l1 _ a w.drew (fun j o _ hl=>by
   rw[Qb7,Qcy] at hl;split at hl <;>cases hl) hk hS h)
 rw[hlen] at this;exact this
theorem Kf {rest:List Nat} (ho:Bh[i]?=some o) (hd:o.dst=some d) (hg:Region.wanted o (yielded Bh a.tmps)=true)
  (hv:∀W,S W->(execOp a.eval o).run P W= .ok (.value v) W) (h:TB P Bh S R rest ⟨a.tmps.setIfInBounds d v,a.defers⟩ w):TB P Bh S R (i::rest) a w:=
 ⟨o,v,ho,.inl ⟨hg,hv⟩,by unfold Act.put;rw[hd];exact h⟩
theorem lX {K:Act->World->Prop} (ho:Bh[i]?=some o) (h:if Region.wanted o (yielded Bh a.tmps)=true then Oper.wp P o a w K Q else K (a.put o.dst undef) w):wpOp P Bh Q i K a w:=by
 unfold wpOp;rw[ho];simp only[];split
 ·rename_i hg;rw[In hg] at h;exact .inl h
 ·rename_i hg;rw[I hg] at h;exact h
theorem qN (Z97:List Nat->List Nat->Act->World->Prop) (hc:∀c cs al a w,Z97 (c::cs) al a w->wpOp P Bh Q c (fun a' w'=>S w'/\Z97 cs al a' w') a w)
  (ha:∀cs al i a w,i∈al->Z97 cs al a w->wpOp P Bh Q i (fun a' w'=>S w'/\Z97 cs (al.erase i) a' w') a w) (he:∀a w,Z97 [] [] a w->R a w):
  ∀(f:Nat) (cs al:List Nat) (a:Act) (w:World),cs.length+al.length=f->Z97 cs al a w->lY P Bh Q S R f cs al a w:=by
 intro f;induction f with
 | zero=>
  intro cs al a w hf h;have h1:cs=[]:=RK Y;have h2:al=[]:=RK Y;subst h1;subst h2;exact he a w h
 | succ f ih=>
  intro cs al a w hf h;refine⟨fun c cs' e=> ?_,fun i hi=> ?_⟩
  ·subst e;exact wpOp_mono (fun a' w' hh=>⟨hh.1,ih _ _ _ _ (by simp at hf;omega) hh.2⟩) (hc c cs' al a w h)
  ·exact wpOp_mono (fun a' w' hh=>⟨hh.1,ih _ _ _ _ (by have:=List.length_pos_of_mem hi;rw[List.length_erase_of_mem hi];omega) hh.2⟩) (ha cs al i a w hi h)
theorem Sx {σ:Type} {T:Array Value} {Z95:List Deferred} (mk:Array Value->σ->Array Value) (Z96:List Nat->List Nat->σ->World->Prop)
  (hc:∀c cs al s w,Z96 (c::cs) al s w->wpOp P Bh Q c (fun a' w'=>S w'/\∃s',a'=⟨mk T s',Z95⟩/\Z96 cs al s' w') ⟨mk T s,Z95⟩ w)
  (ha:∀cs al i s w,i∈al->Z96 cs al s w->wpOp P Bh Q i (fun a' w'=>S w'/\∃s',a'=⟨mk T s',Z95⟩/\Z96 cs (al.erase i) s' w') ⟨mk T s,Z95⟩ w)
  (he:∀s w,Z96 [] [] s w->R ⟨mk T s,Z95⟩ w) {f:Nat} {cs al:List Nat} {w:World} (hf:cs.length+al.length=f) (s0:σ) (h0:mk T s0=T) (h:Z96 cs al s0 w):lY P Bh Q S R f cs al ⟨T,Z95⟩ w:=by
 refine qN (Z97:=fun cs al a w=>∃s,a=⟨mk T s,Z95⟩/\Z96 cs al s w) ?_ ?_ ?_ f cs al _ w hf ⟨s0,by rw[h0],h⟩
 ·rintro c cs al a w ⟨s,rfl,h⟩;exact hc c cs al s w h
 ·rintro cs al i a w hi ⟨s,rfl,h⟩;exact ha cs al i s w hi h
 ·rintro a w ⟨s,rfl,h⟩;exact he s w h
end
end Go.Proofs.YtpdfifdlhpmofaaGreatDoor
