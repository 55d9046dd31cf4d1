/- Part 22 of the proof. -/
import Derived.Test.YtpdfifdlhpmofaaGreatDoorA21
set_option linter.unusedVariables false
set_option linter.unusedSimpArgs false
set_option maxHeartbeats 0
set_option maxRecDepth 99999
namespace Go.Proofs.YtpdfifdlhpmofaaGreatDoor
open Go.RowKit
open Value renaming slice->qD,string->qE,bool->qF,tuple->qG,agg->qH,pointer->qI
open Ending renaming returned->qJ
open Obj renaming cells->qK
open Option renaming none->Z,some->U
open Bool renaming true->V,false->I
open Go.Lib renaming hid->D
open List renaming length->J
theorem nae {p:Prop} (h:p:=by
 rw[hp] at Ex;obtain⟨o,h1,h2⟩:=Ex;obtain⟨lt,ha⟩:=wa.at ht (wa.run ht (by rw[hp];grind));unfold L0 at ha;rw[hp] at ha;obtain⟨_,_,_,b,s,ab,p,hc,_⟩:=ha;exact AcD ⟨o,0,h1,by rw[h2,Q9,Jr]⟩ (by rw[hp];grind) ⟨_,b,s,ab,p,hc⟩ (by unfold ET;rw[hp])):p:=h
theorem naj {p:Prop} (h:p:=by
 obtain⟨lt,ha⟩:=FU u hu (by rw[hp];exact λe=>by cases e);unfold L0 at ha;rw[hp] at ha;obtain⟨⟨_,_,_,_,_,_,hgc,_⟩,_⟩:=ha;have:=hgc.MP.lt;have:=(hX u hu).2;omega):p:=h
theorem nak {p:Prop} (h:p:=by
 obtain⟨q,o,l,h2⟩:=ih (J8.1 hd).2 e he Z3;grind [lift hd he Z3 h2]):p:=h
theorem nam {p:Prop} (h:p:=by
 show M5 (s0 t) h.E t (G t) (A7 A.th t _ t).out;rw[Au];exact wa.th t ht):p:=h
theorem nau {p:Prop} (h:p:=by
 obtain⟨e1,e2⟩:=key hd h1 k1;exact⟨_,_,_,by rw[e1,h1];exact e2,ko,b,kt,AC⟩):p:=h
theorem nav {p:Prop} (h:p:=by
 rw[In h];constructor
 .intro h1;cases h1<;>grind
 .exact λh1=> .skip h AC):p:=h
variable {k lv K st cells N:Int} {τ n u T t l b i M:Nat} {G:Nat->Gt} {x:Cx} {lt:LT} {A A':AM} {g' g:Gt} {s0 q r q2:KS} {E E' F:List Ev} {o out o' p:List Int} {rd:Nat->Option Int} {s:Bj} {X:Nat->Cx} {e:Ev} {κ:Nat->Nat} {σ:Int->Nat} {α:Type} {R:Am}
def KP (σ:Int->Nat) (N k:Int) (τ:Nat):Prop:=∀w,1<=w->w<=N->(w<=k<->σ w<τ)
structure GH where
 E:List Ev
 pc:Nat->Nat
 σ:Int->Nat
 Du:Nat
def Dt (g:Gt):Bool:=match g.ph with|.lo _=>V|_=>I
def nV (T:Nat) (G:Nat->Gt) (E:List Ev) (k:Int) (rd:Nat->Option Int):Prop:=∀c v,rd c=U v->tn E c k v/\∀u,u<T->Dt (G u)=V->(G u).wv<=k->(G u).q.A5 c=Z
def Ke (n:Nat) (A:AM) (G:Nat->Gt) (u:Nat):List (Nat×Int):=(A.th u).sw++AL n (G u)
def NM (T n:Nat) (A:AM) (G:Nat->Gt) (E:List Ev) (t:Nat):Prop:=match (G t).ph with
 |.F2 c lv=>∃w0,lv=2*w0/\w0<=(G t).rv/\∀v w,En E c v w->w0<=w/\(w=w0->∀u,u<T->u≠t->∀x,(c,x)∉Ke n A G u)
 |.Gw c lv y=>∃w0,lv=2*w0/\w0<=(G t).rv/\∀v w,En E c v w->w0<=w/\(w=w0->y=v)
 |.lo c=>(A.th t).sw=[]/\(G t).rv<(G t).wv/\∀d,d<c->∀v,(G t).rd d=U v->(G t).BE d=Z->tn E d ((G t).wv-1) v/\∀u,u<T->u≠t->Dt (G u)=V->(G u).wv<=(G t).wv-1->(G u).q.A5 d=Z
 |_=>True
structure oq (T n:Nat) (A:AM) (G:Nat->Gt) (h:GH) (t:Nat):Prop where
 kp:KP h.σ (A.sm 16) (G t).rv (h.pc t)
 pcn:h.pc t<h.Du
 oA:Dl (G t).q0
 ch:IC (G t).rd (Cw (G t).q0) (G t).q
 rdo:nV T G h.E (G t).rv (G t).rd
 PQ:∀e,e∈h.E->e.t=t->e.τ<h.pc t
 lv:∀c l,(G t).BE c=U l->∃w,l=2*w/\w<=(G t).rv
 sw:∀c,((G t).BE c).isSome=V->(A.th t).sw=[]
 rdn:∀c v,(G t).rd c=U v->c<n
 ph:NM T n A G h.E t
structure WI (T n:Nat) (A:AM) (G:Nat->Gt) (h:GH):Prop where
 mv:MV T n A.sm (λu=>B6 (G u)) (Ke n A G) h.E
 s1:∀w,1<=w->w<=A.sm 16->h.σ w<h.Du
 s2:∀w w',1<=w->w<w'->w'<=A.sm 16->h.σ w<h.σ w'
 Pu:iM h.E
 ev:∀e,e∈h.E->e.τ<h.Du/\e.k<=A.sm 16/\KP h.σ (A.sm 16) e.k e.τ/\nV T G h.E e.k e.rd/\∀w,e.w=U w->e.k=w-1/\e.τ=h.σ w/\1<=w/\w<=A.sm 16
 pn:∀t,t<T->Dt (G t)=V->1<=(G t).wv/\(G t).wv<=A.sm 16/\(∀e,e∈h.E->e.w≠U (G t).wv)/\∀u,u<T->u≠t->Dt (G u)=V->(G u).wv≠(G t).wv
 ac:∀t,t<T->ET (G t)=V->(G t).rv<=A.sm 16/\oq T n A G h t
theorem En.ex (E:List Ev) (h1:∀e,e∈E->∀w,e.w=U w->1<=w) (c:Nat):∃v w,En E c v w:=by
 induction E with
 |nil=>exact⟨0,0,.inr AC⟩
 |cons e E ih=>
  obtain⟨v,w,h⟩:=ih AC;by_cases hx:∃w',e.wr c w'
  .obtain⟨w',hw⟩:=hx;obtain⟨x,hx⟩:=JE.1 hw.2;by_cases hle:w<=w';grind [h.Ahz hw.1 hx hle]
   .have h2:=h1 e AC w' hw.1;rcases h with⟨e1,a1,a2,a3,a4⟩|⟨_,a2,_⟩
    .refine⟨v,w,.inl ⟨e1,AC,a2,a3,λe' BG w2 No=>?_⟩⟩;cases BG with
     |head=>have:=hw.1.symm.trans No.1;grind
     |tail _ BG=>exact a4 e' BG w2 No
    .omega
  .exact⟨v,w,h.cons AC⟩
structure WZ (T n:Nat) (A A':AM) (G:Nat->Gt) (t:Nat) (g':Gt) (h h':GH):Prop where
 N:A.sm 16<=A'.sm 16
 σ:∀w,w<=A.sm 16->h'.σ w=h.σ w
 σn:∀w,A.sm 16<w->w<=A'.sm 16->h.Du<=h'.σ w
 Du:h.Du<=h'.Du
 pc:∀u,u≠t->h'.pc u=h.pc u
 oth:∀u,u≠t->A'.th u=A.th u
 E:h'.E=h.E\/∃e0,h'.E=e0::h.E/\e0.t=t/\∀w,e0.w=U w->(A.sm 16<w\/(Dt (G t)=V/\(G t).wv=w/\(G t).q.A5=e0.q2.A5))/\∀c v w1,c<n->(e0.q2.A5 c).isSome=V->En h.E c v w1->w1<w
 pe:Dt g'=V->A.sm 16<g'.wv\/(Dt (G t)=V/\g'.wv=(G t).wv/\g'.q.A5=(G t).q.A5)
 Z95:∀c x,c<n->(c,x)∈(A'.th t).sw++AL n g'->(c,x)∈Ke n A G t\/∃e0,h'.E=e0::h.E/\∃w,e0.wr c w
section
variable {T n:Nat} {A A':AM} {G:Nat->Gt} {t:Nat} {g':Gt} {h h':GH} (c:WZ T n A A' G t g' h h')
include c
theorem WZ.isV {cc:Nat} {v:Int} (hv:tn h.E cc k v) (hk:k<=A.sm 16) (hp:Dt (G t)=V->(G t).wv<=k->(G t).q.A5 cc=Z):tn h'.E cc k v:=by
 rcases c.E with e|⟨e0,e,_,he⟩;grind
 .rw[e];refine hv.cons λw hw=>?_
  rcases (he w hw.1).1 with h1|⟨h1,h2,h3⟩
  .omega
  .refine Classical.byContradiction λhx=>?_
   have:=hp h1 Y;have h4:=hw.2;rw[<-h3,this] at h4;cases h4
theorem WZ.pJ (ht:t<T) {k:Int} {rd:Nat->Option Int} (hr:nV T G h.E k rd) (hk:k<=A.sm 16):nV T (A7 G t g') h'.E k rd:=λcc v hv=>by
 grind [hr cc v hv,c.isV,Au,Ba,WZ]
theorem WZ.kp (hr:KP h.σ (A.sm 16) k τ) (hk:k<=A.sm 16) (hτ:τ<=h.Du):KP h'.σ (A'.sm 16) k τ:=λw h1 h2=>by
 by_cases hw:w<=A.sm 16;grind [hr w h1 hw,WZ];grind [WZ]
theorem WZ.IZ (hw:∀e,e∈h.E->∀w,e.w=U w->1<=w) (ho:iM h'.E) {cc:Nat} (hc:cc<n) {v w:Int} (hv:En h'.E cc v w):En h.E cc v w\/∃v1 w1,En h.E cc v1 w1/\w1<w/\∃e0,h'.E=e0::h.E/\e0.wr cc w:=by
 rcases c.E with e|⟨e0,e,_,he⟩;grind
 .obtain⟨v1,w1,h1⟩:=En.ex h.E hw cc;by_cases hx:∃w',e0.wr cc w'
  .obtain⟨w',hx⟩:=hx;have hlt:=(he w' hx.1).2 cc v1 w1 hc hx.2 h1;obtain⟨x,hm⟩:=JE.1 hx.2;have h2:En h'.E cc x w':=by rw[e];exact h1.Ahz hx.1 hm Y
   grind [hv.fP]
  .have h2:En h'.E cc v1 w1:=by rw[e];grind [h1.cons]
   grind [hv.fP]
theorem WZ.Amc (ht:t<T) (h6:n<=6) (hw:∀e,e∈h.E->∀w,e.w=U w->1<=w) (ho:iM h'.E) {u:Nat} (hu:u≠t) (hcn:(∀c lv,(G u).ph=.F2 c lv->c<n)/\∀c lv y,(G u).ph=.Gw c lv y->c<n) (hpn:Dt (G u)=V->(G u).wv<=A.sm 16) (hp:NM T n A G h.E u):NM T n A' (A7 G t g') h'.E u:=by
 unfold NM at hp⊢;rw[Ba _ _ hu];cases BM:(G u).ph with
 |F2 cc lv=>
  rw[BM] at hp;obtain⟨w0,h1,h2,h3⟩:=hp;have hc:=hcn.1 cc lv BM;refine⟨w0,h1,h2,λv w hv=>?_⟩;rcases c.IZ hw ho hc hv with h4|⟨v1,w1,h4,h5,_⟩
  .obtain⟨h6,h7⟩:=h3 v w h4;refine⟨h6,λe u' mu hne x hx=>?_⟩;by_cases he:u'=t
   .subst he;unfold Ke at hx;rw[Au] at hx;rcases c.Z95 cc x hc hx with h8|⟨e0,h8,w2,h9⟩;grind
    .rcases c.E with e1|⟨e0',e1,_,FA⟩;grind [List.length_cons]
     .have e2:e0'=e0:=by rw[e1] at h8;grind
      subst e2;have h10:=(FA w2 h9.1).2 cc v w hc h9.2 h4;have h11:=hv.le e0' (by rw[e1];grind) w2 h9;omega
   grind [Ke,Ba,WZ]
  grind
 |Gw cc lv y=>
  rw[BM] at hp;obtain⟨w0,h1,h2,h3⟩:=hp;refine⟨w0,h1,h2,λv w hv=>?_⟩;rcases c.IZ hw ho (hcn.2 cc lv y BM) hv with h4|⟨v1,w1,h4,h5,_⟩<;>grind
 |lo cc=>
  rw[BM] at hp;grind [Dt,c.isV,Au,Ba,WZ]
 |_=>trivial
theorem WZ.acT (ht:t<T) (h6:n<=6) (hw:∀e,e∈h.E->∀w,e.w=U w->1<=w) (ho:iM h'.E) {u:Nat} (hu:u≠t) (hcn:(∀c lv,(G u).ph=.F2 c lv->c<n)/\∀c lv y,(G u).ph=.Gw c lv y->c<n) (hpn:Dt (G u)=V->(G u).wv<=A.sm 16) (hr:(G u).rv<=A.sm 16) (ha:oq T n A G h u):oq T n A' (A7 G t g') h' u:=by
 have hp:=c.Amc ht h6 hw ho hu hcn hpn ha.ph;obtain⟨a1,a2,a3,a4,a5,a6,a7,a8,a9,_⟩:=ha;refine⟨?_,?_,?_,?_,?_,?_,?_,?_,?_,hp⟩<;>(try rw[Ba _ _ hu]);grind [c.kp,WZ];grind [WZ]
 .exact a3
 .exact a4
 grind [c.pJ];grind [WZ]
 .exact a7
 grind [WZ]
 .exact a9
end
section
variable {T n:Nat} {A:AM} {G:Nat->Gt} {E:List Ev} {N:Int} (hl:LK T n A.sm N (λu=>B6 (G u)) (Ke n A G)) (h:MV T n A.sm (λu=>B6 (G u)) (Ke n A G) E) (h6:n<=6) {t:Nat} (ht:t<T) (hi:AL n (G t)=[])
include hl h h6 ht hi
theorem Alj:Ke n A G t=(A.th t).sw:=by
 have:=hl;have:=h;have:=h6;have:=ht;unfold Ke;rw[hi,Jr]
theorem Wk {c:Nat} (hc:c<n) {w0:Int} (hv:vw (A.th t).sw (A.sm (8+c)) (8+c)=2*w0):
  ∃v,En E c v w0/\(∀u,u<T->B6 (G u) c=Z)/\(∀u,u<T->u≠t->∀x,(c,x)∉Ke n A G u)/\vw (A.th t).sw (A.sm c) c=v:=by
 have hd:=Alj hl h h6 ht hi;by_cases hx:∃u y,u<T/\(8+c,y)∈Ke n A G u
 .obtain⟨u,y,hu,hy⟩:=hx;by_cases he:u=t
  .subst he;obtain⟨v,w,h1,h2,h3⟩:=h.todo u c y hu hc hy;have FR:vw (A.th u).sw (A.sm (8+c)) (8+c)=y:=by
    rw[hd] at hy;have GO:=hl.nd u hu;rw[hd] at GO;obtain⟨a,b,e⟩:=List.append_of_mem hy;rw[e] at GO⊢;rw[oI,Ya,Jd rfl];refine FM λu' mu=>?_
    have h5:=(QV.1 GO).2.1;rw[J8] at h5;exact h5.1 _ mu AC rfl
   rw[FR] at hv;obtain rfl:w=w0:=Y
   refine⟨v,h1,λu' mu=>?_,λu' mu hne x hx=>?_,by rw[<-hd];exact h3⟩
   .cases hH:B6 (G u') c<;>grind [LK]
   .obtain⟨u2,hu2⟩:=(h.dok u' mu).2 c x hc hx;exact hne (hl.Pu u' u c mu hu hc AC AC)
  .have SN:∀v,(8+c,v)∉(A.th t).sw:=λv Xu=>he (hl.Pu u t c hu ht hc AC AC)
   rw[FM SN] at hv;grind [LK]
 .have SN:∀v,(8+c,v)∉(A.th t).sw:=AC;rw[FM SN] at hv;have Xy:∀u,u<T->B6 (G u) c=Z/\∀v,(8+c,v)∉Ke n A G u:=λu hu=>by
   refine⟨?_,AC⟩;cases hH:B6 (G u) c<;>grind [LK]
  obtain⟨v,w,h1,h2,h3⟩:=h.free c hc Xy;obtain rfl:w=w0:=Y
  have hnc:∀u,u<T->∀x,(c,x)∉Ke n A G u:=λu hu x DT=>by
   grind [(h.dok u hu).2 c x hc DT]
  grind [FM]
theorem Aas {c:Nat} (hc:c<n) (SN:∀u,u<T->u≠t->∀x,(c,x)∉Ke n A G u) {v w:Int} (ho:iM E) (Ui:En E c v w):vw (A.th t).sw (A.sm c) c=v:=by
 have hd:=Alj hl h h6 ht hi;have huq:∀{v' w':Int},En E c v' w'->v'=v:=λh'=>(h'.fP ho Ui).1
 by_cases hx:∃u y,u<T/\(8+c,y)∈Ke n A G u
 .obtain⟨u,y,hu,hy⟩:=hx;obtain⟨v',w',h1,h2,h3⟩:=h.todo u c y hu hc hy;rw[huq h1] at h3;by_cases he:u=t;grind
  .rw[FM AC] at h3;rw[FM λx hx=>?_]
   .exact h3
   .obtain⟨u2,hu2⟩:=(h.dok t ht).2 c x hc (by rw[hd];exact hx);exact he (hl.Pu u t c hu ht hc AC AC)
 .have gU:∀x,(c,x)∉(A.th t).sw:=λx DT=>by
   obtain⟨u2,hu2⟩:=(h.dok t ht).2 c x hc (by rw[hd];exact DT)<;>grind
  rw[FM gU];by_cases hy:∃u lv,u<T/\B6 (G u) c=U lv;grind [MV]
  .obtain⟨v',w',h1,h2,h3⟩:=h.free c hc λu hu=>⟨by
      cases hH:B6 (G u) c<;>grind,AC⟩
   rw[h3];grind
end
theorem wY {T:Nat} (hxn:x.n=n) (ha:L0 x (G u) lt) (hp:Dt (G u)=V) {c:Nat} (hc:c<n) (hh:B6 (G u) c=Z):(G u).q.A5 c=Z:=by
 unfold Dt at hp;split at hp
 .rename_i d BM;have h1:=(WT ha).1 AC c Y;have h2:B6 (G u)=(G u).BE:=KE (by unfold Db;rw[BM]);rw[<-h2,hh,JC Y,Qo] at h1;cases hm:(G u).q.A5 c<;>grind
 .cases hp
theorem WI.of {h h':GH} (w:WI T n A G h) (c:WZ T n A A' G t g' h h') (ht:t<T) (h6:n<=6)
  (hcn:∀u,u<T->u≠t->(∀c lv,(G u).ph=.F2 c lv->c<n)/\∀c lv y,(G u).ph=.Gw c lv y->c<n)
  (mv:MV T n A'.sm (λu=>B6 (A7 G t g' u)) (Ke n A' (A7 G t g')) h'.E)
  (hσ:∀w,A.sm 16<w->w<=A'.sm 16->h'.σ w<h'.Du/\∀w',1<=w'->w'<w->h'.σ w'<h'.σ w)
  (Uh:∀e0,h'.E=e0::h.E->e0.τ<h'.Du/\e0.k<=A'.sm 16/\KP h'.σ (A'.sm 16) e0.k e0.τ/\nV T (A7 G t g') h'.E e0.k e0.rd/\∀w,e0.w=U w->(e0.k=w-1/\e0.τ=h'.σ w/\1<=w/\w<=A'.sm 16)/\∀e,e∈h.E->e.w≠U w)
  (pn:Dt g'=V->1<=g'.wv/\g'.wv<=A'.sm 16/\(∀e,e∈h'.E->e.w≠U g'.wv)/\∀u,u<T->u≠t->Dt (G u)=V->(G u).wv≠g'.wv)
  (ac:ET g'=V->g'.rv<=A'.sm 16/\oq T n A' (A7 G t g') h' t):WI T n A' (A7 G t g') h':=by
 have Fi:∀e,e∈h.E->∀x,e.w=U x->1<=x:=λe he x hx=>((w.ev e he).2.2.2.2 x hx).2.2.1
 have Aim:iM h'.E:=by
  rcases c.E with e|⟨e0,e,_⟩;grind [WI]
  .have h0:=(Uh e0 e).2.2.2.2;rw[e];intro a b ha hb x hax SP;cases ha with
   |head=>grind
   |tail _ ha=>cases hb with
    |head=>exact Jk hax ((h0 x SP).2 a ha)
    |tail _ hb=>exact w.Pu a b ha hb x hax SP
 have hN:=c.N;have Afy:=c.Du;refine⟨mv,λx h1 h2=>?_,λx y h1 h2 h3=>?_,Aim,λe he=>?_,λu hu hp=>?_,λu hu ha=>?_⟩;grind [WI,WZ];grind [WI,WZ]
 .have hold:e∈h.E->e.τ<h'.Du/\e.k<=A'.sm 16/\KP h'.σ (A'.sm 16) e.k e.τ/\nV T (A7 G t g') h'.E e.k e.rd/\∀x,e.w=U x->e.k=x-1/\e.τ=h'.σ x/\1<=x/\x<=A'.sm 16:=λhe=>by
   grind [c.kp,c.pJ,WI,WZ]
  rcases c.E with e1|⟨e0,e1,_⟩<;>grind
 .by_cases he:u=t;grind [Au,Ba]
  .rw[Ba _ _ he] at hp⊢;obtain⟨p1,p2,p3,p4⟩:=w.pn u hu hp;refine⟨p1,Y,λe hee=>?_,λu' mu hne XI=>?_⟩;grind [c.E]
   .by_cases BG:u'=t<;>grind [Au,Ba]
 .by_cases he:u=t;grind [Au];grind [Ba,c.acT,hcn u hu he,WI]
inductive CH (t:Nat) (s0:KS):List Ev->KS->List Int->Nat->Prop
 |nil:CH t s0 [] s0 [] 0
 |skip {e:Ev} {E:List Ev} {q:KS} {o:List Int} {l:Nat} (h:e.t≠t) (k:CH t s0 E q o l):CH t s0 (e::E) q o l
 |DU {e:Ev} {E:List Ev} {q:KS} {o:List Int} {l:Nat} (h:e.t=t) (k:CH t s0 E q o l) (ko:Ff q e.q) (b:Dl e.q) (kt:IC e.rd (Cw e.q) e.q2) (hs:e.q2.s=.nil) (hk:∃b s k,e.q2.k=.Ao b s k) (hm:e.w=Z->∀c,e.q2.A5 c=Z):CH t s0 (e::E) (BR e.q e.q2) (o++e.q.o++e.q2.o) (o++e.q.o).length
inductive GG (t:Nat) (s0:KS):List Ev->List Int->Int->Prop
 |skip {e:Ev} {E:List Ev} {o:List Int} {r:Int} (h:e.t≠t) (k:GG t s0 E o r):GG t s0 (e::E) o r
 |CS {e:Ev} {E:List Ev} {q:KS} {o:List Int} {r:Int} {l:Nat} (h:e.t=t) (k:CH t s0 E q o l) (ko:Ff q e.q) (b:Dl e.q) (kt:IC e.rd (Cw e.q) e.q2) (ht:Br e.q2=U r) (hw:e.w=Z):GG t s0 (e::E) (o++e.q.o) r
def M5 (s0:KS) (E:List Ev) (t:Nat) (g:Gt) (out:List Int):Prop:=match g.ph with
 |.pu _=>∃o,CH t s0 E (BR g.q0 g.q) (o++g.q.o) (J o)/\out=o
 |.fr _=>∃o,CH t s0 E (BR g.q0 g.q) (o++g.q.o) (J o)/\out=o
 |.te i=>∃o,CH t s0 E (BR g.q0 g.q) (o++g.q.o) (J o)/\out=o++g.q.o.take i
 |.node=>(g.q.k.C7=I/\∃q o l,CH t s0 E q o l/\Ff q g.q/\out=o++g.q.o)\/(g.q.k.C7=V/\∃r,GG t s0 E out r/\Br g.q=U r)
 |_=>Dl g.q0/\∃q o l,CH t s0 E q o l/\Ff q g.q0/\out=o++g.q0.o
theorem CH.le (h:CH t s0 E q o l):l<=J o:=by
 induction h<;>grind
theorem CH.L9 (h:CH t s0 E q o l) (hE:E'=E\/∃e0,E'=e0::E/\e0.t≠t):CH t s0 E' q o l:=by
 grind [skip]
theorem GG.L9 {r:Int} (h:GG t s0 E o r) (hE:E'=E\/∃e0,E'=e0::E/\e0.t≠t):GG t s0 E' o r:=by
 grind [skip]
theorem M5.L9 (h:M5 s0 E t g out) (hE:E'=E\/∃e0,E'=e0::E/\e0.t≠t):M5 s0 E' t g out:=by
 unfold M5 at h⊢;cases hp:g.ph<;>rw[hp] at h<;>dsimp only at h⊢;all_goals first
  |(obtain⟨o,h1,h2⟩:=h;exact⟨o,h1.L9 hE,h2⟩)
  |(obtain⟨h0,q,o,l,h1,h2⟩:=h;exact⟨h0,q,o,l,h1.L9 hE,h2⟩)
  | (rcases h with⟨h0,q,o,l,h1,h2⟩ | ⟨h0,r,h1,h2⟩
     grind [h1.L9 hE];grind [h1.L9])
def nA (A:AM) (t:Nat) (e:Ek):AM:=⟨mE A.sm e,A7 A.th t (tE A.sm (A.th t) e)⟩
theorem Vi (A:AM) (t:Nat) (e:Ek):(nA A t e).th t=tE A.sm (A.th t) e:=Au _ _ _
theorem eV (n:Nat) (A:AM) (G:Nat->Gt) (t:Nat) (e:Ek) (g':Gt):Ke n (nA A t e) (A7 G t g')=A7 (Ke n A G) t ((tE A.sm (A.th t) e).sw++AL n g'):=YI A G t _ g'
section
variable {T n:Nat} {A:AM} {G:Nat->Gt} {t:Nat} {h:GH} {e:Ek} {g':Gt} (w:WI T n A G h) (h6:n<=6) (ht:t<T)
 (hcn:∀u,u<T->u≠t->(∀c lv,(G u).ph=.F2 c lv->c<n)/\∀c lv y,(G u).ph=.Gw c lv y->c<n)
include w h6 ht hcn
theorem X9 (hm:mE A.sm e=A.sm) (hH:B6 g'=B6 (G t)) (hD:(tE A.sm (A.th t) e).sw++AL n g'=Ke n A G t) {E':List Ev} {pc':Nat->Nat} (Tm:∀u,u≠t->pc' u=h.pc u)
  (hE:E'=h.E\/∃e0,E'=e0::h.E/\e0.t=t/\e0.w=Z/\e0.τ<=h.Du/\e0.k<=A.sm 16/\KP h.σ (A.sm 16) e0.k e0.τ/\nV T G h.E e0.k e0.rd)
  (hp:Dt g'=V->Dt (G t)=V/\g'.wv=(G t).wv/\g'.q.A5=(G t).q.A5)
  (ac:∀c:WZ T n A (nA A t e) G t g' h ⟨E',pc',h.σ,h.Du+1⟩,ET g'=V->g'.rv<=A.sm 16/\oq T n (nA A t e) (A7 G t g') ⟨E',pc',h.σ,h.Du+1⟩ t):
  WI T n (nA A t e) (A7 G t g') ⟨E',pc',h.σ,h.Du+1⟩:=by
 have bZ:(nA A t e).sm 16=A.sm 16:=congrFun hm 16;have c:WZ T n A (nA A t e) G t g' h ⟨E',pc',h.σ,h.Du+1⟩:=by
  refine⟨Y,λ_ _=>rfl,λw' h1 h2=>Y,JJ _,Tm,λu hu=>Ba _ _ hu,?_,λYq=> .inr (hp Yq),λc x _ hx=> .inl ?_⟩<;>grind [Vi]
 have Ui:∀c v w',En h.E c v w'->En E' c v w':=λc v w' hc=>by
  rcases hE with e1|⟨e0,e1,e2,e3,_⟩
  .rw[e1];exact hc
  .rw[e1];exact hc.cons λw2 No=>by have:=No.1;rw[e3] at this;cases this
 refine w.of c ht h6 hcn ?_ (λw' h1 h2=>Y) (λe0 Uh=>?_) (λYq=>?_) λha=>?_
 .rw[eV,hD,Oq,hH,Dn (λu=>B6 (G u)),Dn];show MV T n (mE A.sm e) _ _ E';rw[hm];exact w.mv.mono λc v w' _=>Ui c v w'
 .rcases hE with e1|⟨e1',e1,e2,e3,e4,e5,e6,e7⟩
  .have:=JM List.length (e1.symm.trans Uh);rw[Jg] at this;omega
  .have:e1'=e0:=by have:=e1.symm.trans Uh;injection this
   subst this;exact⟨Nat.lt_succ_of_le e4,by rw[bZ];exact e5,c.kp e6 e5 e4,c.pJ ht e7 e5,λw' K7=>by rw[e3] at K7;cases K7⟩
 .obtain⟨p1,p2,p3⟩:=hp Yq;obtain⟨a1,a2,a3,a4⟩:=w.pn t ht p1;refine⟨by rw[p2];exact a1,by rw[bZ,p2];exact a2,λe1 FA=>?_,λu hu hne hpu=>by rw[p2];exact a4 u hu hne hpu⟩;rw[p2];rcases hE with e2|⟨e0,e2,_,e3,_⟩
  .rw[show(⟨E',pc',h.σ,h.Du+1⟩:GH).E=E' from rfl,e2] at FA;exact a3 e1 FA
  .rw[show(⟨E',pc',h.σ,h.Du+1⟩:GH).E=E' from rfl,e2] at FA;cases FA with
   |head=>rw[e3];intro hx;cases hx
   |tail _ FA=>exact a3 e1 FA
 .obtain⟨a1,a2⟩:=ac c ha;exact⟨by rw[bZ];exact a1,a2⟩
end
theorem AgE (hi:q.k.C7=I) (h:OY rd q=U r):r.o=q.o:=by
 grind [OY,Option.map_eq_some_iff]
theorem IC.AeQ (h:IC rd q r) (hi:q.k.C7=I):r.o=q.o:=by
 induction h<;>grind [Ly,AgE]
theorem Sg (q:KS):Dt (DN q)=I:=by
 unfold Dt DN;cases q.s<;>rfl
theorem U9 (h:CH t s0 E q o l) (k:Ff q q2) (hi:q2.k.C7=I):M5 s0 E t (DN q2) (o++q2.o):=by
 unfold M5 DN;cases hs:q2.s<;>dsimp only;case atomic b s=>exact⟨⟨b,s,hs⟩,q,o,l,h,k,rfl⟩
 all_goals exact .inl ⟨hi,q,o,l,h,k,rfl⟩
def NPk:KK->Prop
 |.done=>True
 |.rest s k=>BV s=I/\NPk k
 |.loop b s k=>BV b=I/\BV s=I/\NPk k
 |.Ao .. =>True
theorem Ah3 (h:OY rd q=U r) (h1:BV q.s=I) (h2:NPk q.k) (h3:q.A5=D9):BV r.s=I/\NPk r.k/\r.A5=D9:=by
 unfold OY at h;split at h
 .split at h
  .rename_i hk;cases h;rw[hk] at h2;exact⟨h2.1,h2.2,h3⟩
  .rename_i hk;have h2':=h2;rw[hk] at h2';split at h
   .cases h;exact⟨h2'.2.1,h2'.2.2,h3⟩
   .cases h;exact⟨h2'.1,h2,h3⟩
  .cases h
 .rename_i hs;rw[hs] at h1;simp only[Ji] at h;obtain⟨_,_,rfl⟩:=h;exact⟨h1,h2,h3⟩
 .rename_i hs;rw[hs] at h1;split at h
  .cases h
  .simp only[Ji] at h;obtain⟨_,_,rfl⟩:=h;exact⟨h1,h2,h3⟩
 .rename_i hs;rw[hs] at h1;cases h1
 .rename_i hs;rw[hs] at h1;split at h
  .cases h;exact⟨h1,h2,h3⟩
  .cases h
 .rename_i hs;rw[hs] at h1;obtain⟨a1,a2⟩:=Bool.or_eq_false_iff.1 h1;cases h;split;grind
  .exact⟨a1,⟨a2,h2⟩,h3⟩
 .rename_i hs;rw[hs] at h1;obtain⟨a1,a2⟩:=Bool.or_eq_false_iff.1 h1;cases h;exact⟨a1,⟨a1,a2,h2⟩,h3⟩
 .cases h
theorem AeV {b:Bj} (e:q.s=.atomic b s) (hp:BV b=I) (h:IC rd (Cw q) q2):∀c,q2.A5 c=Z:=by
 have:∀{q q2:KS},IC rd q q2->BV q.s=I->NPk q.k->q.A5=D9->q2.A5=D9:=λ{q q2} h=>by
  induction h<;>grind [Ah3]
 rw[this h (by rw[Gn e];exact hp) (by rw[Gn e];trivial) (by rw[Gn e])];exact λ_=>rfl
theorem AeH {b:Bj} (r:sV n b g g') (hl:g.BE=D9) {s1:Bj} (Ix:g.q0.s=.atomic b s1) (Px:g.q0.k.C7=I) (hi:g.q.k.C7=V):
  (ET g'=V/\Dt g'=I/\g'.q0=g.q0/\g'.rd=g.rd/\g'.BE=D9/\g'.rv=g.rv/\IC D9 g.q g'.q/\(∀T n A G E t,G t=g'->NM T n A G E t)/\∀s0 E t out,M5 s0 E t g' out<->Dl g'.q0/\∃q o l,CH t s0 E q o l/\Ff q g'.q0/\out=o++g'.q0.o)\/
  (ET g'=I/\Dt g'=I/\∃q',IC D9 g.q q'/\∀(s0:KS) (E:List Ev) (e0:Ev) (t:Nat) (q:KS) (o:List Int) (l:Nat),CH t s0 E q o l->Ff q g.q0->e0.t=t->e0.q=g.q0->e0.q2=q'->e0.w=Z->IC e0.rd (Cw g.q0) q'->M5 s0 (e0::E) t g' (o++g.q0.o)):=by
 have hb:Dl g.q0:=⟨b,s1,Ix⟩;cases r with
 |CS q' k ht=>
  refine .inr ⟨rfl,rfl,q',k,λs0 E e0 t q o l hh ko e1 e2 e3 e4 kt=>?_⟩;obtain⟨r,hr⟩:=Option.ne_none_iff_exists'.1 ht;refine .inr ⟨k.C7.trans hi,r,?_,hr⟩<;>grind [GG.CS]
 |get q' c k=>exact .inl ⟨rfl,rfl,rfl,rfl,hl,rfl,k,λT n A G E t hG=>by grind [NM],λ_ _ _ _=>Iff.rfl⟩
 |Wm q' g' k hs hp hr=>
  cases hr with
  |lk c' _ _ _ _=>exact .inl ⟨rfl,rfl,rfl,rfl,hl,rfl,k,λT n A G E t hG=>by grind [NM],λ_ _ _ _=>Iff.rfl⟩
  |xa _=>exact .inl ⟨rfl,rfl,rfl,rfl,hl,rfl,k,λT n A G E t hG=>by grind [NM],λ_ _ _ _=>Iff.rfl⟩
 |GR q' g' k hs hp hr=>
  have B0:∀(s0:KS) (E:List Ev) (e0:Ev) (t:Nat) (q:KS) (o:List Int) (l:Nat),CH t s0 E q o l->Ff q g.q0->e0.t=t->e0.q=g.q0->e0.q2=q'->IC e0.rd (Cw g.q0) q'->CH t s0 (e0::E) (BR g.q0 q') (o++g.q0.o++q'.o) (o++g.q0.o).length:=λs0 E e0 t q o l hh ko e1 e2 e3 kt=>by
   have:=CH.DU (o:=o) e1 hh (by rw[e2];exact ko) (by rw[e2];exact hb) (by rw[e2,e3];exact kt) (by rw[e3];exact hs.1) (by rw[e3];exact hs.2) (λ_=>by rw[e3];grind [AeV]);rw[e2,e3] at this;exact this
  cases hr with
  |te hlt=>
   refine .inr ⟨rfl,rfl,q',k,λs0 E e0 t q o l hh ko e1 e2 e3 _ kt=>⟨o++g.q0.o,AC,?_⟩⟩;show _=_++q'.o.take 0;rw[Q9,Jr]
  |out q2 hlen k2=>
   refine .inr ⟨P7 q2,Sg q2,q',k,λs0 E e0 t q o l hh ko e1 e2 e3 _ kt=>?_⟩;have h1:=B0 s0 E e0 t q o l hh ko e1 e2 e3 kt;have ha:(BR g.q0 q').k.C7=I:=by rw[GC Ix];exact Px
   have ho:q'.o=[]:=AC;have XK:q2.o=[]:=(k2.AeQ ha).trans (by rw[GC Ix]);have:=U9 h1 k2.Afp (k2.C7.trans ha);rw[ho,XK,Jr,Jr] at this;exact this
theorem dr (h:CH t s0 E (BR g.q0 g.q) (o++g.q.o) (J o)) (r:Lp g i g') (hb:Dl g.q0) (Px:g.q0.k.C7=I):M5 s0 E t g' (o++g.q.o.take i):=by
 obtain⟨b,s,e⟩:=hb;cases r with
 |te hlt=>exact⟨o,h,rfl⟩
 |out q2 hlen k2=>
  have ha:(BR g.q0 g.q).k.C7=I:=by rw[GC e];exact Px
  have XK:q2.o=[]:=(k2.AeQ ha).trans (by rw[GC e]);have:=U9 h k2.Afp (k2.C7.trans ha);rw[XK,Jr] at this;rw[hlen,Qw];exact this
theorem dw {c:Nat} (h:CH t s0 E (BR g.q0 g.q) (o++g.q.o) (J o)) (r:My n g c g') (hb:Dl g.q0) (Px:g.q0.k.C7=I):M5 s0 E t g' o:=by
 cases r with
 |fr c' _ _ _ _=>exact⟨o,h,rfl⟩
 |stop g' _ k=>have:=dr h k hb Px;rw[Q9,Jr] at this;exact this
theorem lj {c:Nat} (h:CH t s0 E (BR g.q0 g.q) (o++g.q.o) (J o)) (r:Uv n g c g') (hb:Dl g.q0) (Px:g.q0.k.C7=I):M5 s0 E t g' o:=by
 cases r with
 |pu c' _ _ _ _=>exact⟨o,h,rfl⟩
 |stop g' _ k=>grind [dw]
theorem dz {c:Nat} (h:Dl g.q0/\∃q o l,CH t s0 E q o l/\Ff q g.q0/\out=o++g.q0.o) (r:Fk n g c g'):M5 s0 E t g' out:=by
 cases r with
 |ba c' _ _ _ _=>exact h
 |Po _=>exact h
theorem Lp.Dt (r:Lp g i g'):Dt g'=I:=by
 cases r with
 |te _=>rfl
 |out q2 _ _=>exact Sg q2
theorem My.Dt {c:Nat} (r:My n g c g'):Dt g'=I:=by
 cases r with
 |fr _ _ _ _ _=>rfl
 |stop g' _ k=>exact k.Dt
theorem Uv.Dt {c:Nat} (r:Uv n g c g'):Dt g'=I:=by
 cases r with
 |pu _ _ _ _ _=>rfl
 |stop g' _ k=>exact k.Dt
theorem Fk.Dt {c:Nat} (r:Fk n g c g'):Dt g'=I:=by cases r<;>rfl
def Dec (G:Nat->Gt) (t:Nat) (h h':GH) (g':Gt):Prop:=
 (∀e0,h'.E=e0::h.E->ET g'=I/\(e0.τ=h.Du\/(ET (G t)=V/\h.pc t<=e0.τ/\e0.q=(G t).q0)))/\(ET g'=V->h.Du<=h'.pc t\/(ET (G t)=V/\h'.pc t=h.pc t/\g'.q0=(G t).q0))/\∀u,u≠t->h'.pc u=h.pc u
theorem O9 {α:Type} {l:List α} {a:α} (h:l=a::l):False:=by
 have:=JM List.length h;rw[Jg] at this;omega
def Mv (T n:Nat) (A:AM) (G:Nat->Gt) (t:Nat) (h:GH) (e:Ek) (g':Gt):Prop:=
 ∃h':GH,WI T n (nA A t e) (A7 G t g') h'/\(h'.E=h.E\/∃e0,h'.E=e0::h.E/\e0.t=t)/\h.Du<h'.Du/\(∀s0,M5 s0 h.E t (G t) (A.th t).out->M5 s0 h'.E t g' (tE A.sm (A.th t) e).out)/\Dec G t h h' g'
section
variable {T n:Nat} {A:AM} {G:Nat->Gt} {t:Nat} {h:GH} {e:Ek} {g':Gt} (w:WI T n A G h) (h6:n<=6) (ht:t<T)
 (hcn:∀u,u<T->u≠t->(∀c lv,(G u).ph=.F2 c lv->c<n)/\∀c lv y,(G u).ph=.Gw c lv y->c<n)
 {x:Cx} (hxn:x.n=n) {lt:LT} (ha:L0 x (G t) lt) (he:PN (G t)=U e)
include w h6 ht hcn
theorem Vj (hm:mE A.sm e=A.sm) (hH:B6 g'=B6 (G t)) (hD:(tE A.sm (A.th t) e).sw++AL n g'=Ke n A G t) (hp:Dt g'=I) (hac:ET g'=I) (Ex:∀s0,M5 s0 h.E t (G t) (A.th t).out->M5 s0 h.E t g' (tE A.sm (A.th t) e).out):Mv T n A G t h e g':=
 ⟨⟨h.E,h.pc,h.σ,h.Du+1⟩,X9 w h6 ht hcn hm hH hD AC AC AC AC,AC,AC,Ex,λ_ h=>(O9 h).elim,AC,AC⟩
theorem AbR (hm:mE A.sm e=A.sm) (rK:(tE A.sm (A.th t) e).sw=(A.th t).sw) (hH:B6 g'=B6 (G t)) (hi:AL n (G t)=[]/\AL n g'=[]) (hp:Dt g'=I) (Mp:ET (G t)=V) (e1:g'.q0=(G t).q0) (e2:g'.q=(G t).q) (e3:g'.rd=(G t).rd) (e4:g'.BE=(G t).BE) (e5:g'.rv=(G t).rv)
  (BM:NM T n (nA A t e) (A7 G t g') h.E t) (Ex:∀s0,M5 s0 h.E t (G t) (A.th t).out->M5 s0 h.E t g' (tE A.sm (A.th t) e).out):Mv T n A G t h e g':=by
 refine⟨⟨h.E,h.pc,h.σ,h.Du+1⟩,X9 w h6 ht hcn hm hH ?_ AC AC AC λc _=>?_,AC,AC,Ex,λ_ h=>(O9 h).elim,AC,AC⟩;grind [Ke]
 .obtain⟨b1,a1,a2,a3,a4,a5,a6,a7,a8,a9,_⟩:=w.ac t ht Mp;refine⟨by rw[e5];exact b1,?_,AC,?_,?_,?_,a6,?_,?_,?_,BM⟩;grind [Au,c.kp];grind [Au];grind [Au];grind [Au,c.pJ]
  .rw[Au,e4,e5];exact a7
  .rw[Au,e4,Vi,rK];exact a8
  .rw[Au,e3];exact a9
include ha he hxn
theorem AhU (BM:(G t).ph=.node) (hs:∀s,e≠ .stop s) {q':KS} (k:IC D9 (KI (G t).q) q'):Mv T n A G t h e (DN q'):=by
 have _:=hxn;have _:=ha;have hi:=EK n q';have BG:=he;unfold PN at BG;rw[BM] at BG;have hx:∃a r,(G t).q.s=.out a r/\(G t).q.k.C7=I/\e=.out (DW (G t).q.L a):=by
  grind [Option.map_eq_some_iff]
 obtain⟨a,r,hsq,hib,rfl⟩:=hx;refine Vj w h6 ht hcn rfl ?_ ?_ (Sg q') (P7 q') λs0 Ex=>?_
 grind [DD,Db]
 .rw[hi.2.1];unfold Ke;rw[show AL n (G t)=[] by unfold AL;rw[BM]];rfl
 .unfold M5 at Ex;rw[BM] at Ex;rcases Ex with⟨_,q,o,l,h1,h2,h3⟩|⟨h0,_⟩
  .have hk:(KI (G t).q).k=(G t).q.k:=by unfold KI;rw[hsq]
   have ho:(KI (G t).q).o=(G t).q.o++[DW (G t).q.L a]:=by unfold KI;rw[hsq]
   have MU:(KI (G t).q).k.C7=I:=by rw[hk];exact hib
   have:=U9 h1 (h2.trans (.out hsq hib k.Afp)) (k.C7.trans MU);rw[k.AeQ MU,ho,<-Jj,<-h3] at this;exact this
  grind
theorem AjV (BM:(G t).ph=.te i) (r:Lp (G t) (i+1) g'):Mv T n A G t h e g':=by
 have _:=hxn;have BG:=he;unfold PN at BG;rw[BM] at BG;replace BG:((G t).q.o[i]?).map Ek.out=U e:=BG;rw[Ji] at BG;obtain⟨u,hu,rfl⟩:=BG;obtain⟨i1,i2,_⟩:=r.UE (n:=n);have Uj:=ha;unfold L0 at Uj;rw[BM] at Uj;obtain⟨b,s,ab,p,hc,_⟩:=Uj;refine Vj w h6 ht hcn rfl ?_ ?_ r.Dt r.ET λs0 Ex=>?_
 grind [DD,Db]
 .rw[i2];unfold Ke;rw[show AL n (G t)=[] by unfold AL;rw[BM]];rfl
 .unfold M5 at Ex;rw[BM] at Ex;obtain⟨o,h1,h2⟩:=Ex;have:=dr h1 r ⟨b,s,hc.Ao.oA⟩ hc.Ao.nb;show M5 s0 h.E t g' ((A.th t).out++[u]);rw[h2,Jj];rw[show(G t).q.o.take i++[u]=(G t).q.o.take (i+1) by rw[List.take_add_one,hu];rfl];exact this
theorem AjW {c:Nat} (BM:(G t).ph=.pu c) (r:Uv n (G t) (c+1) g'):Mv T n A G t h e g':=by
 have BG:=he;unfold PN at BG;rw[BM] at BG;replace BG:((G t).q.A5 c).map (Ek.st c ·)=U e:=BG;rw[Ji] at BG;obtain⟨u,hu,rfl⟩:=BG;obtain⟨i1,i2,_⟩:=r.UE;have Uj:=ha;unfold L0 at Uj;rw[BM] at Uj;obtain⟨hc,uD,_,b,s,ab,p,Yr,_⟩:=Uj;refine Vj w h6 ht hcn rfl ?_ ?_ r.Dt r.ET λs0 Ex=>?_
 grind [DD,Db]
 .rw[i2];unfold Ke;rw[show AL n (G t)=KD (EO (G t)) n c++KD (D1 (G t)) n 0 by unfold AL;rw[BM],GX (EO (G t)) (show c<n by omega),show EO (G t) c=U (c,u) by unfold EO;rw[hu];rfl];show((A.th t).sw++[(c,u)])++_=_;simp
 .unfold M5 at Ex;rw[BM] at Ex;obtain⟨o,h1,h2⟩:=Ex;show M5 s0 h.E t g' (A.th t).out;rw[h2];exact lj h1 r ⟨b,s,Yr.Ao.oA⟩ Yr.Ao.nb
theorem AjX {c:Nat} (BM:(G t).ph=.fr c) (r:My n (G t) (c+1) g'):Mv T n A G t h e g':=by
 have BG:=he;unfold PN at BG;rw[BM] at BG;cases BG;obtain⟨i1,i2,_⟩:=r.UE;have Uj:=ha;unfold L0 at Uj;rw[BM] at Uj;obtain⟨hc,uD,_,b,s,ab,p,Yr,_⟩:=Uj;refine Vj w h6 ht hcn rfl ?_ ?_ r.Dt r.ET λs0 Ex=>?_
 grind [DD,Db]
 .rw[i2];unfold Ke;rw[show AL n (G t)=KD (D1 (G t)) n c by unfold AL;rw[BM],GX (D1 (G t)) (show c<n by omega),show D1 (G t) c=U (8+c,2*(G t).wv) by unfold D1;rw[Jd uD]];show((A.th t).sw++[(8+c,2*(G t).wv)])++_=_;simp
 .unfold M5 at Ex;rw[BM] at Ex;obtain⟨o,h1,h2⟩:=Ex;show M5 s0 h.E t g' (A.th t).out;rw[h2];exact dw h1 r ⟨b,s,Yr.Ao.oA⟩ Yr.Ao.nb
theorem AjY {c:Nat} (BM:(G t).ph=.ba c) (r:Fk n (G t) (c+1) g'):Mv T n A G t h e g':=by
 have BG:=he;unfold PN at BG;rw[BM] at BG;replace BG:((G t).BE c).map (Ek.st (8+c) ·)=U e:=BG;rw[Ji] at BG;obtain⟨u,hu,rfl⟩:=BG;obtain⟨i1,i2,_⟩:=r.UE;have Uj:=ha;unfold L0 at Uj;rw[BM] at Uj;obtain⟨hc,_⟩:=Uj;refine Vj w h6 ht hcn rfl ?_ ?_ r.Dt r.ET λs0 Ex=>?_
 grind [DD,Db]
 .rw[i2];unfold Ke;rw[show AL n (G t)=KD (Fc (G t)) n c by unfold AL;rw[BM],GX (Fc (G t)) (show c<n by omega),show Fc (G t) c=U (8+c,u) by unfold Fc;rw[hu];rfl];show((A.th t).sw++[(8+c,u)])++_=_;simp
 .unfold M5 at Ex;rw[BM] at Ex;exact dz Ex r
end
theorem Na (Mp:ET g=V) (h1:M5 s0 E t g out):Dl g.q0/\∃q o l,CH t s0 E q o l/\Ff q g.q0/\out=o++g.q0.o:=by
 unfold M5 at h1;unfold ET at Mp;cases hp:g.ph<;>rw[hp] at h1 Mp<;>first|exact h1|cases Mp
section
variable {T n:Nat} {A:AM} {G:Nat->Gt} {t:Nat} {h:GH} {e:Ek} {g':Gt} (w:WI T n A G h) (h6:n<=6) (ht:t<T)
 (hcn:∀u,u<T->u≠t->(∀c lv,(G u).ph=.F2 c lv->c<n)/\∀c lv y,(G u).ph=.Gw c lv y->c<n)
 (hl:LK T n A.sm (A.sm 16) (λu=>B6 (G u)) (Ke n A G))
include w h6 ht hcn
theorem Ae0 (hl:LK T n A.sm (A.sm 16) (λu=>B6 (G u)) (Ke n A G)) (hm:mE A.sm e=A.sm) (rK:(tE A.sm (A.th t) e).sw=(A.th t).sw) (XJ:(tE A.sm (A.th t) e).out=(A.th t).out) (Mp:ET (G t)=V) (hi:AL n (G t)=[]) (hH:B6 (G t)=(G t).BE) (r:Fk n (G t) 0 g')
  (Ex:∀s0,M5 s0 h.E t (G t) (A.th t).out->Dl (G t).q0/\∃q o l,CH t s0 h.E q o l/\Ff q (G t).q0/\(A.th t).out=o++(G t).q0.o):Mv T n A G t h e g':=by
 obtain⟨i1,i2,_⟩:=r.UE;have bZ:(nA A t e).sm 16=A.sm 16:=congrFun hm 16;obtain⟨_,ac⟩:=w.ac t ht Mp;have hDt:Ke n A G t=(A.th t).sw:=by unfold Ke;rw[hi,Jr]
 have hD':Ke n (nA A t e) (A7 G t g')=A7 (Ke n A G) t (Ke n A G t++KD (Fc (G t)) n 0):=by rw[eV,rK,i2,hDt]
 have c:WZ T n A (nA A t e) G t g' h ⟨h.E,h.pc,h.σ,h.Du+1⟩:=by
  refine⟨Y,AC,AC,AC,AC,λu hu=>Ba _ _ hu,AC,λYq=>(by rw[r.Dt] at Yq;cases Yq),λc x hc hx=> .inl ?_⟩;rw[Vi,rK,i2] at hx;rcases Jq.1 hx with hx|hx;grind
  .obtain⟨d,_,_,h3⟩:=CY.1 hx;have:c=8+d:=WS _ d _ h3;omega
 refine⟨_,w.of c ht h6 hcn ?_ AC (λe0 Uh=>?_) (λYq=>by rw[r.Dt] at Yq;cases Yq) (λha=>by rw[r.ET] at ha;cases ha),AC,AC,λs0 h0=>?_,λ_ h=>(O9 h).elim,λh=>(by rw[r.ET] at h;cases h),AC⟩
 .rw[hD',Oq,i1];show MV T n (mE A.sm e) _ _ h.E;rw[hm];grind [MV.Alp,WI,oq]
 grind [List.length_cons];grind [dz]
variable {x:Cx} (hxn:x.n=n) {lt:LT} (ha:L0 x (G t) lt)
include hxn ha
omit hxn ha in
theorem AbQ (hm:mE A.sm e=A.sm) (rK:(tE A.sm (A.th t) e).sw=(A.th t).sw) (XJ:(tE A.sm (A.th t) e).out=(A.th t).out) (hi:AL n (G t)=[]) (hH:B6 (G t)=D9) {b:Bj} {g1:Gt} (r:sV n b g1 g') (Le:g1.BE=D9) {s1:Bj} (Ix:g1.q0.s=.atomic b s1) (Px:g1.q0.k.C7=I) (hib:g1.q.k.C7=V)
  (hrv:g1.rv<=A.sm 16) {τ:Nat} (hτ:τ<=h.Du) (mH:KP h.σ (A.sm 16) g1.rv τ) (hch:IC g1.rd (Cw g1.q0) g1.q) (Vx:nV T G h.E g1.rv g1.rd) (Amx:∀c v,g1.rd c=U v->c<n) (Vw:∀e,e∈h.E->e.t=t->e.τ<τ) (hτ2:τ=h.Du\/(ET (G t)=V/\τ=h.pc t/\g1.q0=(G t).q0))
  (Ex:∀s0,M5 s0 h.E t (G t) (A.th t).out->∃q o l,CH t s0 h.E q o l/\Ff q g1.q0/\(A.th t).out=o++g1.q0.o):Mv T n A G t h e g':=by
 obtain⟨i1,i2,_⟩:=r.UE Le;have hD:(tE A.sm (A.th t) e).sw++AL n g'=Ke n A G t:=by rw[rK,i2];unfold Ke;rw[hi]
 have hH':B6 g'=B6 (G t):=by rw[i1,hH]
 have bZ:(nA A t e).sm 16=A.sm 16:=congrFun hm 16;have hb:Dl g1.q0:=⟨b,s1,Ix⟩;rcases AeH r Le Ix Px hib with⟨a1,a2,a3,a4,a5,a6,a7,a8,a9⟩|⟨a1,a2,q',a3,a4⟩
 .refine⟨⟨h.E,A7 h.pc t τ,h.σ,h.Du+1⟩,X9 w h6 ht hcn hm hH' hD (λu hu=>Ba _ _ hu) AC AC λc _=>?_,AC,AC,λs0 h0=>?_,λ_ h=>(O9 h).elim,λ_=>?_,λu hu=>Ba _ _ hu⟩
  .refine⟨by rw[a6];exact hrv,?_,?_,?_,?_,?_,?_,?_,?_,?_,a8 _ _ _ _ _ _ (Au _ _ _)⟩
   .rw[Au,a6];show KP h.σ _ _ (A7 h.pc t τ t);rw[Au];exact c.kp mH hrv hτ
   .show A7 h.pc t τ t<h.Du+1;rw[Au];omega
   .rw[Au,a3];exact hb
   .rw[Au,a3,a4];exact hch.trans (IC.mono (λc x hx=>by cases hx) a7)
   .rw[Au,a4,a6];exact c.pJ ht Vx hrv
   .intro e1 FA Z3;show e1.τ<A7 h.pc t τ t;rw[Au];exact Vw e1 FA Z3
   .rw[Au,a5];intro c l hx;cases hx
   .rw[Au,a5];intro c hx;cases hx
   .rw[Au,a4];exact Amx
  .rw[XJ];obtain⟨q,o,l,h1,h2,h3⟩:=Ex s0 h0;refine(a9 s0 h.E t _).2 ⟨by rw[a3];exact hb,q,o,l,h1,by rw[a3];exact h2,by rw[a3];exact h3⟩
  .show h.Du<=A7 h.pc t τ t\/(ET (G t)=V/\A7 h.pc t τ t=h.pc t/\_);rw[Au,a3];exact hτ2.imp (λe=>Y) id
 .have MU:IC g1.rd (Cw g1.q0) q':=hch.trans (IC.mono (λc x hx=>by cases hx) a3);refine⟨⟨⟨t,τ,g1.q0,q',g1.rd,g1.rv,Z⟩::h.E,h.pc,h.σ,h.Du+1⟩,X9 w h6 ht hcn hm hH' hD (λu hu=>rfl) (.inr ⟨_,rfl,rfl,rfl,hτ,hrv,mH,Vx⟩) (λhp=>by rw[a2] at hp;cases hp) λ_ hx=>(by rw[a1] at hx;cases hx),.inr ⟨_,rfl,rfl⟩,JG _,λs0 h0=>?_,λe0 Uh=>?_,λhx=>(by rw[a1] at hx;cases hx),λ_ _=>rfl⟩<;>grind
include hl
theorem AhX (he:PN (G t)=U e) (BM:(G t).ph=.Po) {b s:Bj} (h0:(G t).q0.s=.atomic b s) (r:sV n b ⟨.node,(G t).q0,Cw (G t).q0,D9,D9,vE A.sm (A.th t).sw e,0⟩ g'):Mv T n A G t h e g':=by
 have BG:=he;unfold PN at BG;rw[BM] at BG;cases BG;have hv:vE A.sm (A.th t).sw (.ld 1 16)=A.sm 16:=FM λu hu=>by
  exact naw
 rw[hv] at r;have Uj:=ha;unfold L0 at Uj;rw[BM] at Uj;obtain⟨b1,s1,ab,e1,e2,_⟩:=Uj;refine AbQ w h6 ht hcn rfl rfl rfl (by unfold AL;rw[BM]) (DD (by unfold Db;rw[BM])) r rfl h0 e2 (by rw[Gn h0];rfl) (QL _) (Jf h.Du) (λw' h1 h2=>⟨λ_=>w.s1 w' h1 h2,λ_=>h2⟩) (.nil _) (λc v hx=>by cases hx) (λc v hx=>by cases hx) (λe1 FA _=>(w.ev e1 FA).1) (.inl rfl) λs0 h1=>?_<;>grind [M5]
end
section
variable {T n:Nat} {A:AM} {G:Nat->Gt} {t:Nat} {h:GH} {e:Ek} {g':Gt} (w:WI T n A G h) (h6:n<=6) (ht:t<T)
 (hcn:∀u,u<T->u≠t->(∀c lv,(G u).ph=.F2 c lv->c<n)/\∀c lv y,(G u).ph=.Gw c lv y->c<n)
 (hl:LK T n A.sm (A.sm 16) (λu=>B6 (G u)) (Ke n A G)) {x:Cx} (hxn:x.n=n) {lt:LT} (ha:L0 x (G t) lt) (he:PN (G t)=U e)
include w h6 ht hcn hl hxn ha he
theorem AeZ {c:Nat} (BM:(G t).ph=.M0 c) (hv:opn (G t) (vE A.sm (A.th t).sw e)):Mv T n A G t h e {G t with ph:=.F2 c (vE A.sm (A.th t).sw e)}:=by
 have BG:=he;unfold PN at BG;rw[BM] at BG;cases BG;have Uj:=ha;unfold L0 at Uj;rw[BM] at Uj;obtain⟨b,s,ab,p0,v,r,hg,_⟩:=Uj;have hc:c<n:=by have:=hg.MP.lt;omega
 have hi:AL n (G t)=[]:=by unfold AL;rw[BM]
 have Mp:ET (G t)=V:=by unfold ET;rw[BM]
 obtain⟨w0,e1,e2,e3⟩:=hv;obtain⟨v0,a1,a2,a3,a4⟩:=Wk hl w.mv h6 ht hi hc e1;refine AbR w h6 ht hcn rfl rfl ?_ ⟨hi,rfl⟩ rfl Mp rfl rfl rfl rfl rfl ?_ λs0 h0=>?_
 grind [DD,Db]
 .unfold NM;rw[Au];refine⟨w0,e1,e3,λv1 w1 h1=>?_⟩;obtain⟨_,e4⟩:=h1.fP w.Pu a1;refine⟨Y,λ_ u hu hne y=>?_⟩;rw[eV,Ba _ _ hne];grind
 .have h1:=Na Mp h0;exact h1
theorem AeY {c:Nat} (BM:(G t).ph=.F2 c lv):Mv T n A G t h e {G t with ph:=.Gw c lv (vE A.sm (A.th t).sw e)}:=by
 have BG:=he;unfold PN at BG;rw[BM] at BG;cases BG;have Uj:=ha;unfold L0 at Uj;rw[BM] at Uj;obtain⟨⟨b,s,ab,p0,v,r,hg,_⟩,_⟩:=Uj;have hc:c<n:=by have:=hg.MP.lt;omega
 have hi:AL n (G t)=[]:=by unfold AL;rw[BM]
 have Mp:ET (G t)=V:=by unfold ET;rw[BM]
 have hp:=(w.ac t ht Mp).2.ph;unfold NM at hp;rw[BM] at hp;obtain⟨w0,e1,e2,e3⟩:=hp;refine AbR w h6 ht hcn rfl rfl ?_ ⟨hi,rfl⟩ rfl Mp rfl rfl rfl rfl rfl ?_ λs0 h0=>?_
 grind [DD,Db]
 .unfold NM;rw[Au];refine⟨w0,e1,e2,λv1 w1 h1=>⟨AC,λe4=>?_⟩⟩;exact Aas hl w.mv h6 ht hi hc AC w.Pu h1
 .have h1:=Na Mp h0;exact h1
theorem AeX (hpm:∀u,u<T->Dt (G u)=V->∀c,c<n->B6 (G u) c=Z->(G u).q.A5 c=Z) {c:Nat} {lv y:Int} (BM:(G t).ph=.Gw c lv y) (hv:vE A.sm (A.th t).sw e=lv) {b s:Bj} (h0:(G t).q0.s=.atomic b s)
  (r:sV n b {G t with ph:=.node,q:=gX (G t).q y,rd:=Fo (G t).rd c y} g'):Mv T n A G t h e g':=by
 have BG:=he;unfold PN at BG;rw[BM] at BG;cases BG;have Uj:=ha;unfold L0 at Uj;rw[BM] at Uj;obtain⟨⟨b1,s1,ab,p0,v,rr,hg,_⟩,_⟩:=Uj;have hc:c<n:=by have:=hg.MP.lt;omega
 have hi:AL n (G t)=[]:=by unfold AL;rw[BM]
 have Mp:ET (G t)=V:=by unfold ET;rw[BM]
 obtain⟨br,ac⟩:=w.ac t ht Mp;have hp:=ac.ph;unfold NM at hp;rw[BM] at hp;obtain⟨w0,e1,e2,e3⟩:=hp;obtain⟨v0,a1,a2,a3,a4⟩:=Wk hl w.mv h6 ht hi hc (hv.trans e1);have ey:y=v0:=AC;have hvy:tn h.E c (G t).rv y:=by rw[ey];exact a1.isV e2
 obtain⟨f,z,a,hs,h1,h2,h3⟩:=hg.stm;have AkD:∀d x',(G t).rd d=U x'->Fo (G t).rd c y d=U x':=λd x' hd=>by
  grind [Fo,hvy.fP,ac.rdo _ _ hd,WI]
 have Ay:OY (Fo (G t).rd c y) (G t).q=U (gX (G t).q y):=by
  have hcn:(f+DW (G t).q.L a).toNat=c:=Y
  grind [OY,gX,Fo,cJ]
 have hib:(G t).q.k.C7=V:=VL hg.Ao.bo;refine AbQ w h6 ht hcn rfl rfl rfl hi (DD (by unfold Db;rw[BM])) r hg.BE h0 hg.Ao.nb ((Ly Ay).trans hib) br (Nat.le_of_lt ac.pcn) ac.kp ((IC.mono AkD ac.ch).trans (.cons Ay (.nil _))) (λd x' hd=>?_) (λd x' hd=>?_) ac.PQ AC λs0 h0=>(Na Mp h0).2
 rotate_left;grind [Fo,oq];have eE:Fo (G t).rd c y d=U x':=hd;unfold Fo at eE;split at eE;grind
 .exact ac.rdo d x' eE
theorem AhW {c:Nat} (BM:(G t).ph=.ZE c):Mv T n A G t h e {G t with ph:=.XG c (vE A.sm (A.th t).sw e)}:=by
 have _:=hl;have _:=hxn;have _:=ha;have BG:=he;unfold PN at BG;rw[BM] at BG;cases BG;have hi:AL n (G t)=[]:=by unfold AL;rw[BM]
 have Mp:ET (G t)=V:=by unfold ET;rw[BM]
 refine AbR w h6 ht hcn rfl rfl ?_ ⟨hi,rfl⟩ rfl Mp rfl rfl rfl rfl rfl ?_ λs0 h0=>(have h1:=Na Mp h0;h1)<;>grind [KE,Db,NM,Au]
theorem Vk (Mp:ET (G t)=V) (hm:mE A.sm e=A.sm) (r:Fk n (G t) 0 g'):Mv T n A G t h e g':=by
 have _:=hxn;have k3:=(WT ha).2.2.1;have hx:(tE A.sm (A.th t) e).sw=(A.th t).sw/\(tE A.sm (A.th t) e).out=(A.th t).out:=by
  unfold ET at Mp;unfold PN at he;cases hp:(G t).ph<;>rw[hp] at Mp he<;>first|(cases he;exact⟨rfl,rfl⟩)|cases Mp
 have x3:AL n (G t)=[]:=by
  unfold ET at Mp;unfold AL;cases hp:(G t).ph<;>rw[hp] at Mp<;>first|rfl|cases Mp
 have x4:B6 (G t)=(G t).BE:=by
  grind [KE,DD,ET]
 grind [Ae0,Na]
theorem AhV {c:Nat} (BM:(G t).ph=.XG c lv) (rK:(A.th t).sw=[]) (hv:vE A.sm (A.th t).sw e≠0) (r:Ty n {G t with BE:=Fo (G t).BE c lv} (c+1) g'):Mv T n A G t h e g':=by
 have BG:=he;unfold PN at BG;rw[BM] at BG;cases BG;obtain⟨hc,w0,Fi,No,Ln⟩:=(WT ha).2.1 c lv BM;rw[hxn] at hc;have Xu:(if A.sm (8+c)=lv then (1:Int) else 0)≠0:=hv;have Wu:A.sm (8+c)=lv:=by
  grind
 have hm:mE A.sm (.La 3 (8+c) lv (lv+1))=CA A.sm (8+c) (lv+1):=by show(if _ then _ else _)=_;rw[Jd Wu]
 have hi:AL n (G t)=[]:=by unfold AL;rw[BM]
 have Mp:ET (G t)=V:=by unfold ET;rw[BM]
 have hH:B6 (G t)=(G t).BE:=KE (by unfold Db;rw[BM]);have hg:ET g'=V/\Dt g'=I/\g'.q0=(G t).q0/\g'.q=(G t).q/\g'.rd=(G t).rd/\g'.BE=Fo (G t).BE c lv/\g'.rv=(G t).rv/\(∀A G E t,G t=g'->NM T n A G E t)/\∀s0 E t out,M5 s0 E t g' out<->Dl g'.q0/\∃q o l,CH t s0 E q o l/\Ff q g'.q0/\out=o++g'.q0.o:=by
  cases r with
  |lk c' _ _ _ _=>exact⟨rfl,rfl,rfl,rfl,rfl,rfl,rfl,λA G E t hG=>by grind [NM],λ_ _ _ _=>Iff.rfl⟩
  |xa _=>exact⟨rfl,rfl,rfl,rfl,rfl,rfl,rfl,λA G E t hG=>by grind [NM],λ_ _ _ _=>Iff.rfl⟩
 obtain⟨i1,i2,_⟩:=r.UE;obtain⟨a1,a2,a3,a4,a5,a6,a7,a8,a9⟩:=hg;have bZ:(nA A t (.La 3 (8+c) lv (lv+1))).sm 16=A.sm 16:=by show mE A.sm (.La 3 (8+c) lv (lv+1)) 16=A.sm 16;rw[hm];grind [BA]
 have hD:(tE A.sm (A.th t) (.La 3 (8+c) lv (lv+1))).sw++AL n g'=Ke n A G t:=by rw[i2];unfold Ke;rw[hi];rfl
 have c1:WZ T n A (nA A t (.La 3 (8+c) lv (lv+1))) G t g' h ⟨h.E,h.pc,h.σ,h.Du+1⟩:=by
  refine⟨Y,λ_ _=>rfl,λw' h1 h2=>Y,JJ _,λ_ _=>rfl,λu hu=>Ba _ _ hu,.inl rfl,λYq=>(by rw[a2] at Yq;cases Yq),λc x _ hx=> .inl ?_⟩<;>grind [Vi]
 obtain⟨br,ac⟩:=w.ac t ht Mp;refine⟨_,w.of c1 ht h6 hcn ?_ AC (λe0 Uh=>?_) AC (λ_=>?_),AC,AC,λs0 h0=>?_,λ_ h=>(O9 h).elim,AC,AC⟩
 .rw[eV,hD,Oq,i1,Dn];show MV T n (mE A.sm (.La 3 (8+c) lv (lv+1))) _ _ h.E;rw[hm];have:=MV.Wm hl w.mv h6 ht hc Wu ⟨w0,Fi,No,Y⟩;rw[hH] at this;exact this
 grind [List.length_cons]
 .refine⟨by rw[a7,bZ];exact br,?_,Qk ac.pcn,?_,?_,?_,ac.PQ,?_,?_,?_,a8 _ _ _ _ (Au _ _ _)⟩;grind [Au,oq];grind [Au,oq];grind [Au,oq];grind [Au,c1.pJ,oq]
  .rw[Au,a6,a7];grind [Fo,WI,WZ,oq]
  .intro _ _;rw[Vi];exact rK
  .rw[Au,a5];exact ac.rdn
 .refine(a9 s0 h.E t _).2 ?_;rw[a3];exact Na Mp h0
end
section
variable {T n:Nat} {A:AM} {G:Nat->Gt} {t:Nat} {h:GH} {e:Ek} {g':Gt} (w:WI T n A G h) (h6:n<=6) (ht:t<T)
 (hcn:∀u,u<T->u≠t->(∀c lv,(G u).ph=.F2 c lv->c<n)/\∀c lv y,(G u).ph=.Gw c lv y->c<n)
 (hl:LK T n A.sm (A.sm 16) (λu=>B6 (G u)) (Ke n A G))
 (hpm:∀u,u<T->Dt (G u)=V->∀c,c<n->B6 (G u) c=Z->(G u).q.A5 c=Z)
include w h6 ht hcn hl hpm
theorem uj {c0:Nat} {N' wv':Int} {σ':Int->Nat} (Wu:∀a,a≠16->mE A.sm e a=A.sm a) (hN:mE A.sm e 16=N') (Aox:A.sm 16<=N') (rK:(A.th t).sw=[]) (Afv:(tE A.sm (A.th t) e).sw=[]) (XJ:(tE A.sm (A.th t) e).out=(A.th t).out)
  (Mp:ET (G t)=V) (hi:AL n (G t)=[]) (hH:B6 (G t)=(G t).BE) (GY:Ub (G t) n n) (hσ:∀w,w<=A.sm 16->σ' w=h.σ w) (hσn:∀w,A.sm 16<w->w<=N'->h.Du<=σ' w/\σ' w<h.Du+1/\∀w',1<=w'->w'<w->σ' w'<σ' w)
  (Fi:1<=wv') (hwN:wv'<=N') (hrv:(G t).rv<wv') (AcZ:A.sm 16<wv'\/(Dt (G t)=V/\(G t).wv=wv')) (mH:KP σ' N' (wv'-1) (σ' wv')) (hτ:σ' wv'<h.Du+1)
  (hun:(∀e,e∈h.E->e.w≠U wv')/\∀u,u<T->u≠t->Dt (G u)=V->(G u).wv≠wv')
  (yv:∀d,d<c0->∀v,(G t).rd d=U v->(G t).BE d=Z->tn h.E d (wv'-1) v/\∀u,u<T->u≠t->Dt (G u)=V->(G u).wv<=wv'-1->(G u).q.A5 d=Z)
  (B0:(G t).q.s=.nil/\∃b s k,(G t).q.k=.Ao b s k) (Px:(G t).q0.k.C7=I) (r:RU n {G t with wv:=wv'} c0 g'):Mv T n A G t h e g':=by
 obtain⟨br,ac⟩:=w.ac t ht Mp;have hDt:Ke n A G t=[]:=by unfold Ke;rw[hi,rK];rfl
 have bZ:(nA A t e).sm 16=N':=hN;have Amq:∀a,a≠16->(nA A t e).sm a=A.sm a:=Wu;cases r with
 |lo c' h1 h2 h3 h4=>
  have c:WZ T n A (nA A t e) G t {G t with wv:=wv',ph:=.lo c'} h ⟨h.E,h.pc,σ',h.Du+1⟩:=by
   refine⟨Y,hσ,λw' a1 a2=>(hσn w' a1 Y).1,JJ _,λ_ _=>rfl,λu hu=>Ba _ _ hu,.inl rfl,λ_=>?_,λc x _ hx=> .inl ?_⟩
   .rcases AcZ with h5|⟨h5,h6⟩
    .exact .inl h5
    .exact .inr ⟨h5,h6.symm,rfl⟩
   .rw[Vi,Afv] at hx;cases hx
  refine⟨_,w.of c ht h6 hcn ?_ (λw' a1 a2=>(hσn w' a1 Y).2) (λe0 Uh=>?_) AC (λ_=>?_),AC,AC,λs0 h0=>?_,λ_ h=>(O9 h).elim,AC,AC⟩
  .rw[eV,Afv,Oq];show MV T n _ (A7 (λu=>B6 (G u)) t (G t).BE) (A7 (Ke n A G) t ([]++[])) h.E;rw[<-hH,Dn (λu=>B6 (G u)) t,Jr,<-hDt,Dn];grind [w.mv.Po]
  .have:=JM List.length Uh;rw[show(⟨h.E,h.pc,σ',h.Du+1⟩:GH).E=h.E from rfl,Jg] at this;omega
  .refine⟨by rw[bZ];grind,?_,Qk ac.pcn,?_,?_,?_,ac.PQ,?_,?_,?_,?_⟩;grind [Au,c.kp,oq];grind [Au,oq];grind [Au,oq];grind [Au,c.pJ,oq]
   .rw[Au];exact ac.lv
   grind [Vi]
   .rw[Au];exact ac.rdn
   .unfold NM;rw[Au];grind [Vi,Ba]
  .rw[XJ];have h1:=Na Mp h0;exact h1
 |stop _ SN k=>
  obtain⟨i1,i2,_⟩:=k.UE;have hmn:∀d,d<n->((G t).BE d).isSome=((G t).q.A5 d).isSome:=λd hd=>by rw[GY d hd,JC hd,Qo]
  have AkW:∀d v w1,d<n->((G t).q.A5 d).isSome=V->En h.E d v w1->w1<=(G t).rv:=λd v w1 hd hs Ui=>by
   rw[<-hmn d hd] at hs;obtain⟨l,hlv⟩:=JE.1 hs;obtain⟨v2,w2,b1,b2,_⟩:=w.mv.B6 t d l ht hd (by show B6 (G t) d=_;rw[hH];exact hlv)<;>grind [Ui.fP,WI,oq]
  obtain⟨e0,yM⟩:∃e0:Ev,e0=⟨t,σ' wv',(G t).q0,(G t).q,(G t).rd,wv'-1,U wv'⟩:=AC;have hew:∀d w',e0.wr d w'->w'=wv':=λd w' K7=>by have:=K7.1;rw[yM] at this;grind
  have c:WZ T n A (nA A t e) G t g' h ⟨e0::h.E,h.pc,σ',h.Du+1⟩:=by
   refine⟨Y,hσ,λw' a1 a2=>(hσn w' a1 Y).1,AC,AC,λu hu=>Ba _ _ hu,.inr ⟨e0,rfl,by rw[yM],λw' K7=>?_⟩,λhp=>(by rw[k.Dt] at hp;cases hp),λc x hc hx=>?_⟩
   .have:wv'=w':=by rw[yM] at K7;injection K7
    subst this;refine⟨?_,λd v w1 hd hs Ui=>?_⟩
    .rcases AcZ with h5|⟨h5,h6⟩
     .exact .inl h5
     .exact .inr ⟨h5,h6,by rw[yM]⟩
    .rw[yM] at hs;have:=AkW d v w1 hd hs Ui;omega
   .rw[Vi,Afv,JF,i2] at hx;refine .inr ⟨e0,rfl,wv',by rw[yM],?_⟩;rw[yM];rcases Jq.1 hx with hx|hx;grind [CY,EO,Option.map_eq_some_iff]
    .obtain⟨d,_,_,h3⟩:=CY.1 hx;have:c=8+d:=Wl _ d _ h3;omega
  refine⟨_,w.of c ht h6 hcn ?_ (λw' a1 a2=>(hσn w' a1 Y).2) (λe1 FA=>?_) (λhp=>(by rw[k.Dt] at hp;cases hp)) (λhx=>(by rw[k.ET] at hx;cases hx)),.inr ⟨e0,rfl,by rw[yM]⟩,JG _,λs0 h0=>?_,λe1 FA=>?_,λhx=>(by rw[k.ET] at hx;cases hx),λ_ _=>rfl⟩
  rotate_right
  .have e2:e0=e1:=List.head_eq_of_cons_eq FA;rw[<-e2,yM];refine⟨k.ET,.inr ⟨Mp,?_,rfl⟩⟩;show h.pc t<=σ' wv';by_cases hwn:wv'<=A.sm 16
   .rw[hσ wv' hwn];have:=ac.kp wv' Fi hwn;omega
   .have:=(hσn wv' Y hwN).1;have:=ac.pcn;omega
  .rw[eV,Afv,Oq,i1,i2,JF];have:=MV.decide hl w.mv h6 ht (g:={G t with wv:=wv'}) hH GY hDt (e0:=e0) (by rw[yM]) (by rw[yM]) λd v w1 hd hs Ui=>?_
   .rw[hDt,JF] at this;exact this.Po Amq h6
   .have iV:((G t).BE d).isSome=V:=hs;rw[hmn d hd] at iV;have:=AkW d v w1 hd iV Ui;show w1<=wv';omega
  .have:e0=e1:=AC
   subst this;rw[yM];refine⟨hτ,by rw[bZ];grind,by rw[bZ];exact mH,λd v hv=>?_,λw' K7=>?_⟩
   .have hdn:=ac.rdn d v hv;have hold:tn h.E d (wv'-1) v/\∀u,u<T->u≠t->Dt (G u)=V->(G u).wv<=wv'-1->(G u).q.A5 d=Z:=by
     cases hld:(G t).BE d with
     |none=>
      grind
     |some l=>
      obtain⟨v2,w2,b1,b2,_⟩:=w.mv.B6 t d l ht hdn (by show B6 (G t) d=_;rw[hH];exact hld);obtain⟨w3,b3,b4⟩:=ac.lv d l hld;have h7:=(ac.rdo d v hv).1.fP w.Pu (b1.isV (k:=(G t).rv) Y);refine⟨by rw[h7];grind [b1.isV],λu hu hne hp _=>hpm u hu hp d hdn ?_⟩;cases hhu:B6 (G u) d with
      |none=>rfl
      |some l2=>exact Jk (hl.Pu u t d hu ht hdn AC (.inl (by show(B6 (G t) d).isSome=V;rw[hH,hld];rfl))) hne
    refine⟨hold.1.cons λw' K7=>?_,λu hu hp hle=>?_⟩
    .have:=K7.1;cases this;show wv'-1<wv';omega
    .by_cases hut:u=t
     .subst hut;rw[Au,k.Dt] at hp;cases hp
     .rw[Ba _ _ hut] at hp hle⊢;exact hold.2 u hu hut hp hle
   .cases K7;exact⟨⟨rfl,rfl,Fi,by rw[bZ];exact hwN⟩,hun.1⟩
  .rw[XJ];obtain⟨hb,q,o,l,h1,h2,h3⟩:=Na Mp h0;have hh:CH t s0 (e0::h.E) (BR (G t).q0 (G t).q) (o++(G t).q0.o++(G t).q.o) (o++(G t).q0.o).length:=by
    rw[yM];exact CH.DU (o:=o) rfl h1 h2 hb ac.ch B0.1 B0.2 AC
   rw[h3];exact lj (g:={G t with wv:=wv'}) hh k hb Px
end
theorem WI.same {h:GH} (w:WI T n A G h) (hs:A'.sm=A.sm) (hw:∀u,(A'.th u).sw=(A.th u).sw):WI T n A' G h:=by
 have hD:Ke n A' G=Ke n A G:=by funext u;unfold Ke;rw[hw u]
 refine⟨by rw[hs,hD];exact w.mv,by rw[hs];exact w.s1,by rw[hs];exact w.s2,w.Pu,by rw[hs];exact w.ev,by rw[hs];exact w.pn,λt ht ha=>?_⟩;obtain⟨a1,a2,a3,a4,a5,a6,a7,a8,a9,a10,a11⟩:=w.ac t ht ha;refine⟨by rw[hs];exact a1,by rw[hs];exact a2,a3,a4,a5,a6,a7,a8,by rw[hw t];exact a9,a10,?_⟩;unfold NM at a11⊢;rw[hD];cases hp:(G t).ph<;>rw[hp] at a11<;>first|exact a11|trivial|skip
 grind
theorem WI.Ck {h:GH} (w:WI T n A G h) (hl:LK T n A.sm (A.sm 16) (λu=>B6 (G u)) (Ke n A G)) (h6:n<=6) {t a:Nat} (ht:t<T) {u:Int} {r:List (Nat×Int)} (hd:(A.th t).sw=(a,u)::r):WI T n ⟨CA A.sm a u,A7 A.th t {A.th t with sw:=r}⟩ G h:=by
 have hDt:Ke n A G t=(a,u)::(r++AL n (G t)):=by grind [Ke]
 have ha:a≠16:=by
  rcases hl.todo t a u ht (by rw[hDt];grind) with h1|⟨c,h1,h2,_⟩<;>omega
 have bZ:CA A.sm a u 16=A.sm 16:=BA _ _ AC;have hD:Ke n ⟨CA A.sm a u,A7 A.th t {A.th t with sw:=r}⟩ G=A7 (Ke n A G) t (r++AL n (G t)):=by
  funext v;grind [Ke,A7]
 have bS:∀v p,p∈Ke n ⟨CA A.sm a u,A7 A.th t {A.th t with sw:=r}⟩ G v->p∈Ke n A G v:=λv p hp=>by
  rw[hD] at hp;grind [A7]
 refine⟨by rw[hD];grind [MV.Ck,WI],by grind [WI],by grind [WI],w.Pu,by grind [WI],by grind [WI],λv hv XR=>?_⟩;obtain⟨a1,a2,a3,a4,a5,a6,a7,a8,a9,a10,a11⟩:=w.ac v hv XR;refine⟨AC,AC,a3,a4,a5,a6,a7,a8,λc hc=>?_,a10,?_⟩;grind [Ba]
 .unfold NM at a11⊢;cases hp:(G v).ph<;>rw[hp] at a11<;>first
   |exact a11
   | (obtain⟨w0,e1,e2,e3⟩:=a11
      exact⟨w0,e1,e2,AC⟩)
   |grind [Ba]
theorem tH {a:AT} (h:a.sw=(A.th t).sw) (u:Nat):(A7 A.th t a u).sw=(A.th u).sw:=by
 grind [Au,Ba]
structure WA (X:Nat->Cx) (T n M:Nat) (s0:Nat->KS) (K:Int) (A:AM) (G:Nat->Gt) (h:GH):Prop where
 l1:L1 X T n M K A G
 wi:WI T n A G h
 th:∀t,t<T->M5 (s0 t) h.E t (G t) (A.th t).out
 sp:∀t,t<T->(A.th t).st≠0->((A.th t).st=10/\IA (G t).q)\/Br (G t).q=U (A.th t).st
theorem WA.step {s0:Nat->KS} {h:GH} (wa:WA X T n M s0 K A G h) (h6:n<=6) (hX:∀t,t<T->OE (X t)/\(X t).n=n) (hK:K<1000000000000000000) {t:Nat} (ht:t<T) {fl:Bool} (hs:AS X A t fl A'):
  ∃g' h',aU (X t) n A (G t) t fl A' g'/\WA X T n M s0 (K+1) A' (A7 G t g') h'/\(h'.E=h.E\/∃e0,h'.E=e0::h.E/\e0.t=t)/\h.Du<=h'.Du/\Dec G t h h' g'/\(fl=V->g'=G t/\h'=h):=by
 obtain⟨g',hg,Le,_⟩:=wa.l1.step h6 hX hK ht hs;have hl:LK T n A.sm (A.sm 16) (λu=>B6 (G u)) (Ke n A G):=wa.l1.lk;have FU:∀u,u<T->(G u).ph≠ .node->∃lt,L0 (X u) (G u) lt:=λu hu hne=>by
  have h0:(A.th u).st=0:=Classical.byContradiction λhx=>hne (wa.l1.DU u hu hx)
  obtain⟨_,lt,_,ha,_⟩:=wa.l1.th u hu h0;exact⟨lt,ha⟩
 have hcn:∀u,u<T->u≠t->(∀c lv,(G u).ph=.F2 c lv->c<n)/\∀c lv y,(G u).ph=.Gw c lv y->c<n:=λu hu _=>by
  refine⟨λc lv hp=>?_,λc lv y hp=>?_⟩
  .exact naj
  .exact naj
 have hpm:∀u,u<T->Dt (G u)=V->∀c,c<n->B6 (G u) c=Z->(G u).q.A5 c=Z:=λu hu hp c hc hh=>by
  obtain⟨lt,ha⟩:=FU u hu (λe=>by unfold Dt at hp;rw[e] at hp;cases hp);exact wY (T:=T) (hX u hu).2 ha hp hc hh
 have B0:∀{A':AM} {g':Gt} {h':GH},(h'.E=h.E\/∃e0,h'.E=e0::h.E/\e0.t=t)->(∀u,u≠t->A'.th u=A.th u)->M5 (s0 t) h'.E t g' (A'.th t).out->∀u,u<T->M5 (s0 u) h'.E u (A7 G t g' u) (A'.th u).out:=λ{A' g' h'} hE ho Ex u hu=>by
  by_cases he:u=t
  .subst he;rw[Au];exact Ex
  .rw[Ba _ _ he,ho u he];exact(wa.th u hu).L9 (hE.imp id λ⟨e0,e1,e2⟩=>⟨e0,e1,λe3=>he (e3.symm.trans e2)⟩)
 have ZV:=WU hs;have rL:∀{A':AM} {g':Gt},(∀u,u≠t->A'.th u=A.th u)->((A'.th t).st≠0->((A'.th t).st=10/\IA g'.q)\/Br g'.q=U (A'.th t).st)->∀u,u<T->(A'.th u).st≠0->((A'.th u).st=10/\IA (A7 G t g' u).q)\/Br (A7 G t g' u).q=U (A'.th u).st:=λ{A' g'} ho Ex u hu h0=>by
  by_cases he:u=t
  .subst he;rw[Au];exact Ex h0
  .rw[Ba _ _ he,ho u he];rw[ho u he] at h0;exact wa.sp u hu h0
 have AiA:Dec G t h h (G t):=⟨λ_ h=>(O9 h).elim,λha=> .inr ⟨ha,rfl,rfl⟩,λ_ _=>rfl⟩;cases hg with
 |Ck hd=>
  refine⟨_,h,.Ck hd,⟨Le,?_,B0 (.inl rfl) ZV ?_,rL ZV (by show(A7 A.th t _ t).st≠0->((A7 A.th t _ t).st=10/\IA (G t).q)\/Br (G t).q=U (A7 A.th t _ t).st;rw[Au];exact wa.sp t ht)⟩,.inl rfl,Jf _,AiA,λ_=>⟨rfl,rfl⟩⟩
  .rw[Dn];exact wa.wi.Ck hl h6 ht hd
  .exact nam
 |SH hm=>
  refine⟨_,h,.SH hm,⟨Le,?_,B0 (.inl rfl) ZV ?_,rL ZV (by show(A7 A.th t _ t).st≠0->((A7 A.th t _ t).st=10/\IA (G t).q)\/Br (G t).q=U (A7 A.th t _ t).st;rw[Au];exact wa.sp t ht)⟩,.inl rfl,Jf _,AiA,λh=>by cases h⟩
  .rw[Dn];exact wa.wi.same rfl (tH rfl)
  .exact nam
 |@stop s Uh Ay=>
  have hsx:(s=10/\IA (G t).q)\/Br (G t).q=U s:=by
   obtain⟨BM,_,h1⟩:=fV Uh;rcases h1 with⟨h1,h2⟩|h1
   .refine .inl ⟨h1,h2,?_⟩;obtain⟨_,lt,_,ha,_⟩:=wa.l1.th t ht Ay;unfold L0 at ha;rw[BM] at ha;obtain⟨⟨ab,B,rd,BE,hS⟩,hi,_⟩:=ha;have hnk:Br (G t).q=Z:=by unfold Br;rw[h2]
    cases hS with
    |halt _ hk _=>exact hk
    |DU _ hk _ _=>exact Jk hnk (hi (by rw[hk];rfl)).1
    |out _ h3 _ _ _ _=>rw[h2] at h3;cases h3
    |CS h3 _ _=>rw[hnk] at h3;cases h3
    |Po h3 _ _ _ _ _=>rw[h2] at h3;cases h3
    |get h3 _ _ _ _ _ _ _ _=>rw[h2] at h3;cases h3
   .exact .inr h1
  refine⟨_,h,.stop Uh Ay,⟨Le,?_,B0 (.inl rfl) ZV ?_,rL ZV (by show(A7 A.th t _ t).st≠0->((A7 A.th t _ t).st=10/\IA (G t).q)\/Br (G t).q=U (A7 A.th t _ t).st;rw[Au];exact λ_=>hsx)⟩,.inl rfl,Jf _,AiA,λh=>by cases h⟩
  .rw[Dn];exact wa.wi.same rfl (tH rfl)
  .exact nam
 |@ev e bad _ Uh Ay hns hd hn j lt' hr ha hp=>
  obtain⟨_,lt,_,LB,_⟩:=wa.l1.th t ht Ay;have hxn:=(hX t ht).2;have bz:=wa.l1.c0.1;have XL:Mv T n A G t h e g':=by
   have mJ:=Uh;unfold PN at mJ;cases hn with
   |out BM q' k=>exact AhU wa.wi h6 ht hcn hxn LB Uh BM hns k
   |Po BM h0 _ r=>exact AhX wa.wi h6 ht hcn hl hxn LB Uh BM h0 r
   |M0 BM hv=>exact AeZ wa.wi h6 ht hcn hl hxn LB Uh BM hv
   |uR BM _ _ r=>rw[BM] at mJ;cases mJ;exact Vk wa.wi h6 ht hcn hl hxn LB Uh (by unfold ET;rw[BM]) rfl r
   |F2 BM=>exact AeY wa.wi h6 ht hcn hl hxn LB Uh BM
   |Gw BM hv h0 _ r=>exact AeX wa.wi h6 ht hcn hl hxn LB Uh hpm BM hv h0 r
   |uQ BM hv _ r=>rw[BM] at mJ;cases mJ;exact Vk wa.wi h6 ht hcn hl hxn LB Uh (by unfold ET;rw[BM]) rfl r
   |ZE BM hv=>exact AhW wa.wi h6 ht hcn hl hxn LB Uh BM
   |Afi BM _ _ r=>rw[BM] at mJ;cases mJ;exact Vk wa.wi h6 ht hcn hl hxn LB Uh (by unfold ET;rw[BM]) rfl r
   |XG BM hv _ r=>exact AhV wa.wi h6 ht hcn hl hxn LB Uh BM (by rw[BM] at mJ;cases mJ;exact hd rfl) hv r
   |Afh BM hv _ r=>
    rename_i c lv;rw[BM] at mJ;cases mJ;have Xu:(if A.sm (8+c)=lv then (1:Int) else 0)=0:=hv;have Wu:¬A.sm (8+c)=lv:=λhx=>by rw[Jd hx] at Xu;cases Xu
    exact Vk wa.wi h6 ht hcn hl hxn LB Uh (by unfold ET;rw[BM]) (by show(if _ then _ else _)=_;rw[In Wu]) r
   |xa BM _ r=>
    rw[BM] at mJ;cases mJ;have Mp:ET (G t)=V:=by unfold ET;rw[BM]
    have hrw:=wa.l1.rv t ht;have GY:=(WT LB).1 (.inl BM);rw[hxn] at GY;have mR:=LB;unfold L0 at mR;rw[BM] at mR;obtain⟨_,b,s,ab,p,Yr,_⟩:=mR;refine uj wa.wi h6 ht hcn hl hpm (N':=A.sm 16+1) (wv':=A.sm 16+1) (σ':=λw=>if w=A.sm 16+1 then h.Du else h.σ w) (λa ha=>BA _ _ ha) (BK _ _ _) Y (hd rfl) (hd rfl) rfl Mp (by unfold AL;rw[BM]) (KE (by unfold Db;rw[BM])) GY (λw hw=>In Y) (λw h1 h2=>?_) Y (QL _) Y (.inl Y) (λw h1 h2=>?_) ?_ ⟨λe1 FA hx=>?_,λu hu _ Fe hx=>?_⟩ (λd hd=>Jk hd (NE d)) ⟨Yr.s0,_,_,_,Yr.k0⟩ Yr.Ao.nb r
    .obtain rfl:w=A.sm 16+1:=Y
     rw[Jd rfl];refine⟨Jf _,JG _,λw' h3 h4=>?_⟩;rw[In Y];exact wa.wi.s1 w' h3 Y
    .rw[Jd rfl];show w<=A.sm 16+1-1<->(if w=A.sm 16+1 then h.Du else h.σ w)<h.Du;by_cases hw:w=A.sm 16+1
     .rw[Jd hw];exact⟨λh3=>Y,λh3=>Jk h3 (d7 _)⟩
     .rw[In hw];exact⟨λ_=>wa.wi.s1 w h1 Y,λ_=>Y⟩
    .rw[Jd rfl];exact JG _
    .have:=((wa.wi.ev e1 FA).2.2.2.2 _ hx).2.2.2;omega
    .have:=(wa.wi.pn u hu Fe).2.1;omega
   |lo BM hv _ r=>
    rename_i c;rw[BM] at mJ;cases mJ;have Mp:ET (G t)=V:=by unfold ET;rw[BM]
    have hpd:Dt (G t)=V:=by unfold Dt;rw[BM]
    obtain⟨p1,p2,p3,p4⟩:=wa.wi.pn t ht hpd;obtain⟨br,ac⟩:=wa.wi.ac t ht Mp;have hpk:=ac.ph;unfold NM at hpk;rw[BM] at hpk;obtain⟨q1,q2,q3⟩:=hpk;have hi:AL n (G t)=[]:=by unfold AL;rw[BM]
    have GY:=(WT LB).1 (.inr ⟨c,BM⟩);rw[hxn] at GY;have mR:=LB;unfold L0 at mR;rw[BM] at mR;obtain⟨AiC,hrc,hlc,_,b,s,ab,p,Yr,_⟩:=mR;rw[hxn] at AiC;obtain⟨w0,e1,e2,e3⟩:=hv;obtain⟨v0,a1,a2,a3,a4⟩:=Wk hl wa.wi.mv h6 ht hi AiC e1;refine uj wa.wi h6 ht hcn hl hpm (N':=A.sm 16) (wv':=(G t).wv) (σ':=h.σ) (λa ha=>rfl) rfl (QL _) q1 q1 rfl Mp hi (KE (by unfold Db;rw[BM])) GY (λw hw=>rfl) (λw h1 h2=>Y) p1 p2 q2 (.inr ⟨hpd,rfl⟩) (λw h1 h2=>⟨λh3=>wa.wi.s2 w _ h1 Y p2,λh3=>?_⟩) (Qk (wa.wi.s1 _ p1 p2)) ⟨p3,p4⟩ (λd hdc v Xu hld=>?_) ⟨Yr.s0,_,_,_,Yr.k0⟩ Yr.Ao.nb r
    .refine Classical.byContradiction λhx=>?_
     rcases Int.lt_or_eq_of_le (show(G t).wv<=w by omega) with h4|h4
     .have:=wa.wi.s2 _ w p1 h4 h2;omega
     .rw[h4] at h3;exact d7 _ h3
    .by_cases bY:d<c
     .exact q3 d bY v Xu hld
     .obtain rfl:d=c:=Y
      have h7:=(ac.rdo d v Xu).1.fP wa.wi.Pu (a1.isV e3);exact⟨by rw[h7];exact a1.isV Y,λu hu _ Fe _=>hpm u hu Fe d AiC (a2 u hu)⟩
   |lob BM _ _ r=>rw[BM] at mJ;cases mJ;exact Vk wa.wi h6 ht hcn hl hxn LB Uh (by unfold ET;rw[BM]) rfl r
   |pu BM _ r=>exact AjW wa.wi h6 ht hcn hxn LB Uh BM r
   |fr BM _ r=>exact AjX wa.wi h6 ht hcn hxn LB Uh BM r
   |te BM _ r=>exact AjV wa.wi h6 ht hcn hxn LB Uh BM r
   |ba BM _ r=>exact AjY wa.wi h6 ht hcn hxn LB Uh BM r
  obtain⟨h',m1,m2,m3,m4,m5⟩:=XL;refine⟨g',h',.ev Uh Ay hns hd hn hr ha hp,⟨Le,m1,B0 m2 ZV ?_,rL ZV (by show(A7 A.th t _ t).st≠0->((A7 A.th t _ t).st=10/\IA g'.q)\/Br g'.q=U (A7 A.th t _ t).st;rw[Au];intro h0;exact Jk (show(tE A.sm (A.th t) e).st=0 by cases e<;>first|exact Ay|exact Jk rfl (hns _)) h0)⟩,m2,Nat.le_of_lt m3,m5,λh=>by cases h⟩;show M5 (s0 t) h'.E t g' (A7 A.th t _ t).out;rw[Au];exact m4 _ (wa.th t ht)
def FT (E:List Ev) (τ:Nat):List Ev:=E.filter λe=>decide (e.τ<τ)
structure ti where
 τ:Nat
 out:Nat->List Int
 st:Nat->Int
def Ut (s0:KS) (E:List Ev) (t τ:Nat) (out:List Int) (st:Int):Prop:=
 (∃q o l q',CH t s0 (FT E τ) q o l/\Ff q q'/\(IA q'\/Dl q'\/∃r,Br q'=U r)/\l<=J out/\(∃z,o++q'.o=out++z)/\(st≠0->out=o++q'.o/\((st=10/\IA q')\/Br q'=U st)))\/
  ∃r,GG t s0 (FT E τ) out r/\(st≠0->st=r)
structure nX (s0:KS) (E:List Ev) (pc:Nat->Nat) (t:Nat) (g:Gt) (m:ti):Prop where
 ok:Ut s0 E t m.τ (m.out t) (m.st t)
 ET:ET g=V->pc t<m.τ->∃q o l,CH t s0 (FT E m.τ) q o l/\Ff q g.q0/\m.out t=o++g.q0.o/\m.st t=0
theorem EJ (e:Ev) (E:List Ev) (τ:Nat):FT (e::E) τ=if e.τ<τ then e::FT E τ else FT E τ:=by
 unfold FT;rw[List.filter_cons];by_cases h:e.τ<τ<;>simp[h]
theorem Ajj (h:∀e,e∈E->e.τ<τ):FT E τ=E:=by
 grind [FT,List.filter_eq_self]
theorem Ajh (hE:E'=E\/∃e0,E'=e0::E/\e0.t=u) (hu:t≠u):FT E' τ=FT E τ\/∃e0,FT E' τ=e0::FT E τ/\e0.t≠t:=by
 grind [EJ]
theorem Ut.L9 (h:Ut s0 E t τ out st) (hE:FT E' τ=FT E τ\/∃e0,FT E' τ=e0::FT E τ/\e0.t≠t):Ut s0 E' t τ out st:=by
 rcases h with⟨q,o,l,q',h1,h2⟩|⟨r,h1,h2⟩
 .exact .inl ⟨q,o,l,q',h1.L9 hE,h2⟩
 .exact .inr ⟨r,h1.L9 hE,h2⟩
theorem AaB (h:M5 s0 (e::E) e.t g out):Dl e.q/\IC e.rd (Cw e.q) e.q2/\((e.q2.s=.nil/\(∃b s k,e.q2.k=.Ao b s k)/\(e.w=Z->∀c,e.q2.A5 c=Z))\/∃r,Br e.q2=U r/\e.w=Z):=by
 have hf:∀{q:KS} {o:List Int} {l:Nat},CH e.t s0 (e::E) q o l->Dl e.q/\IC e.rd (Cw e.q) e.q2/\((e.q2.s=.nil/\(∃b s k,e.q2.k=.Ao b s k)/\(e.w=Z->∀c,e.q2.A5 c=Z))\/∃r,Br e.q2=U r/\e.w=Z):=λh=>by
  cases h<;>grind
 have hg:∀{o:List Int} {r:Int},GG e.t s0 (e::E) o r->Dl e.q/\IC e.rd (Cw e.q) e.q2/\((e.q2.s=.nil/\(∃b s k,e.q2.k=.Ao b s k)/\(e.w=Z->∀c,e.q2.A5 c=Z))\/∃r,Br e.q2=U r/\e.w=Z):=λh=>by
  cases h<;>grind
 unfold M5 at h;cases hp:g.ph<;>rw[hp] at h<;>dsimp only at h<;>first
  |(obtain⟨_,q,o,l,h1,_⟩|⟨_,r,h1,_⟩:=h<;>first|exact hf h1|exact hg h1;done)
  |(obtain⟨o,h1,_⟩:=h;exact hf h1)
  |(obtain⟨_,q,o,l,h1,_⟩:=h;exact hf h1)
theorem Ah2 (h:IC rd q r) (hw:NP cells q.R (.rest q.s q.k)):NP cells r.R (.rest r.s r.k):=by
 induction h with
 |nil q=>exact hw
 |cons h _ ih=>grind [ZK hw h]
theorem Aln {b:Bj} (e:q.s=.atomic b s) (h:IC rd (Cw q) q2) (hk:∃b s k,q2.k=.Ao b s k):q2.k=.Ao b s q.k:=by
 obtain⟨b',s',k',e'⟩:=hk;have h1:(Cw q).k.OC=U (b,s,q.k):=by rw[Gn e];rfl
 have h2:=(h.Ao h1).1;rw[e'] at h2;cases h2;exact e'
theorem zN (hb:Dl q) (hi:q.k.C7=I) (hw:NP cells q.R (.rest q.s q.k)) (h:IC rd (Cw q) q2) (hk:∃b s k,q2.k=.Ao b s k):∃q',Ff (BR q q2) q'/\(IA q'\/Dl q'\/∃r,Br q'=U r):=by
 obtain⟨w1,_,_⟩:=UN hb hi hw;obtain⟨b,s,e⟩:=hb;obtain⟨w4,w5,_⟩:=aR e (Aln e h hk) (Ah2 h w1) hi;exact Ml _ (Jf _) w4 w5
theorem Ff.AjJ (h:Ff q r) (hi:q.k.C7=I):∃z,r.o=q.o++z:=by
 induction h with
 |nil q=>exact⟨[],by rw[Jr]⟩
 |cons hs _ ih=>
  grind [Ly,AgE]
 |@out q u a tt hs _ _ ih=>
  have e1:(KI q).k=q.k:=by unfold KI;rw[hs]
  have e2:(KI q).o=q.o++[DW q.L a]:=by unfold KI;rw[hs]
  grind
section
variable {X:Nat->Cx} {T n M:Nat} {s0:Nat->KS} {K:Int} {A:AM} {G:Nat->Gt} {h:GH} (wa:WA X T n M s0 K A G h) {t:Nat} (ht:t<T)
include wa ht
theorem WA.at (h0:(A.th t).st=0):∃lt,L0 (X t) (G t) lt:=by
 obtain⟨_,lt,_,ha,_⟩:=wa.l1.th t ht h0<;>grind
theorem WA.run (hne:(G t).ph≠ .node):(A.th t).st=0:=Classical.byContradiction λhx=>hne (wa.l1.DU t ht hx)
theorem Ae5:nX (s0 t) h.E h.pc t (G t) ⟨h.Du,λt=>(A.th t).out,λt=>(A.th t).st⟩:=by
 have hF:FT h.E h.Du=h.E:=Ajj λe he=>(wa.wi.ev e he).1
 have Ex:=wa.th t ht;have Ak6:Dl (G t).q0/\(∃q o l,CH t (s0 t) h.E q o l/\Ff q (G t).q0/\(A.th t).out=o++(G t).q0.o)->(A.th t).st=0->nX (s0 t) h.E h.pc t (G t) ⟨h.Du,λt=>(A.th t).out,λt=>(A.th t).st⟩:=λ⟨hb,q,o,l,h1,h2,h3⟩ h0=>by
  refine⟨.inl ⟨q,o,l,(G t).q0,by show CH t _ (FT h.E h.Du) _ _ _;rw[hF];exact h1,h2,.inr (.inl hb),?_,⟨[],by rw[Jr];exact h3.symm⟩,λhx=>Jk h0 hx⟩,λ_ _=>⟨q,o,l,by show CH t _ (FT h.E h.Du) _ _ _;rw[hF];exact h1,h2,h3,h0⟩⟩<;>grind [h1.le]
 have AcD:(∃o i,CH t (s0 t) h.E (BR (G t).q0 (G t).q) (o++(G t).q.o) (J o)/\(A.th t).out=o++(G t).q.o.take i)->(G t).ph≠ .node->(∃lt b s ab p,Ip (X t) (G t) lt b s ab p)->ET (G t)=I->nX (s0 t) h.E h.pc t (G t) ⟨h.Du,λt=>(A.th t).out,λt=>(A.th t).st⟩:=λ⟨o,i,h1,h2⟩ hne ⟨m,b,s,ab,p,hc⟩ hna=>by
  obtain⟨w4,w5,_⟩:=aR hc.Ao.oA hc.k0 hc.mt.wf hc.Ao.nb;obtain⟨q',hk,he⟩:=Ml _ (Jf _) w4 w5;refine⟨.inl ⟨_,_,_,q',by show CH t _ (FT h.E h.Du) _ _ _;rw[hF];exact h1,hk,he,?_,⟨(G t).q.o.drop i++q'.o,?_⟩,λhx=>Jk (wa.run ht hne) hx⟩,λhx=>(by rw[hna] at hx;cases hx)⟩<;>grind [List.take_append_drop]
 have An3:=Ex;unfold M5 at Ex;cases hp:(G t).ph with
 |node=>
  rw[hp] at Ex;have hna:ET (G t)=I:=by unfold ET;rw[hp]
  rcases Ex with⟨hi,q,o,l,h1,h2,h3⟩|⟨hi,r,h1,h2⟩
  .have Am1:∃q',Ff (G t).q q'/\(IA q'\/Dl q'\/∃r,Br q'=U r)/\((A.th t).st≠0->q'=(G t).q):=by
    by_cases h0:(A.th t).st=0
    .obtain⟨lt,ha⟩:=wa.at ht h0;unfold L0 at ha;rw[hp] at ha;obtain⟨⟨ab,B,rd,BE,hS⟩,_,_⟩:=ha;cases hS with
     |halt a1 a2 _=>exact⟨_,.nil _,.inl ⟨a1,a2⟩,AC⟩
     |DU _ hk _ _=>rw[hk] at hi;cases hi
     |out a1 a2 a3 a4 a5 a6=>
      obtain⟨q',b1,b2⟩:=Ml _ (Jf _) a6.wf hi<;>grind
     |CS a1 _ _=>exact⟨_,.nil _,AC,AC⟩
     |Po a1 _ _ _ _ _=>grind
     |get _ a2 _ _ _ _ _ _ _=>rw[hi] at a2;cases a2
    .rcases wa.sp t ht h0 with⟨_,h5⟩|h5
     .exact⟨_,.nil _,.inl h5,AC⟩
     .exact⟨_,.nil _,AC,AC⟩
   obtain⟨q',b1,b2,b3⟩:=Am1;have Ol:∃z,q'.o=(G t).q.o++z:=by
    exact b1.AjJ hi
   obtain⟨z,hz⟩:=Ol;refine⟨.inl ⟨q,o,l,q',by show CH t _ (FT h.E h.Du) _ _ _;rw[hF];exact h1,h2.trans b1,b2,?_,⟨z,?_⟩,λhx=>?_⟩,λhx=>(by rw[hna] at hx;cases hx)⟩<;>grind [h1.le,wa.sp]
  .refine⟨.inr ⟨r,AC,λhx=>?_⟩,AC⟩;rcases wa.sp t ht hx with⟨_,h5⟩|h5
   .rw[h5.2] at hi;cases hi
   grind
 |pu c=>
  exact nae
 |fr c=>
  exact nae
 |te i=>
  rw[hp] at Ex;obtain⟨o,h1,h2⟩:=Ex;obtain⟨lt,ha⟩:=wa.at ht (wa.run ht (by rw[hp];grind));unfold L0 at ha;rw[hp] at ha;obtain⟨b,s,ab,p,hc,_⟩:=ha;exact AcD ⟨o,i,h1,h2⟩ (by rw[hp];grind) ⟨_,b,s,ab,p,hc⟩ (by unfold ET;rw[hp])
 |_=>rw[hp] at Ex;exact Ak6 Ex (wa.run ht (by rw[hp];exact λe=>by cases e))
end
section
theorem Agi (Mp:ET g=V) (ha:L0 x g lt):∃b s,W0 x g b s:=by
 unfold ET at Mp;unfold L0 at ha;cases hp:g.ph<;>rw[hp] at Mp ha<;>first|cases Mp|skip
 all_goals dsimp only at ha
 .obtain⟨b,s,_,_,_,_,hg,_⟩:=ha;grind [cJ]
 .obtain⟨⟨b,s,_,_,_,_,hg,_⟩,_⟩:=ha;grind [cJ]
 .obtain⟨⟨b,s,_,_,_,_,hg,_⟩,_⟩:=ha;grind [cJ]
 .obtain⟨_,_,_,b,s,_,_,hg,_⟩:=ha;grind [Ip]
 .obtain⟨_,_,_,_,b,s,_,_,hg,_⟩:=ha;grind [Ip]
 .obtain⟨_,b,s,_,_,hg,_⟩:=ha;grind [Ip]
 .obtain⟨_,_,_,_,b,s,_,_,hg,_⟩:=ha;grind [Ip]
section
variable {X:Nat->Cx} {T n M:Nat} {s0:Nat->KS} {K K':Int} {A A':AM} {G:Nat->Gt} {h h':GH} {t:Nat} {g':Gt}
theorem Ab1 (wa:WA X T n M s0 K A G h) (wb:WA X T n M s0 K' A' (A7 G t g') h') (ht:t<T) (hE:h'.E=h.E\/∃e0,h'.E=e0::h.E/\e0.t=t) (hd:Dec G t h h' g') {m:ti} (hm:m.τ<=h.Du) {u:Nat} (hu:u<T) (mo:nX (s0 u) h.E h.pc u (G u) m):nX (s0 u) h'.E h'.pc u (A7 G t g' u) m:=by
 by_cases hut:u=t
 .subst hut;rw[Au];have Ak6:ET g'=V->h'.pc u<m.τ->ET (G u)=V/\h.pc u<m.τ/\g'.q0=(G u).q0:=λha hp=>by
   grind [hd.2.1 ha]
  rcases hE with e|⟨e0,e,Z3⟩;grind [nX]
  .obtain⟨d1,d2⟩:=hd.1 e0 e;by_cases hlt:e0.τ<m.τ
   .have hF:FT h'.E m.τ=e0::FT h.E m.τ:=by rw[e,EJ,Jd hlt]
    rcases d2 with d2|⟨d2,d3,d4⟩
    .omega
    obtain⟨q,o,l,c1,c2,c3,c4⟩:=mo.ET d2 Y;have Ex:=wb.th u ht;rw[e,Au] at Ex;subst Z3;obtain⟨f1,f2,f3⟩:=AaB Ex;have h0:(A.th e0.t).st=0:=wa.run ht (λhp=>by grind [ET]);obtain⟨lt,ha⟩:=wa.at ht h0;obtain⟨b,s,hb⟩:=Agi d2 ha;refine⟨?_,AC⟩;rw[<-d4] at c2 c3;rcases f3 with⟨f3,f4,f5⟩|⟨r,f3,f5⟩
    .obtain⟨q',k1,k2⟩:=zN f1 (by rw[d4];exact hb.nb) (by rw[d4];exact hb.wf) f2 f4;refine .inl ⟨_,_,_,q',by rw[hF];exact CH.DU rfl c1 c2 f1 f2 f3 f4 f5,k1,k2,by rw[c3];grind,⟨e0.q2.o++q'.o,by rw[c3,Jj]⟩,AC⟩
    .exact .inr ⟨r,by rw[hF,c3];grind [GG.CS],AC⟩
   grind [EJ,mo.ok.L9,nX]
 .rw[Ba _ _ hut];have hF:=Ajh (τ:=m.τ) hE hut;refine⟨mo.ok.L9 hF,λha hp=>?_⟩;rw[hd.2.2 u hut] at hp;obtain⟨q,o,l,c1,c2⟩:=mo.ET ha hp;grind [c1.L9 hF]
theorem WA.kA (wa:WA X T n M s0 K A G h) (hk:A.sm 16<=K'):WA X T n M s0 K' A G h:=⟨wa.l1.kA hk,wa.wi,wa.th,wa.sp⟩
theorem WA.fls (h6:n<=6) (hX:∀t,t<T->OE (X t)/\(X t).n=n) {k:Nat} (hk:k<T) {A B:AM} (f:kv X k A B):WA X T n M s0 K A G h->K<1000000000000000000->WA X T n M s0 K B G h:=by
 induction f with
 |nil A=>grind
 |cons hs _ ih=>
  intro wa hK;obtain⟨g2,h2,_,wb,_,_,_,hf⟩:=wa.step h6 hX hK hk hs;grind [Dn,wa.l1.step,wb.kA,wa.l1.c0]
end
def SZ (E:List Ev):Prop:=E.Pairwise λa b=>a.t=b.t->b.τ<a.τ
structure fC (k:Nat) (A:AM) (G:Nat->Gt) (h:GH) (A':AM) (G':Nat->Gt) (h':GH):Prop where
 oth:∀u,u≠k->A'.th u=A.th u/\G' u=G u/\h'.pc u=h.pc u
 E:h'.E=h.E\/∃e0,h'.E=e0::h.E/\e0.t=k/\(h.Du<=e0.τ\/(ET (G k)=V/\h.pc k<=e0.τ))
 ac:ET (G' k)=V->h.Du<=h'.pc k\/(ET (G k)=V/\h'.pc k=h.pc k)
 Du:h.Du<=h'.Du
 DU:(A.th k).st≠0->A'=A/\G'=G/\h'=h
structure WM (X:Nat->Cx) (T n M:Nat) (s0:Nat->KS) (K:Int) (R:Am) (A:AM) (G:Nat->Gt) (h:GH) (ms:List ti):Prop where
 abs:XE X T R A
 wa:WA X T n M s0 K A G h
 mo:∀m,m∈ms->m.τ<=h.Du/\∀t,t<T->nX (s0 t) h.E h.pc t (G t) m
 de:SZ h.E
 tt:∀e,e∈h.E->e.t<T
variable {X:Nat->Cx} {T n M:Nat} {s0:Nat->KS} {Ab:Nat->List GI} (hC:MCx X T n Ab) {K:Int} {R:Am} {A:AM} {G:Nat->Gt} {h:GH} {ms:List ti} (w:WM X T n M s0 K R A G h ms) (hK:K<1000000000000000000) {k:Nat} (hk:k<T)
include hC w hK hk
theorem WM.step:∃A' G' h',WM X T n M s0 (K+1) (R.step Ab k) A' G' h' ms/\fC k A G h A' G' h':=by
 by_cases h0:(A.th k).st=0
 .obtain⟨A0,A1,f,hs,ha⟩:=Agn.fs hC ⟨w.abs,w.wa.l1⟩ hK hk h0;have w0:=w.wa.fls hC.h6 hC.hX hk f hK;have fo:=(f.l1 hC.h6 hC.hX hk w.wa.l1 hK).2.2.2.2.2;obtain⟨g2,h2,_,wb,hE,hn,hd,_⟩:=w0.step hC.h6 hC.hX hK hk hs;refine⟨A1,_,h2,⟨ha,wb,λm hm=>?_,?_,?_⟩,⟨λu hu=>⟨(WU hs u hu).trans AC,Ba _ _ hu,hd.2.2 u hu⟩,?_,λhx=>?_,hn,AC⟩⟩;grind [Ab1,WM]
  .rcases hE with e|⟨e0,e,e1⟩
   .rw[e];exact w.de
   .rw[e];refine J8.2 ⟨λe' BG ht=>?_,w.de⟩;rcases (hd.1 e0 e).2 with h5|⟨h5,h6,_⟩;grind [w0.wi.ev e' BG]
    .have:=(w0.wi.ac k hk h5).2.PQ e' BG (by rw[<-ht,e1]);omega
  grind [WM]
  .rcases hE with e|⟨e0,e,e1⟩;grind;grind [hd.1 e0 e]
  .rw[Au] at hx;grind [hd.2.1 hx]
 .have Ay:(R.th k).An≠0:=by rw[(w.abs.th k hk).st];exact h0
  have:R.step Ab k=R:=by unfold Am.step;rw[Jd (AC)]
  rw[this];exact⟨A,G,h,⟨w.abs,w.wa.kA (by have:=w.wa.l1.c0.2;omega),w.mo,w.de,w.tt⟩,⟨AC,AC,AC,AC,AC⟩⟩
theorem WM.Ck:∃A',WM X T n M s0 K (R.Ck k) A' G h ms/\∀u,(A'.th u).st=(A.th u).st:=by
 obtain⟨A',f,ha,_⟩:=w.abs.Ck hC.hB hC.hT hk;obtain⟨_,_,f1,_,_,f2⟩:=f.l1 hC.h6 hC.hX hk w.wa.l1 hK;refine⟨A',⟨ha,w.wa.fls hC.h6 hC.hX hk f hK,w.mo,w.de,w.tt⟩,λu=>?_⟩<;>grind
omit hK hk in
theorem WM.Ab0:WM X T n M s0 K R A G h (ms++[⟨h.Du,λt=>(A.th t).out,λt=>(A.th t).st⟩]):=by
 have:=hC;refine⟨w.abs,w.wa,λm hm=>?_,w.de,w.tt⟩<;>grind [Ae5,WM]
end
theorem CH.WK {q':KS} {l':Nat} (h:CH t s0 E q o l) (k:CH t s0 E q' o' l'):(q=q'/\o=o'/\l=l'):=by
 induction h generalizing q' o' l' with
 |nil=>cases k<;>grind
 |skip hne _ ih=>cases k<;>grind
 |DU he _ ko b kt hs hk _ ih=>cases k<;>grind
theorem GG.WK {r r':Int} (h:GG t s0 E o r) (k:GG t s0 E o' r'):o=o'/\r=r':=by
 induction h generalizing o' r' with
 |skip hne _ ih=>cases k<;>grind
 |CS he k1 ko b kt ht _=>cases k<;>grind [k1.WK]
theorem CH.pS {r:Int} (h:CH t s0 E q o l) (k:GG t s0 E o' r):False:=by
 induction h generalizing o' r with
 |nil=>cases k
 |skip hne _ ih=>cases k<;>grind
 |DU he _ ko b kt hs hk _ ih=>cases k<;>grind [Br]
theorem Ff.WK {a b:KS} (h:Ff q a) (k:Ff q b) (ha:IA a\/Dl a\/∃r,Br a=U r) (hb:IA b\/Dl b\/∃r,Br b=U r) (hi:q.k.C7=I):a=b:=by
 have stop:∀{q:KS},(IA q\/Dl q\/∃r,Br q=U r)->OY D9 q=Z/\∀a t,q.s≠ .out a t:=λ{q} h=>by
  obtain⟨s,k,L,R,A5,o⟩:=q;rcases h with⟨e1,e2⟩|⟨b,t,e⟩|⟨r,hr⟩
  .dsimp only at e1 e2;subst e1;subst e2;exact⟨rfl,AC⟩
  .dsimp only at e;subst e;exact⟨rfl,AC⟩
  .unfold Br at hr;dsimp only at hr;split at hr
   .split at hr
    .rename_i hc;refine⟨?_,AC⟩;show Option.map _ (if _ then _ else _)=Z;rw[In hc.1,hc.2];rfl
    .cases hr
   .split at hr
    .rename_i hc;exact⟨Jd hc,AC⟩
    .cases hr
   .split at hr
    .rename_i hc;exact⟨Jd hc,AC⟩
    .cases hr
   .cases hr
 induction h with
 |nil q=>cases k<;>grind
 |cons hs _ ih=>cases k<;>grind [Ly,OY]
 |out hs hi1 _ ih=>cases k<;>grind [OY,KI]
structure BOk (s0:KS) (E:List Ev) (e:Ev) (q:KS) (o:List Int) (l:Nat):Prop where
 pre:CH e.t s0 (FT E e.τ) q o l
 ko:Ff q e.q
 b:Dl e.q
 kt:IC e.rd (Cw e.q) e.q2
 DU:(e.q2.s=.nil/\(∃b s k,e.q2.k=.Ao b s k)/\(e.w=Z->∀c,e.q2.A5 c=Z))\/∃r,Br e.q2=U r/\e.w=Z
theorem vK (h:CH t s0 (FT E τ) q o l) (hne:e.t≠t\/¬e.τ<τ):CH t s0 (FT (e::E) τ) q o l:=by
 rw[EJ];split
 .rename_i h1;rcases hne with h2|h2
  .exact .skip h2 h
  grind
 .exact h
theorem AcY (hd:SZ E):((∃q o l,CH t s0 E q o l)\/∃o r,GG t s0 E o r)->∀e,e∈E->e.t=t->∃q o l,BOk s0 E e q o l:=by
 have key:∀{e0:Ev} {E:List Ev} {q:KS} {o:List Int} {l:Nat},SZ (e0::E)->e0.t=t->CH t s0 E q o l->FT (e0::E) e0.τ=FT E e0.τ/\CH t s0 (FT E e0.τ) q o l:=λ{e0 E q o l} hd he h=>by
  refine⟨by rw[EJ,In AC],?_⟩;rw[SZ,J8] at hd;have Da:∀e,e∈E->e.t=t->e.τ<e0.τ:=AC;clear hd;induction h with
  |nil=>exact .nil
  |skip hne _ ih=>grind [vK]
  |DU h1 _ ko b kt hs hk hm ih=>
   rw[EJ,Jd AC];exact .DU h1 (ih λe hm=>Da e (.tail _ hm)) ko b kt hs hk hm
 have lift:∀{e0 e:Ev} {E:List Ev} {q:KS} {o:List Int} {l:Nat},SZ (e0::E)->e∈E->e.t=t->BOk s0 E e q o l->BOk s0 (e0::E) e q o l:=λ{e0 e E q o l} hd hm Z3 h=>by
  grind [vK,SZ,List.pairwise_cons,BOk]
 have hh:∀{E:List Ev} {q:KS} {o:List Int} {l:Nat},SZ E->CH t s0 E q o l->∀e,e∈E->e.t=t->∃q o l,BOk s0 E e q o l:=λ{E q o l} hd h=>by
  induction h with
  |nil=>grind
  |skip hne _ ih=>
   intro e he Z3;cases he with
   |head=>grind
   |tail _ he=>
    exact nak
  |DU h1 k1 ko b kt hs hk hm ih=>
   intro e he Z3;cases he with
   |head=>
    exact nau
   |tail _ he=>
    exact nak
 rintro(⟨q,o,l,h⟩|⟨o,r,h⟩);grind
 .induction h with
  |skip hne _ ih=>
   intro e he Z3;cases he with
   |head=>grind
   |tail _ he=>
    exact nak
  |CS h1 k1 ko b kt ht hw=>
   intro e he Z3;cases he with
   |head=>
    exact nau
   |tail _ he=>
    obtain⟨q,o,l,h2⟩:=hh (J8.1 hd).2 k1 e he Z3;grind [lift hd he Z3 h2]
theorem Aji {a:Nat} (UG:a<=b) (hg:∀e,e∈E->e.t=t->e.τ<b->e.τ<a) {s0:KS} {q:KS} {o:List Int} {l:Nat}:CH t s0 (FT E a) q o l<->CH t s0 (FT E b) q o l:=by
 induction E generalizing q o l with
 |nil=>exact Iff.rfl
 |cons e E ih=>
  have ih':=λ{q:KS} {o:List Int} {l:Nat}=>ih (q:=q) (o:=o) (l:=l) λe' BG=>hg e' (.tail _ BG)
  rw[EJ,EJ];by_cases ht:e.t=t
  .by_cases h1:e.τ<a
   .rw[Jd h1,Jd Y];constructor
    .intro h;cases h with
     |skip hne _=>grind
     |DU h2 k ko b kt hs hk hm=>exact .DU h2 (ih'.1 k) ko b kt hs hk hm
    .intro h;cases h with
     |skip hne _=>grind
     |DU h2 k ko b kt hs hk hm=>exact .DU h2 (ih'.2 k) ko b kt hs hk hm
   grind
  .have sk:∀{E:List Ev} {q:KS} {o:List Int} {l:Nat},CH t s0 (e::E) q o l<->CH t s0 E q o l:=λ{E q o l}=>by
    constructor
    .intro h;cases h<;>grind
    .exact .skip ht
   split<;>split<;>first|exact ih'|grind
def HK (E:List Ev) (κ:Nat->Nat):List Ev:=E.filter λe=>decide (e.τ<κ e.t)
theorem GJ:e∈HK E κ<->e∈E/\e.τ<κ e.t:=by
 grind [HK]
def Ev.key (e:Ev):Nat:=2*e.τ+if e.w.isSome then 1 else 0
structure Evs (T n:Nat) (cells:Int) (s0:Nat->KS) (σ:Int->Nat) (N:Int) (E:List Ev):Prop where
 s2:∀w w',1<=w->w<w'->w'<=N->σ w<σ w'
 Pu:iM E
 de:SZ E
 kp:∀e,e∈E->KP σ N e.k e.τ/\∀w,e.w=U w->e.k=w-1/\e.τ=σ w/\1<=w/\w<=N
 rd:∀e,e∈E->∀c v,e.rd c=U v->tn E c e.k v
 tt:∀e,e∈E->e.t<T
 bok:∀e,e∈E->∃q o l,BOk (s0 e.t) E e q o l
 nb:∀t,t<T->(s0 t).k.C7=I/\NP cells (s0 t).R (.rest (s0 t).s (s0 t).k)
structure Nxt (E:List Ev) (κ:Nat->Nat) (e:Ev):Prop where
 mem:e∈E
 out:¬e.τ<κ e.t
 min:∀e',e'∈E->¬e'.τ<κ e'.t->e.key<=e'.key
def DC (E:List Ev) (κ:Nat->Nat):Prop:=∀e e',e∈E->e'∈E->e.τ<κ e.t->¬e'.τ<κ e'.t->e.key<=e'.key
section
variable {T n:Nat} {cells:Int} {s0:Nat->KS} {σ:Int->Nat} {N:Int} {E:List Ev} (ev:Evs T n cells s0 σ N E)
include ev
theorem Aei {e':Ev} (he:e∈E) (BG:e'∈E) (ht:e.t=e'.t) (hτ:e.τ=e'.τ):e=e':=by
 have hd:=ev.de;clear ev;induction E<;>grind [SZ,List.pairwise_cons]
theorem Aan (nx:Nxt E κ e) (dc:DC E κ) {e':Ev} (BG:e'∈E) {w:Int} (hw:e'.w=U w):e'∈HK E κ<->w<=e.k:=by
 obtain⟨k1,k2⟩:=ev.kp e nx.mem;obtain⟨_,k3⟩:=ev.kp e' BG;obtain⟨a1,a2,a3,a4⟩:=k3 w hw;have hk:=k1 w a3 a4;rw[GJ];constructor
 .rintro⟨_,h2⟩;have h3:=dc e' e BG nx.mem h2 nx.out;unfold Ev.key at h3;rw[hw,Jd AC] at h3;refine hk.2 ?_;rw[<-a2];by_cases hb:e.w.isSome=V
  .rw[Jd hb] at h3;by_cases h4:e'.τ=e.τ
   .obtain⟨w2,No⟩:=JE.1 hb;obtain⟨b1,b2,b3,b4⟩:=k2 w2 No;have:w=w2:=by
     grind [Evs]
    subst this;have:=ev.Pu e' e BG nx.mem w hw No;grind [Nxt]
   .omega
  grind
 grind [Ev.key,Nxt]
theorem Abm (nx:Nxt E κ e) (dc:DC E κ) {C:Nat->Int} (hC:∀c,∃w,En (HK E κ) c (C c) w) {c:Nat} {v:Int} (hv:e.rd c=U v):C c=v:=by
 obtain⟨w,hw⟩:=hC c;have LU:∀e',e'∈E->∀w',e'.wr c w'->(e'∈HK E κ<->w'<=e.k):=λe' BG w' K7=>Aan ev nx dc BG K7.1
 rcases ev.rd e nx.mem c v hv with⟨e1,a1,w1,a2,a3,a4,a5⟩|⟨a1,a2⟩
 .have h1:e1.wr c w1:=⟨a2,by rw[a3];rfl⟩;have h2:=(LU e1 a1 w1 h1).2 a4;rcases hw with⟨e2,b1,b2,b3,b4⟩|⟨_,_,b3⟩
  .have h3:=b4 e1 h2 w1 h1;have h4:e2.wr c w:=⟨b2,by rw[b3];rfl⟩;have h5:=a5 e2 (GJ.1 b1).1 w h4 ((LU e2 (GJ.1 b1).1 w h4).1 b1);obtain rfl:w=w1:=Y
   have:=ev.Pu e1 e2 a1 (GJ.1 b1).1 w a2 b2;subst this;rw[a3] at b3;cases b3;rfl
  .exact Jk h1 (b3 e1 h2 w1)
 .rcases hw with⟨e2,b1,b2,b3,b4⟩|⟨b1,_,_⟩
  .have h4:e2.wr c w:=⟨b2,by rw[b3];rfl⟩;have h5:=a2 e2 (GJ.1 b1).1 w h4;have h6:=(LU e2 (GJ.1 b1).1 w h4).1 b1;omega
  .rw[a1,b1]
theorem Nu (nx:Nxt E κ e) {e':Ev}:e'∈HK E (A7 κ e.t (e.τ+1))<->e'∈HK E κ\/e'=e:=by
 rw[GJ,GJ];grind [Au,Aei,Ev.key,Ba,Nxt]
theorem Agr (nx:Nxt E κ e) (dc:DC E κ):DC E (A7 κ e.t (e.τ+1)):=λa b ha hb h1 h2=>by
 have h3:=(Nu ev nx).1 (GJ.2 ⟨ha,h1⟩);have h4:¬b.τ<κ b.t:=λh=>h2 (GJ.1 ((Nu ev nx).2 (.inl (GJ.2 AC)))).2
 rcases h3 with h3|h3
 .exact dc a b ha hb (GJ.1 h3).2 h4
 grind [Nxt]
theorem aI (nx:Nxt E κ e) (dc:DC E κ) {C C':Nat->Int} (hC:∀c,∃w,En (HK E κ) c (C c) w) (h1:∀c w,e.wr c w->e.q2.A5 c=U (C' c)) (h2:∀c,(∀w,¬e.wr c w)->C' c=C c):∀c,∃w,En (HK E (A7 κ e.t (e.τ+1))) c (C' c) w:=λc=>by
 obtain⟨w,hw⟩:=hC c;by_cases hx:∃w,e.wr c w
 .obtain⟨w1,Fi⟩:=hx;refine⟨w1,.inl ⟨e,(Nu ev nx).2 AC,Fi.1,AC,λe' BG w' K7=>?_⟩⟩;rcases (Nu ev nx).1 BG with h3|h3
  .have h4:=(Aan ev nx dc (GJ.1 h3).1 K7.1).1 h3;have:=((ev.kp e nx.mem).2 w1 Fi.1).1;omega
  .subst h3;have:=Fi.1.symm.trans K7.1;grind
 .rw[h2 c AC];refine⟨w,?_⟩;rcases hw with⟨e2,b1,b2,b3,b4⟩|⟨b1,b2,b3⟩
  .refine .inl ⟨e2,(Nu ev nx).2 (.inl b1),b2,b3,λe' BG w' K7=>?_⟩<;>grind [Nu]
  .refine .inr ⟨b1,b2,λe' BG w' K7=>?_⟩<;>grind [Nu]
end
def Tw (l:List Nd) (cells:Int) (s0:KS) (E:List Ev) (t τ:Nat) (r:RR):Prop:=
 (∃q o sl q',CH t s0 (FT E τ) q o sl/\Ff q q'/\r.Al=o++q'.o/\r.Bq=sl/\((IA q'/\r.An=10)\/(∃x,Br q'=U x/\r.An=x)\/(Dl q'/\At0 l cells q' r)))\/
  ∃x,GG t s0 (FT E τ) r.Al x/\r.Bq=J r.Al/\r.An=x
theorem Ff.C7 (h:Ff q r):r.k.C7=q.k.C7:=by
 induction h<;>grind [Ly,KI]
theorem CH.C7 (h:CH t s0 E q o l) (h0:s0.k.C7=I):q.k.C7=I:=by
 induction h with
 |nil=>exact h0
 |skip _ _ ih=>exact ih
 |DU _ _ ko b _ _ _ _ ih=>
  obtain⟨b,s,e⟩:=b;rw[GC e];exact ko.C7.trans ih
def TF (t:Nat) (F:List Ev):List Ev:=F.filter λe=>decide (e.t=t)
theorem VN (t:Nat) (e:Ev) (F:List Ev):TF t (e::F)=if e.t=t then e::TF t F else TF t F:=by
 unfold TF;rw[List.filter_cons];by_cases h:e.t=t<;>simp[h]
theorem Gv:CH t s0 F q o l<->CH t s0 (TF t F) q o l:=by
 induction F generalizing q o l with
 |nil=>exact Iff.rfl
 |cons e F ih=>
  rw[VN];by_cases h:e.t=t
  .rw[Jd h];constructor
   .intro h1;cases h1 with
    |skip h2 _=>grind
    |DU h2 k ko b kt hs hk hm=>exact .DU h2 (ih.1 k) ko b kt hs hk hm
   .intro h1;cases h1 with
    |skip h2 _=>grind
    |DU h2 k ko b kt hs hk hm=>exact .DU h2 (ih.2 k) ko b kt hs hk hm
  .exact nav
theorem Mn {r:Int}:GG t s0 F o r<->GG t s0 (TF t F) o r:=by
 induction F generalizing o r with
 |nil=>exact Iff.rfl
 |cons e F ih=>
  rw[VN];by_cases h:e.t=t
  .rw[Jd h];constructor
   .intro h1;cases h1 with
    |skip h2 _=>grind
    |CS h2 k ko b kt ht hw=>exact .CS h2 (Gv.1 k) ko b kt ht hw
   .intro h1;cases h1 with
    |skip h2 _=>grind
    |CS h2 k ko b kt ht hw=>exact .CS h2 (Gv.2 k) ko b kt ht hw
  .exact nav
theorem fS {a:Nat} (hg:∀e,e∈E->e.t=t->(e.τ<a<->e.τ<b)):TF t (FT E a)=TF t (FT E b):=by
 induction E with
 |nil=>rfl
 |cons e E ih=>
  have ih':=ih λe' BG=>hg e' (.tail _ BG)
  have h0:=hg e (.head _);rw[EJ,EJ];grind [VN]
theorem Ahj (hd:SZ E) {e:Ev} (he:e∈E):TF e.t (FT E (e.τ+1))=e::TF e.t (FT E e.τ):=by
 induction E<;>grind [SZ,List.pairwise_cons,EJ,VN,fS]
theorem Aay {s0:Nat->KS} (ev:Evs T n cells s0 σ N E) (hn:n=cells.toNat) {κ:Nat->Nat} {e:Ev} (nx:Nxt E κ e) (dc:DC E κ) {C:Nat->Int} (hC:∀c,∃w,En (HK E κ) c (C c) w) {cs:List Int} (hl:J cs=n) (hc:∀c,c<n->cs.getD c 0=C c)
  {l:List Nd} {r:RR} (h:Tw l cells (s0 e.t) E e.t (κ e.t) r):r.An=0/\∃u cs',∃C':Nat->Int,I2 l r cs u cs'/\J cs'=n/\(∀c,c<n->cs'.getD c 0=C' c)/\(∀c,∃w,En (HK E (A7 κ e.t (e.τ+1))) c (C' c) w)/\Tw l cells (s0 e.t) E e.t (e.τ+1) u:=by
 have Px:=ev.nb e.t (ev.tt e nx.mem);obtain⟨q,o,sl,hb⟩:=ev.bok e nx.mem;have AmZ:∀e',e'∈E->e'.t=e.t->e'.τ<e.τ->e'.τ<κ e.t:=λe' h1 h2 h3=>Classical.byContradiction λh4=>by
  have:=nx.min e' h1 (by rw[h2];exact h4);unfold Ev.key at this;split at this<;>split at this<;>omega
 have hle:κ e.t<=e.τ:=Nat.le_of_not_lt nx.out;have Ol:=(Aji hle AmZ).2 hb.pre;have yG:=Ahj ev.de nx.mem;have hkt:IC (rdC C) (Cw e.q) e.q2:=IC.mono (λc x hx=>JM U (Abm ev nx dc hC hx)) hb.kt;have FU:At0 l cells e.q r:=by
  rcases h with⟨q2,o2,sl2,q',h1,h2,h3,h4,h5⟩|⟨x,h1,_⟩
  .obtain⟨e1,e2,e3⟩:=h1.WK Ol;subst e1;have hq:q'=e.q:=h2.WK hb.ko AC (.inr (.inl hb.b)) (Ol.C7 Px.1);subst hq;rcases h5 with⟨h6,_⟩|⟨x,h6,_⟩|⟨_,h6⟩
   .obtain⟨b,s,e4⟩:=hb.b;rw[h6.1] at e4;cases e4
   .obtain⟨b,s,e4⟩:=hb.b<;>grind [Br]
   .exact h6
  grind [Ol.pS]
 obtain⟨a1,a2,a3,a4⟩:=FU.AN;have hro:r.Al=o++e.q.o:=by
  rcases h with⟨q2,o2,sl2,q',h1,h2,h3,h4,h5⟩|⟨x,h1,_⟩
  .obtain⟨e1,e2,e3⟩:=h1.WK Ol;subst e1;subst e2;have hq:q'=e.q:=h2.WK hb.ko AC AC (Ol.C7 Px.1);rw[h3,hq]
  grind [Ol.pS]
 refine⟨a2.st,?_⟩;rcases hb.DU with⟨f1,f2,f3⟩|⟨x,f1,fw⟩
 .obtain⟨r2,cs',b1,b2,b3,b4,b5,b6,b7,b8,b9⟩:=vf hn a1 a4 a3 a2 hl hc FU.big hkt f1 f2;obtain⟨q3,k3,e3⟩:=Ml _ (Jf _) b2 b3;have hbg:=FU.big;obtain⟨m,u,c1,c2,c3,c4,c5,c6,_⟩:=Ym k3 b1 b2 b3 e3 Y;have hH:CH e.t (s0 e.t) (FT E (e.τ+1)) (BR e.q e.q2) (o++e.q.o++e.q2.o) (o++e.q.o).length:=by
   rw[Gv,yG];exact .DU rfl (Gv.1 hb.pre) hb.ko hb.b hb.kt f1 f2 f3
  refine⟨u,cs',ud e.q2.A5 C,AC,b7,b8,aI ev nx dc hC (λc w hw=>?_) (λc hw=>?_),.inl ⟨_,_,_,q3,hH,k3,by rw[c2,hro],by rw[c3,b6,hro],?_⟩⟩
  .obtain⟨v,hv⟩:=JE.1 hw.2<;>grind [ud]
  .unfold ud;cases hm:e.q2.A5 c with
   |none=>rfl
   |some v=>
    cases K7:e.w with
    |none=>rw[f3 K7 c] at hm;cases hm
    |some w=>exact Jk ⟨K7,by rw[hm];rfl⟩ (hw w)
  grind
 .obtain⟨u,c1,c2,c3,c4⟩:=nJ hn a1 a4 a3 a2 hl hc FU.big hkt f1;have hH:GG e.t (s0 e.t) (FT E (e.τ+1)) (o++e.q.o) x:=by
   rw[Mn,yG];exact .CS rfl (Gv.1 hb.pre) hb.ko hb.b hb.kt f1 fw
  refine⟨u,cs,C,c1,hl,hc,aI ev nx dc hC (λc w hw=>?_) AC,.inr ⟨x,by rw[c3,hro];exact hH,by rw[c4,c3],c2⟩⟩;exact Jk hw.1 (by rw[fw];grind)
structure Cq where
 Al:List Int
 An:Int
def RR.Ul (r:RR) (s:Cq):Bool:=
 decide (r.Bq<=J s.Al) && decide (J s.Al<=J r.Al) && decide (s.Al=r.Al.take (J s.Al)) && (decide (s.An=0) || (decide (s.An=r.An) && decide (J s.Al=J r.Al)))
def RR.parts (r:RR) (s:Cq):Bool:=decide (J s.Al<r.Bq) || !decide (s.Al.take (J r.Al)=r.Al.take (J s.Al))
theorem az {P:α->Prop} (f:α->Nat) (h:∃a,P a):∃a,P a/\∀b,P b->f a<=f b:=by
 obtain⟨a,ha⟩:=h;induction hn:f a using Nat.strongRecOn generalizing a<;>grind
theorem fR {l:List Nd} {a:Nat} {r:RR} (hg:TF t (FT E a)=TF t (FT E b)) (h:Tw l cells s0 E t a r):Tw l cells s0 E t b r:=by
 rcases h with⟨q,o,sl,q',h1,h2⟩|⟨x,h1,h2⟩
 .exact .inl ⟨q,o,sl,q',by rw[Gv,<-hg,<-Gv];exact h1,h2⟩
 .exact .inr ⟨x,by rw[Mn,<-hg,<-Mn];exact h1,h2⟩
theorem di {l:List Nd} {r:RR} (h0:s0.k.C7=I) (h:Tw l cells s0 E t τ r) (k:Ut s0 E t τ out st):r.Ul ⟨out,st⟩=V:=by
 unfold RR.Ul;rcases h with⟨q,o,sl,q',h1,h2,h3,h4,h5⟩|⟨x,h1,h2,h3⟩
 .rcases k with⟨q2,o2,sl2,q2',k1,k2,k3,k4,⟨z,k5⟩,k6⟩|⟨x,k1,_⟩
  .obtain⟨e1,e2,e3⟩:=h1.WK k1;subst e1;subst e2;subst e3;have hq:q'=q2':=h2.WK k2 AC k3 (h1.C7 h0);subst hq;have ho:r.Al=out++z:=AC;simp only[JB,QU,JD];refine⟨AC,?_⟩;by_cases Ay:st=0;grind
   .obtain⟨k7,k8⟩:=k6 Ay;refine .inr ⟨?_,by rw[k7,h3]⟩;rcases k8 with⟨k8,k9⟩|k8
    .rcases h5 with⟨_,h5⟩|⟨y,h5,_⟩|⟨⟨b,s,h5⟩,_⟩;grind
     .unfold Br at h5;rw[k9.1] at h5;cases h5
     .rw[k9.1] at h5;cases h5
    .rcases h5 with⟨h5,_⟩|⟨y,h5,h6⟩|⟨⟨b,s,h5⟩,_⟩
     .unfold Br at k8;rw[h5.1] at k8;cases k8
     grind;grind [Br]
  grind [h1.pS]
 .rcases k with⟨q2,o2,sl2,q2',k1,_⟩|⟨y,k1,k2⟩;grind [k1.pS];grind [h1.WK]
theorem oO {t τ:Nat}:∀{F:List Ev},(∀e,e∈F->e.t=t->e.τ<τ)->TF t (FT F τ)=TF t F
 |[],_=>rfl
 |b::F,h=>by
  have ih:=oO (F:=F) λe he=>h e (.tail _ he)
  rw[EJ];grind [VN]
theorem AcX (Z3:e.t=t):∀{F:List Ev},SZ F->(∀{q o l},CH t s0 (FT F e.τ) q o l->o++e.q.o=p)->e∈F->(∀{q:KS} {o:List Int} {l:Nat},CH t s0 F q o l->J p<=l/\∃z,o=p++z)/\∀{o:List Int} {r:Int},GG t s0 F o r->∃z,o=p++z:=by
 intro F;induction F with
 |nil=>intro _ _ he;cases he
 |cons a F ih=>
  intro hd hp he;have oy:=hd;rw[SZ,J8] at hd;have AfB:e∈F->(∀{q o l},CH t s0 (FT F e.τ) q o l->o++e.q.o=p):=λhm q o l h=>hp (by
    rw[EJ];split
    · rename_i h1;refine .skip (λh2=>?_) h;have:=hd.1 e hm (h2.trans Z3.symm);omega
    · exact h)
  have ZT:e=a->∀{q o l},CH t s0 F q o l->o++e.q.o=p:=λhm q o l h=>hp (by
    rw[EJ,<-hm,In AC];have Da:∀e',e'∈F->e'.t=t->e'.τ<e.τ:=AC;rw[Gv,show TF t (FT F e.τ)=TF t F from ?_,<-Gv]
    · exact h
    · exact oO Da)
  refine⟨λ{q o l} h=>?_,λ{o r} h=>?_⟩
  .cases h with
   |skip hne k=>
    cases he with
    |head=>grind
    |tail _ he=>exact(ih hd.2 (AfB he) he).1 k
   |DU h1 k ko b kt hs hk hm=>
    rename_i q1 o1 l1;cases he with
    |head=>
     have e1:=ZT rfl k;exact⟨by rw[e1];grind,e.q2.o,by rw[e1]⟩
    |tail _ he=>
     grind [ih hd.2 (AfB he) he]
  .cases h with
   |skip hne k=>
    cases he with
    |head=>grind
    |tail _ he=>exact(ih hd.2 (AfB he) he).2 k
   |CS h1 k ko b kt ht hw=>
    cases he with
    |head=>exact⟨[],by rw[ZT rfl k,Jr]⟩
    |tail _ he=>
     grind [ih hd.2 (AfB he) he]
theorem AlW {a:Nat} (h:a<=b):FT (FT E b) a=FT E a:=by
 induction E with
 |nil=>rfl
 |cons e E ih=>
  rw[EJ,EJ];grind [EJ]
theorem SZ.ft (h:SZ E) (τ:Nat):SZ (FT E τ):=List.Pairwise.filter _ h
theorem kH {y z:List Int} (h:p++y=out++z) (hl:J p<=J out):out.take (J p)=p:=by
 have:=JM (List.take (J p)) h;rw[jB,List.take_append_of_le_length hl] at this;grind
theorem Ael {l:List Nd} {sl:Nat} (h0:s0.k.C7=I) (hb:BOk s0 E e q o sl) {r:RR} (h:Tw l cells s0 E e.t e.τ r):r.Al=o++e.q.o/\r.Bq=sl/\r.An=0:=by
 rcases h with⟨q2,o2,sl2,q',h1,h2,h3,h4,h5⟩|⟨x,h1,_⟩
 .obtain⟨e1,e2,e3⟩:=h1.WK hb.pre;subst e1;subst e2;subst e3;have hq:q'=e.q:=h2.WK hb.ko AC (.inr (.inl hb.b)) (hb.pre.C7 h0);subst hq;refine⟨h3,h4,?_⟩;obtain⟨b,s,e4⟩:=hb.b;rcases h5 with⟨h6,_⟩|⟨x,h6,_⟩|⟨_,h6⟩
  .rw[h6.1] at e4;cases e4
  grind [Br]
  .exact h6.AN.2.1.st
 grind [hb.pre.pS]
section
variable {T n:Nat} {cells:Int} {s0:Nat->KS} {σ:Int->Nat} {N:Int} {E:List Ev} (ev:Evs T n cells s0 σ N E)
include ev
theorem TM {l:List Nd} {a:Nat} (ht:t<T) {r:RR} (h:Tw l cells (s0 t) E t a r) {out:List Int} {st:Int} (k:Ut (s0 t) E t b out st) (UG:∀e,e∈E->e.t=t->e.τ<a->e.τ<b):
  r.parts ⟨out,st⟩=I/\r.Bq<=J out/\((∃e,e∈E/\e.t=t/\a<=e.τ/\e.τ<b)->J r.Al<=J out):=by
 have h0:=(ev.nb t ht).1;by_cases hx:∃e,e∈E/\e.t=t/\a<=e.τ/\e.τ<b
 .obtain⟨e,⟨he,Z3,hea,heb⟩,Air⟩:=az (P:=λe=>e∈E/\e.t=t/\a<=e.τ/\e.τ<b) Ev.τ hx;subst Z3;have hg:TF e.t (FT E a)=TF e.t (FT E e.τ):=fS λe' BG IJ=>⟨λh1=>Y,λh1=>Classical.byContradiction λh2=>by
    have:=Air e' ⟨BG,IJ,Y,Y⟩;omega⟩
  obtain⟨q,o,sl,hb⟩:=ev.bok e he;obtain⟨c1,c2,_⟩:=Ael h0 hb (fR hg h);have NJ:e∈FT E b:=by unfold FT;rw[jM];exact⟨he,by simpa using heb⟩
  obtain⟨d1,d2⟩:=AcX (s0:=s0 e.t) (p:=o++e.q.o) rfl (ev.de.ft b) (λ{q2 o2 l2} hh=>by
    rw[AlW Y] at hh;rw[(hh.WK hb.pre).2.1]) NJ
  have hle:=hb.pre.le;have Ol:J r.Al<=J out/\out.take (J r.Al)=r.Al:=by
   rw[c1];rcases k with⟨q2,o2,sl2,q2',k1,k2,k3,k4,⟨z,k5⟩,_⟩|⟨x,k1,_⟩
   .obtain⟨d3,z2,d4⟩:=d1 k1;have h5:(o++e.q.o).length<=J out:=Y
    refine⟨h5,kH (y:=z2++q2'.o) (z:=z) ?_ h5⟩;rw[<-Jj,<-d4];exact k5
   .obtain⟨z,d4⟩:=d2 k1;rw[d4];exact⟨by simp only[GT];omega,jB ..⟩
  have hs:r.Bq<=J out:=by
   have:=Ol.1;rw[c1,GT] at this;rw[c2];omega
  refine⟨?_,hs,λ_=>Ol.1⟩;unfold RR.parts;rw[Ju (by show¬J out<_;omega),Q6,show(Cq.mk out st).Al=out from rfl,Ol.2,JV Ol.1,JC rfl];rfl
 .have hg:TF t (FT E a)=TF t (FT E b):=fS λe' BG IJ=>⟨UG e' BG IJ,λh1=>Classical.byContradiction λh2=>hx ⟨e',BG,IJ,Y,h1⟩⟩
  have hf:=di h0 (fR hg h) k;unfold RR.Ul at hf;simp only[JB,QU,JD] at hf;obtain⟨⟨⟨f1,f2⟩,f3⟩,_⟩:=hf;refine⟨?_,f1,λh=>Jk h hx⟩;unfold RR.parts;rw[Ju (by show¬J out<_;omega),Q6];have f2':J out<=J r.Al:=f2;have f3':out=r.Al.take (J out):=f3;rw[show(Cq.mk out st).Al=out from rfl,JV f2',<-f3',JC rfl];rfl
end
noncomputable def zw (l:List Nd) (r:RR) (cs:List Int):RR×List Int:=open Classical in if h:∃u:RR×List Int,I2 l r cs u.1 u.2 then Classical.choose h else (r,cs)
theorem vg {l:List Nd} {r u:RR} {cs cs':List Int} (h:I2 l r cs u cs'):zw l r cs=(u,cs'):=by
 have hx:∃u:RR×List Int,I2 l r cs u.1 u.2:=⟨(u,cs'),h⟩;unfold zw;rw[dif_pos hx];obtain⟨e1,e2⟩:=(Classical.choose_spec hx).WK h<;>grind
def F4 (rs:List RR) (m:List Cq):Bool:=(List.range (J rs)).all λt=>(rs.getD t .start).Ul (m.getD t ⟨[],0⟩)
def U8 (rs:List RR) (ah:List Bool):Bool:=(List.range (J rs)).all λt=> !(ah.getD t I) || !decide ((rs.getD t .start).An=0)
def iA (rs:List RR) (Du CF:List Cq):Bool:=(List.range (J rs)).any λt=>(rs.getD t .start).parts (CF.getD t ⟨[],0⟩) || decide ((Du.getD t ⟨[],0⟩).Al.length<(rs.getD t .start).Bq)
noncomputable def DL (P:List (List Nd)) (ah:List (List Bool)):Nat->List RR->List Int->List (List Cq)->Bool
 |0,_,_,_=>I
 |N+1,rs,cs,ms=>match ms.dropWhile (F4 rs) with
  |[]=>V
  |Du::rest=>if iA rs Du ((Du::rest).getLast AC) then I else
   (List.range (J rs)).any λt=>U8 rs (ah.getD t []) && decide ((rs.getD t .start).An=0) && decide ((rs.getD t .start).Al.length<=(Du.getD t ⟨[],0⟩).Al.length) &&
    DL P ah N (rs.set t (zw (P.getD t []) (rs.getD t .start) cs).1) (zw (P.getD t []) (rs.getD t .start) cs).2 (Du::rest)
theorem eX {α:Type} {p q:α->Bool}:∀{l:List α},(∀x,x∈l->q x=V->p x=V)->(∃x,x∈l/\p x=V/\q x=I)->l.countP q<l.countP p
 |[],_,⟨_,h,_⟩=>by cases h
 |a::l,hs,⟨x,hx,h1,h2⟩=>by
  rw[List.countP_cons,List.countP_cons];have hle:l.countP q<=l.countP p:=List.countP_mono_left AC;have ha:=hs a (.head _);cases hx with
  |head=>rw[h1,h2];simp;omega
  |tail _ hx=>
   have:=eX AC ⟨x,hx,h1,h2⟩;grind
def left (E:List Ev) (κ:Nat->Nat):Nat:=E.countP λe=> !decide (e.τ<κ e.t)
def F3 (T:Nat) (m:ti):List Cq:=(List.range T).map λt=>⟨m.out t,m.st t⟩
theorem V4 (m:ti) (ht:t<T):(F3 T m).getD t ⟨[],0⟩=⟨m.out t,m.st t⟩:=by
 grind [F3]
def Al2 (P:List (List Nd)) (cells:Int) (s0:Nat->KS) (T:Nat) (E:List Ev) (ah:List (List Bool)):Prop:=
 ∀t u,t<T->u<T->(ah.getD t []).getD u I=V->(∀e e',e∈E->e'∈E->e.t=u->e'.t=t->e.τ<e'.τ)/\∀τ r,(∀e,e∈E->e.t=u->e.τ<τ)->Tw (P.getD u []) cells (s0 u) E u τ r->r.An≠0
structure SI (P:List (List Nd)) (T n:Nat) (cells:Int) (s0:Nat->KS) (E:List Ev) (κ:Nat->Nat) (rs:List RR) (cs:List Int) (ms:List ti):Prop where
 rl:J rs=T
 PQ:∀t,t<T->Tw (P.getD t []) cells (s0 t) E t (κ t) (rs.getD t .start)
 cl:J cs=n
 cv:∃C:Nat->Int,(∀c,c<n->cs.getD c 0=C c)/\∀c,∃w,En (HK E κ) c (C c) w
 dc:DC E κ
 so:ms.Pairwise λa b=>a.τ<=b.τ
 ok:∀m,m∈ms->∀t,t<T->Ut (s0 t) E t m.τ (m.out t) (m.st t)
 lt:∀m,m∈ms->∀e,e∈E->e.τ<κ e.t->e.τ<m.τ
theorem Tr (p:α->Bool):∀l:List α,∃a,l=a++l.dropWhile p
 |[]=>⟨[],rfl⟩
 |x::l=>by
  rw[QA];split;grind [Tr p l]
  .exact⟨[],rfl⟩
theorem RF {p:α->Bool} {x:α} {r:List α}:∀{l:List α},l.dropWhile p=x::r->p x=I
 |[],h=>by cases h
 |a::l,h=>by
  rw[QA] at h;split at h
  .exact RF h
  .rename_i h1;cases h;simpa using h1
theorem Tt {β:Type} (f:α->β) (p:β->Bool):∀l:List α,(l.map f).dropWhile p=(l.dropWhile λx=>p (f x)).map f
 |[]=>rfl
 |a::l=>by
  rw[Jt,QA,QA];split
  .exact Tt f p l
  .rfl
theorem kZ {s0:Nat->KS} (ev:Evs T n cells s0 σ N E) (hn:n=cells.toNat) {P:List (List Nd)} {ah:List (List Bool)} (hah:Al2 P cells s0 T E ah):
  ∀(F:Nat) {κ:Nat->Nat} {rs:List RR} {cs:List Int} {ms:List ti},left E κ<F->SI P T n cells s0 E κ rs cs ms->DL P ah F rs cs (ms.map (F3 T))=V:=by
 intro F;induction F with
 |zero=>grind
 |succ F ih=>
  intro κ rs cs ms hF hs;obtain⟨rl,PQ,cl,⟨C,cv1,cv2⟩,dc,so,ok,lt⟩:=hs;unfold DL;rw[Tt];obtain⟨pre,Ol⟩:=Tr (λm=>F4 rs (F3 T m)) ms;cases hd:ms.dropWhile λm=>F4 rs (F3 T m) with
  |nil=>rfl
  |cons m rest=>
   rw[hd] at Ol;have bS:∀m',m'∈m::rest->m'∈ms:=AC;have hso:(m::rest).Pairwise λa b=>a.τ<=b.τ:=by rw[Ol] at so;grind
   have hmm:=bS m (.head _);have Afz:=RF hd;have hex:∃e,e∈E/\e.τ<m.τ/\¬e.τ<κ e.t:=by
    refine Classical.byContradiction λhx=>?_
    have:F4 rs (F3 T m)=V:=by
     unfold F4;rw[J3];intro t ht;rw[J6,rl] at ht;rw[V4 m ht];refine di (ev.nb t ht).1 (fR (fS λe he Z3=>?_) (PQ t ht)) (ok m hmm t ht)<;>grind
    rw[this] at Afz;cases Afz
   obtain⟨e1,h11,h12,h13⟩:=hex;obtain⟨e,⟨he,XJ⟩,Air⟩:=az (P:=λe=>e∈E/\¬e.τ<κ e.t) Ev.key AC;have nx:Nxt E κ e:=⟨he,XJ,AC⟩;have hem:e.τ<m.τ:=by
    have:=Air e1 ⟨h11,h13⟩;unfold Ev.key at this;split at this<;>split at this<;>omega
   have ht:=ev.tt e he;obtain⟨st0,u,cs',C',b1,b2,b3,b4,b5⟩:=Aay ev hn nx dc cv2 cl cv1 (PQ e.t ht);have FR:∃z,z∈m::rest/\(m::rest).map (F3 T)=(m::rest).map (F3 T)/\((m::rest).map (F3 T)).getLast EQ=F3 T z:=⟨(m::rest).getLast EQ,AC,rfl,by rw[List.getLast_map]⟩;obtain⟨z,hz,_,MH⟩:=FR;have hmz:m.τ<=z.τ:=by
    grind [List.pairwise_cons]
   have AnP:∀t,t<T->(rs.getD t .start).parts ⟨z.out t,z.st t⟩=I/\(rs.getD t .start).Bq<=(m.out t).length:=λt ht=>by
    have hlm:∀e,e∈E->e.t=t->e.τ<κ t->e.τ<m.τ:=AC;exact⟨(TM ev ht (PQ t ht) (ok z (bS z hz) t ht) AC).1,(TM ev ht (PQ t ht) (ok m hmm t ht) hlm).2.1⟩
   have NL:iA rs (F3 T m) (((m::rest).map (F3 T)).getLast EQ)=I:=by
    grind [iA,V4]
   show(if iA rs (F3 T m) (((m::rest).map (F3 T)).getLast _)=V then I else _)=V;rw[In (by rw[NL];grind),Qp];refine⟨e.t,by rw[J6,rl];exact ht,?_⟩;simp only[JB,JD];refine⟨⟨⟨?_,st0⟩,?_⟩,?_⟩
   .unfold U8;rw[J3];intro v hv;rw[J6,rl] at hv;cases XR:(ah.getD e.t []).getD v I with
    |false=>rfl
    |true=>
     obtain⟨a1,a2⟩:=hah e.t v ht hv XR;have:=a2 (κ v) (rs.getD v .start) (λe' BG AkT=>Classical.byContradiction λh2=>by
       have h3:=nx.min e' BG (by rw[AkT];exact h2);have h4:=a1 e' e BG he AkT rfl;unfold Ev.key at h3;split at h3<;>split at h3<;>omega) AC
     rw[Ju this];rfl
   grind [V4,TM,Evs]
   .rw[vg b1];refine ih (κ:=A7 κ e.t (e.τ+1)) (ms:=m::rest) ?_ ⟨by rw[Jp];exact rl,λt' IJ=>?_,b2,⟨C',b3,b4⟩,Agr ev nx dc,hso,AC,λm' eA e' BG h=>?_⟩
    .refine JQ (eX (λe' BG h=>?_) ⟨e,he,by simpa using XJ,by simp[Au]⟩) (Nat.le_of_lt_succ hF)<;>grind [A7]
    grind [Au,Ba];grind [List.pairwise_cons,Nu,GJ.2 ⟨BG,h⟩,GJ]
theorem AaA (h:M5 s0 E t g out):(∃q o l,CH t s0 E q o l)\/∃o r,GG t s0 E o r:=by
 unfold M5 at h;cases hp:g.ph<;>rw[hp] at h<;>dsimp only at h<;>first
  |(obtain⟨_,q,o,l,h1,_⟩|⟨_,r,h1,_⟩:=h<;>first|exact AC|exact AC;done)
  |(obtain⟨o,h1,_⟩:=h;exact AC)
  |(obtain⟨_,q,o,l,h1,_⟩:=h;exact .inl ⟨_,_,_,h1⟩)
structure vN (T:Nat) (A:AM) (G:Nat->Gt) (h:GH) (bg:List Bool) (ah:List (List Bool)):Prop where
 aj:∀t,t<T->bg.getD t I=I->(∀e,e∈h.E->e.t≠t)/\ET (G t)=I/\(A.th t).st=0
 ord:∀t u,t<T->u<T->(ah.getD t []).getD u I=V->bg.getD t I=V/\∃α,α<=h.Du/\(A.th u).st≠0/\(∀e,e∈h.E->e.t=u->e.τ<α)/\(∀e,e∈h.E->e.t=t->α<=e.τ)/\(ET (G t)=V->α<=h.pc t)
section
variable {T:Nat} {A A':AM} {G G':Nat->Gt} {h h':GH} {bg:List Bool} {ah:List (List Bool)} (a:vN T A G h bg ah)
include a
theorem vN.step {k:Nat} (s:fC k A G h A' G' h') (hb:bg.getD k I=V):vN T A' G' h' bg ah:=by
 have hE:∀e,e∈h'.E->e∈h.E\/(e.t=k/\(h.Du<=e.τ\/(ET (G k)=V/\h.pc k<=e.τ))/\¬(A.th k).st≠0):=λe he=>by
  grind [fC]
 have Ay:∀u,(A.th u).st≠0->(A'.th u).st≠0:=λu hu=>by
  grind [fC]
 refine⟨λt ht hbt=>?_,λt u ht hu XR=>?_⟩;grind [vN,fC]
 .obtain⟨b0,α,b1,b2,b3,b4,b5⟩:=a.ord t u ht hu XR;have:=s.Du;refine⟨b0,α,Y,Ay u b2,λe he Z3=>?_,λe he Z3=>?_,λha=>?_⟩<;>grind [fC]
theorem vN.Ck (hs:∀u,(A'.th u).st=(A.th u).st):vN T A' G h bg ah:=
 ⟨λt ht hb=>(let ⟨b1,b2,b3⟩:=a.aj t ht hb;AC),λt u ht hu XR=>(let ⟨b0,α,b1,b2,b3⟩:=a.ord t u ht hu XR;⟨b0,α,b1,by rw[hs];exact b2,b3⟩)⟩
theorem vN.begin (ht:t<T) (ES:J bg=T) (hal:J ah=T) (Afy:∀e,e∈h.E->e.τ<h.Du) (hb:bg.getD t I=I) {l:List Bool} (hl:∀u,u<T->l.getD u I=V->(A.th u).st≠0):vN T A G h (bg.set t V) (ah.set t l):=by
 obtain⟨f1,f2,f3⟩:=a.aj t ht hb;refine⟨λu hu hbu=>?_,λv u hv hu XR=>?_⟩;grind [vN]
 .rw[B4 _ _ _ _ _ Y] at XR;rw[B4 _ _ _ _ _ Y];split at XR
  .rename_i e;subst e;exact⟨AC,h.Du,AC,AC,AC,AC,AC⟩
  grind [vN]
end
theorem AiO {s0:Nat->KS} {h:GH} {ms:List ti} (w:WM X T n M s0 K R A G h ms) (h0:∀t,t<T->(s0 t).k.C7=I/\NP cells (s0 t).R (.rest (s0 t).s (s0 t).k)):Evs T n cells s0 h.σ (A.sm 16) h.E where
 s2:=w.wa.wi.s2
 Pu:=w.wa.wi.Pu
 de:=w.de
 kp:=λe he=>⟨(w.wa.wi.ev e he).2.2.1,(w.wa.wi.ev e he).2.2.2.2⟩
 rd:=λe he c v hv=>((w.wa.wi.ev e he).2.2.2.1 c v hv).1
 tt:=w.tt
 bok:=λe he=>AcY w.de (AaA (w.wa.th e.t (w.tt e he))) e he rfl
 nb:=h0
theorem Alu {s0:Nat->KS} {h:GH} {ms:List ti} (w:WM X T n M s0 K R A G h ms) (h0:∀t,t<T->(s0 t).k.C7=I) {bg:List Bool} {ah:List (List Bool)} (a:vN T A G h bg ah) (P:List (List Nd)):Al2 P cells s0 T h.E ah:=λt u ht hu XR=>by
 obtain⟨_,α,b1,b2,b3,b4,b5⟩:=a.ord t u ht hu XR;refine⟨AC,λτ r Da hr=>?_⟩;have htf:TF u (FT h.E τ)=TF u h.E:=oO Da;have BM:=w.wa.l1.DU u hu b2;have Ex:=w.wa.th u hu;have hkt:∀{q:KS} {x:Int},Br q=U x->x≠0:=λhx e0=>by rcases Oj hx with e'|e'<;>rw[e'] at e0<;>cases e0
 unfold M5 at Ex;rw[BM] at Ex;rcases Ex with⟨hi,q,o,l,h1,h2,h3⟩|⟨hi,x,h1,h2⟩
 .have Akh:=w.wa.sp u hu b2;rcases hr with⟨q2,o2,sl2,q',k1,k2,k3,k4,k5⟩|⟨x,k1,_⟩
  .rw[Gv,htf,<-Gv] at k1;obtain⟨e1,_,_⟩:=k1.WK h1;subst e1;have hq:q'=(G u).q:=k2.WK h2 AC AC (k1.C7 AC);subst hq;rcases k5 with⟨_,k5⟩|⟨x,k5,k6⟩|⟨⟨b,s,k5⟩,_⟩;grind;grind
   .rcases Akh with⟨_,h5⟩|h5
    .rw[h5.1] at k5;cases k5
    grind [Br]
  .rw[Mn,htf,<-Mn] at k1;grind [h1.pS]
 .rcases hr with⟨q2,o2,sl2,q',k1,_⟩|⟨y,k1,k2,k3⟩
  .rw[Gv,htf,<-Gv] at k1;grind [k1.pS]
  .rw[Mn,htf,<-Mn] at k1;grind [k1.WK]
