/- Part 24 of the proof. -/
import Derived.Test.YtpdfifdlhpmofaaGreatDoorC23
import Derived.Test.YtpdfifdlhpmofaaGreatDoorC22
set_option linter.unusedVariables false
set_option linter.unusedSimpArgs false
set_option maxHeartbeats 0
set_option maxRecDepth 99999
namespace Go.Proofs.YtpdfifdlhpmofaaGreatDoor
open Go.RowKit
open Value renaming slice->m9,string->qA,bool->qB,tuple->qC,agg->qD,pointer->qE
open Ending renaming returned->qF
open Obj renaming cells->qG
open Option renaming none->Z,some->U
open Bool renaming true->V,false->I
open Go.Lib renaming hid->D
open List renaming length->J
theorem nas {p:Prop} (h:p:=by
 rw[h.Aa,Je,JS,Je,Ja ht];rfl):p:=h
variable {n t k:Nat} {G:Nat->Gt} {Ab:Nat->List GI} {cells K:Int} {R:Al} {A:AM} {l:List Nd} {P:List (List Nd)} {o:List Nat} {cs:List Int}
section
variable {y:qH} {p:RP} (h:PS y p) {f z:List Int} (hp:PT p f z)
include h
theorem rM:(R0 y).ts.length=J y.Aa:=by
 have:=(eE h).tl;exact this
theorem ud:AiY (F8 y) (J y.Aa):=by
 have hC:=Y7 h;obtain⟨h1,_⟩:=IT h;refine⟨λk hk=>hC.ok k hk,λk hk=>?_⟩;have:=(h1 _ (Qf.2 ⟨k,Qo.2 hk,rfl⟩)).1;show(Ga y.cells k (y.Aa.getD k .nil)).length<=4000;omega
theorem ct:Vv (F8 y) (R0 y) 0:=λk hk=>by
 rw[rM h] at hk;rw[AdE h hk];exact⟨rfl,Jf _⟩
theorem vW {gs:List Lf} (hg:J gs=(R0 y).ts.length):rQ gs (R0 y):=by
 refine⟨hg,by rw[rM h];exact(IT h).2.2.2,J8 ..,λt ht=>?_⟩;obtain⟨c,_,rfl⟩:=Qf.1 ht;exact⟨rfl,by show([]:List (Int×Int)).length<=4;decide,λq hq=>by cases (show q∈([]:List (Int×Int)) from hq)⟩
include hp
end
section
variable {y:qH} {p:RP} (h:PS y p) {f z:List Int} (hp:PT p f z)
include h hp
omit h hp in
end
structure Wst where
 R:Al
 bg:List Bool
 ms:List (List FR)
 ah:List (List Bool)
def LU (T:Nat) (R:Al):List FR:=(List.range T).map λt=>⟨(R.th t).out,(R.th t).Au⟩
structure WW (X:Nat->Cx) (T n M:Nat) (s0:Nat->KS) (K:Int) (s:Wst) (A:AM) (G:Nat->Gt) (h:GH) (ms:List yW):Prop where
 wm:WM X T n M s0 K s.R A G h ms
 ai:im T A G h s.bg s.ah
 sm:s.ms=ms.map (AgT T)
 so:ms.Pairwise λa b=>a.τ<=b.τ
 bl:J s.bg=T
 al:J s.ah=T
section
variable {X:Nat->Cx} {T n M:Nat} {s0:Nat->KS} {Ab:Nat->List GI} (hC:MCx X T n Ab) {K:Int} {A:AM} {G:Nat->Gt} {h:GH} {ms:List yW}
include hC
end
section
theorem PO {α:Type} (x d:α) (ht:t<n):(List.replicate n x).getD t d=x:=by
 rw[Je,Qx,Jb ht];rfl
variable {y:qH} {p:RP} (h:PS y p)
include h
theorem Agb (ht:t<J y.Aa):(IX y t).k.Db=I/\Om y.cells (IX y t).R (.rest (IX y t).s (IX y t).k):=⟨rfl,(OY h _ (Sh ht)).1,trivial⟩
theorem zx:∃G,WM (Oe y) (J y.Aa) y.cells.toNat 54790 (IX y) 0 (R0 y) A0 G ⟨[],λ_=>0,λ_=>0,0⟩ []/\∀t,t<J y.Aa->∃q',G t=DJ q'/\Ij D9 (IX y t) q':=by
 obtain⟨G,hi,hG⟩:=start h;have hC:=Y7 h;have hpd:∀t,t<J y.Aa->Du (G t)=I/\Dw (G t)=I:=λt ht=>by
  obtain⟨q',e,_⟩:=hG t ht;rw[e];exact⟨Sc q',LZ q'⟩
 have hh:∀t,t<J y.Aa->BR (G t)=D9/\AH y.cells.toNat (G t)=[]:=λt ht=>by
  obtain⟨q',e,_⟩:=hG t ht;have:=Ef y.cells.toNat q';rw[e];exact⟨this.1,this.2.1⟩
 have wm:WM (Oe y) (J y.Aa) y.cells.toNat 54790 (IX y) 0 (R0 y) A0 G ⟨[],λ_=>0,λ_=>0,0⟩ []:=by
  refine⟨hi.uu,⟨hi.l1,⟨⟨λc hc _=>⟨0,0,.inr ⟨rfl,rfl,λe he=>by cases he⟩,rfl,rfl⟩,λt c lv ht hc hv=>?_,λt c u ht hc hu=>?_,λt ht=>?_⟩,λw h1 h2=>?_,λw w' h1 h2 h3=>?_,λe e' he=>(by cases he),λe he=>(by cases he),λt ht hp=>(by rw[(hpd t ht).1] at hp;cases hp),λt ht ha=>(by rw[(hpd t ht).2] at ha;cases ha)⟩,λt ht=>?_,λt ht hx=>Jk rfl hx⟩,λm hm=>(by cases hm),.nil,λe he=>(by cases he)⟩
  .have Vc:BR (G t) c=U lv:=hv;rw[(hh t ht).1] at Vc;cases Vc
  .unfold I6 at hu;rw[(hh t ht).2] at hu;cases hu
  .unfold I6;rw[(hh t ht).2];exact DOk.nil _
  .have h2':w<=0:=h2;omega
  .have h3':w'<=0:=h3;omega
  .obtain⟨q',e,k⟩:=hG t ht;rw[e];have:=UL (t:=t) (s0:=IX y t) (E:=[]) (o:=[]) .nil k.Ae2 (k.Db.trans rfl);rw[k.Aet rfl] at this;exact this
 exact⟨G,wm,hG⟩
omit h in
theorem Adw (hG:∀t,t<J y.Aa->∃q',G t=DJ q'/\Ij D9 (IX y t) q'):im (J y.Aa) A0 G ⟨[],λ_=>0,λ_=>0,0⟩ (List.replicate (J y.Aa) I) (List.replicate (J y.Aa) (List.replicate (J y.Aa) I)):=by
 refine⟨λt ht _=>⟨λe he=>(by cases he),?_,rfl⟩,λt u ht hu ZB=>?_⟩
 .obtain⟨q',e,_⟩:=hG t ht;rw[e];exact LZ q'
 .rw[PO _ _ ht,PO _ _ hu] at ZB;cases ZB
theorem uT (ht:t<J y.Aa) {m:Nat} {r:RR} {E:List Ev} (hr:Gd (p.Aa.getD t []) m .start r):M5 (p.Aa.getD t []) y.cells (IX y t) E t 0 r:=by
 have e:p.Aa.getD t []=Ca (y.Aa.getD t .nil) 0 0:=by
  exact nas
 rw[e] at hr⊢;have hF:FT E 0=[]:=by unfold FT;rw[List.filter_eq_nil_iff];intro e _;simp
 have h0:FI (Ca (y.Aa.getD t .nil) 0 0) 0 (λ_=>0) [] (IX y t) .start []:=
  ⟨⟨λj x hx=>by show(Ca _ 0 0)[0+j]?=_;rw[JH];exact hx,by show 0+Di _=_;rw[CX,JH];rfl⟩,rfl,λi hi=>by match i,hi with|0,_=>rfl|1,_=>rfl|2,_=>rfl|3,_=>rfl,rfl,trivial,rfl,rfl,rfl,λc hc=>Jk hc (Q3 c)⟩
 obtain⟨w1,w2⟩:=Agb h ht;obtain⟨q3,k3,e3⟩:=NY _ (Jf _) w2 w1;obtain⟨m',u,b1,b2,b3,b4,b5,b6,_⟩:=fN k3 h0 w2 w1 e3 (bZ (OY h _ (Sh ht)).2);obtain⟨rfl,_⟩:=hr.ie b1;refine .inl ⟨IX y t,[],0,q3,by rw[hF];exact .nil,k3,b2,b3,?_⟩;rcases e3 with e3|e3|⟨x,e3⟩
 .exact .inl ⟨e3,b4 e3⟩
 .exact .inr (.inr ⟨e3,(b6 e3).1⟩)
 .exact .inr (.inl ⟨x,e3,b5 x e3⟩)
end
section
section
variable {X:Nat->Cx} {T n M:Nat} {s0:Nat->KS} {Ab:Nat->List GI} (hC:MCx X T n Ab) {ms:List yW} {bg:List Bool} {ah:List (List Bool)} {k:Nat} (hk:k<T) (hb:bg.getD k I=V)
include hC hk hb
theorem zy:∀(m:Nat) {K:Int} {R:Al} {A:AM} {G:Nat->Gt} {h:GH},WM X T n M s0 K R A G h ms->im T A G h bg ah->(R.th k).waits=[]->K+m<1000000000000000000->
  ∃A' G' h',WM X T n M s0 (K+m) (R.C8 Ab k m) A' G' h' ms/\im T A' G' h' bg ah/\((R.C8 Ab k m).th k).waits=[]/\∀u,u≠k->A'.th u=A.th u/\G' u=G u:=by
 intro m;induction m with
 |zero=>intro K R A G h w a hw _;exact⟨A,G,h,by rw[show K+(0:Nat)=K by omega];exact w,a,hw,λ_ _=>⟨rfl,rfl⟩⟩
 |succ m ih=>
  intro K R A G h w a hw hK;unfold Al.C8;by_cases h0:(R.th k).Au=0
  .rw[Jb h0];obtain⟨A1,G1,h1,w1,s1⟩:=w.step hC Y hk;obtain⟨A2,f,ha,Mi,_⟩:=w1.uu.Cm hC.hB hC.hT hk;obtain⟨_,_,f1,_,_,f2⟩:=f.l1 hC.h6 hC.hX hk w1.wa.l1 Y;have w2:WM X T n M s0 (K+1) (R.Wu Ab k) A2 G1 h1 ms:=⟨ha,w1.wa.fls hC.h6 hC.hX hk f Y,w1.mo,w1.de,w1.tt⟩;have a2:im T A2 G1 h1 bg ah:=(a.step s1 hb).C7 λu=>by
    by_cases hu:u=k
    .subst hu;exact f1
    .rw[f2 u hu]
   obtain⟨A',G',h',w3,a3,b3,c3⟩:=ih w2 a2 Mi Y;refine⟨A',G',h',by rw[show K+(m+1:Nat)=K+1+m by omega];exact w3,a3,b3,λu hu=>?_⟩;obtain⟨d1,d2⟩:=c3 u hu;obtain⟨e1,e2,_⟩:=s1.oth u hu;exact⟨by rw[d1,f2 u hu,e1],by rw[d2,e2]⟩
  .rw[In h0];exact⟨A,G,h,⟨w.uu,w.wa.bN (by have:=w.wa.l1.c0.2;omega),w.mo,w.de,w.tt⟩,a,hw,λ_ _=>⟨rfl,rfl⟩⟩
end
theorem yp {M:Al} {u:Nat} (hk:k<J M.ts) (h:u≠k):(Al.C8 Ab k n M).th u=M.th u:=by
 rw[Sw hk];have e:∀s:CH×List Int,(M.put k s).th u=if u=k then s.1 else M.th u:=λs=>Tm hk
 rw[e,In h]
theorem ID:∀(s:Bj) (d:Nat) (i:Bool),WF cells s d i->TS (λ_=>True) (λ_=>True) s
 |.nil,_,_,_=>trivial
 |.set _ _ _ _ r,d,i,h=>ID r d i h.2.2.2.2
 |.get _ _ _ _ r,d,i,h=>⟨⟨h.2.1.1,λ_ _ _=>trivial⟩,ID r d i h.2.2.2.2⟩
 |.put _ _ _ _ r,d,i,h=>⟨⟨h.1.1,λ_ _ _=>trivial⟩,ID r d i h.2.2.2.2⟩
 |.out _ r,d,i,h=>ID r d i h.2
 |.atomic b r,d,i,h=>⟨ID b (d+1) V h.2.2.1,ID r d i h.2.2.2⟩
 |.Es _ b r,d,i,h=>⟨ID b (d+1) i h.2.2.1,ID r d i h.2.2.2⟩
 |.loop _ b r,d,i,h=>⟨ID b (d+1) i h.2.2.1,ID r d i h.2.2.2⟩
def OE (Ab:Nat->List GI):List Nat->Al->Al
 |[],R=>R
 |k::o,R=>OE Ab o (R.C8 Ab k 200000)
structure yz (y:qH) (dn todo:List Nat) (K:Int) (R:Al) (A:AM) (G:Nat->Gt) (h:GH) (bg:List Bool) (ah:List (List Bool)):Prop where
 wm:WM (Oe y) (J y.Aa) y.cells.toNat 54790 (IX y) K R A G h []
 ai:im (J y.Aa) A G h bg ah
 bl:J bg=J y.Aa
 al:J ah=J y.Aa
 sw:∀t,t<J y.Aa->(R.th t).waits=[]
 new:∀t,t<J y.Aa->t∈todo->bg.getD t I=I/\∃q',G t=DJ q'/\Ij D9 (IX y t) q'
 fD:∀t,t<J y.Aa->t∉todo->(A.th t).st≠0/\bg.getD t I=V
 dm:∀t,t∈dn->t<J y.Aa/\t∉todo
 ord:dn.Pairwise λa b=>(ah.getD b []).getD a I=V
variable {y:qH} {p:RP} (hp:PS y p)
include hp
theorem yz.next {dn todo:List Nat} {h:GH} {bg:List Bool} {ah:List (List Bool)} (s:yz y dn (k::todo) K R A G h bg ah) (hk:k<J y.Aa) (EG:k∉todo) (hK:K+200000<10000000000000):
  ∃A' G' h',yz y (dn++[k]) todo (K+200000) (R.C8 (F8 y) k 200000) A' G' h' (bg.set k V) (ah.set k ((List.range (J y.Aa)).map λu=> !decide (u∈k::todo))):=by
 have hC:MCx (Oe y) (J y.Aa) y.cells.toNat (F8 y):=Y7 hp;obtain⟨n1,q',n2,n3⟩:=s.new k hk (.head _);have Afc:∀u,u<J y.Aa->((List.range (J y.Aa)).map λu=> !decide (u∈k::todo)).getD u I= !decide (u∈k::todo):=λu hu=>by
  rw[Je,JS,jK hu];rfl
 have a1:im (J y.Aa) A G h (bg.set k V) (ah.set k ((List.range (J y.Aa)).map λu=> !decide (u∈k::todo))):=s.ai.begin hk s.bl s.al (λe he=>(s.wm.wa.wi.ev e he).1) n1 λu hu hx=>by
  rw[Afc u hu] at hx;exact(s.fD u hu (by simpa using hx)).1
 have Xx:(bg.set k V).getD k I=V:=by rw[B6 _ _ _ _ _ (by rw[s.bl];exact hk),Jb rfl]
 obtain⟨A',G',h',w,a2,b2,c2⟩:=zy hC hk Xx 200000 s.wm a1 (s.sw k hk) Y;have Ae8:uv (Oe y) (J y.Aa) y.cells.toNat 54790 K (λ_=>True) A G k:=by
  refine⟨s.wm.wa.l1,?_,λu hu hne c _ _=>?_⟩
  .rw[n2];exact fC (n3.tq ⟨ID _ _ _ (OY hp _ (Sh hk)).1.1,trivial,λc hc=>trivial⟩)
  .have AjW:(A.th u).sw=[]:=by rw[(s.wm.uu.th u hu).sw,s.sw u hu];rfl
   by_cases tn:u∈k::todo
   .obtain⟨_,q2,m2,_⟩:=s.new u hu tn;have:=Ef y.cells.toNat q2;rw[m2,AjW,this.1,this.2.1];exact⟨rfl,λv hv=>by cases hv⟩
   .have BJ:=s.wm.wa.l1.D1 u hu (s.fD u hu tn).1;rw[AjW,Dj (show CS (G u)=I by unfold CS;rw[BJ]),show AH y.cells.toNat (G u)=[] by unfold AH;rw[BJ]];exact⟨rfl,λv hv=>by cases hv⟩
 have Xu:((R.C8 (F8 y) k 200000).th k).Au≠0:=rj hC s.wm.uu Ae8 hk Y Do;refine⟨A',G',h',w,a2,by rw[Ju];exact s.bl,by rw[Ju];exact s.al,λt ht=>?_,λt ht htd=>?_,λt ht htd=>?_,λt htd=>?_,QR.2 ⟨?_,List.pairwise_singleton _ _,λa ha b hb=>?_⟩⟩
 .by_cases e:t=k
  .subst e;exact b2
  .rw[yp (by rw[s.wm.uu.tl];exact hk) e];exact s.sw t ht
 .have hne:t≠k:=λe=>EG (e▸htd)
  obtain⟨m1,m2⟩:=s.new t ht (.tail _ htd);exact⟨by rw[B6 _ _ _ _ _ (by rw[s.bl];exact hk),In hne];exact m1,by rw[(c2 t hne).2];exact m2⟩
 .by_cases e:t=k
  .subst e;exact⟨by rw[<-(w.uu.th t ht).st];exact Xu,Xx⟩
  .obtain⟨m1,m2⟩:=s.fD t ht (λh1=>by cases h1 with|head=>exact e rfl|tail _ h1=>exact htd h1);exact⟨by rw[(c2 t e).1];exact m1,by rw[B6 _ _ _ _ _ (by rw[s.bl];exact hk),In e];exact m2⟩
 .rcases Jp.1 htd with h1|h1
  .obtain⟨m1,m2⟩:=s.dm t h1;exact⟨m1,λh3=>m2 (.tail _ h3)⟩
  .rw[GE] at h1;rw[h1];exact⟨hk,EG⟩
 .refine s.ord.imp_of_mem λ{a b} ha hb Vj=>?_
  have Xx:b≠k:=λe=>(s.dm b hb).2 (e▸ .head _)
  rw[B6 _ _ _ _ _ (by rw[s.al];exact hk),In Xx];exact Vj
 .rw[GE] at hb;subst hb;obtain⟨m1,m2⟩:=s.dm a ha;rw[B6 _ _ _ _ _ (by rw[s.al];exact hk),Jb rfl,Afc a m1,JJ m2];rfl
end
inductive Z4 (l:List Nd):RR->List Int->RR->List Int->Prop
 |done {r:RR} {cs:List Int} (h:r.Au≠0):Z4 l r cs r cs
 |step {r r1 r2:RR} {cs cs1 cs2:List Int} (h:r.Au=0) (b:Pk l r cs r1 cs1) (k:Z4 l r1 cs1 r2 cs2):Z4 l r cs r2 cs2
inductive bF (P:List (List Nd)) (show_:Nat->List Int->Int->Prop):List Nat->List Int->Prop
 |nil (cs:List Int):bF P show_ [] cs
 |cons {t m:Nat} {o:List Nat} {r u:RR} {cs cs':List Int} (h:Gd (P.getD t []) m .start r) (k:Z4 (P.getD t []) r cs u cs') (s:show_ t u.An u.Au) (z:bF P show_ o cs'):bF P show_ (t::o) cs
section
variable {T n:Nat} {cells:Int} {s0:Nat->KS} {σ:Int->Nat} {N:Int} {E:List Ev} (ev:Evs T n cells s0 σ N E) (hn:n=cells.toNat)
include ev hn
theorem oa (ht:t<T) (BZ:∀τ r,(∀e,e∈E->e.t=t->e.τ<τ)->M5 l cells (s0 t) E t τ r->r.Au≠0):
  ∀(m:Nat) {κ:Nat->Nat} {r:RR} {cs:List Int} {C:Nat->Int},left E κ<=m->DC E κ->(∀e e',e∈E->e'∈E->e.t=t->e'.t≠t->¬e.τ<κ t->¬e'.τ<κ e'.t->e.τ<e'.τ)->J cs=n->(∀c,c<n->cs.getD c 0=C c)->(∀c,∃w,DW (HK E κ) c (C c) w)->M5 l cells (s0 t) E t (κ t) r->
   ∃κ' u cs',∃C':Nat->Int,Z4 l r cs u cs'/\DC E κ'/\(∀v,v≠t->κ' v=κ v)/\(∀e,e∈E->e.t=t->e.τ<κ' t)/\J cs'=n/\(∀c,c<n->cs'.getD c 0=C' c)/\(∀c,∃w,DW (HK E κ') c (C' c) w)/\M5 l cells (s0 t) E t (κ' t) u:=by
 intro m;induction m with
 |zero=>
  intro κ r cs C hm dc AhY hl hc hC hr;have DT:∀e,e∈E->e.t=t->e.τ<κ t:=λe he Rs=>Classical.byContradiction λhx=>by
   have h1:(0:Nat)<left E κ:=by
    unfold left;rw[List.countP_pos_iff];exact⟨e,he,by rw[Rs];simpa using hx⟩
   omega
  exact⟨κ,r,cs,C,.done (BZ _ r DT hr),dc,λ_ _=>rfl,DT,hl,hc,hC,hr⟩
 |succ m ih=>
  intro κ r cs C hm dc AhY hl hc hC hr;by_cases hx:∃e,e∈E/\e.t=t/\¬e.τ<κ t
  .obtain⟨e,⟨he,Rs,Ve⟩,Amj⟩:=pX (P:=λe=>e∈E/\e.t=t/\¬e.τ<κ t) Ev.key hx;have nx:Nxt E κ e:=⟨he,by rw[Rs];exact Ve,λe' Bg Ags=>by
     by_cases h1:e'.t=t
     · exact Amj e' ⟨Bg,h1,by rw[<-h1];exact Ags⟩
     · have:=AhY e e' he Bg Rs h1 Ve Ags;unfold Ev.key;split<;>split<;>omega⟩
   subst Rs;obtain⟨st0,u,cs',C',b1,b2,b3,b4,b5⟩:=zM ev hn nx dc hC hl hc hr;have hlt:left E (A5 κ e.t (e.τ+1))<left E κ:=dR (λe' Bg h=>by
     have h':¬e'.τ<A5 κ e.t (e.τ+1) e'.t:=by simpa using h
     have:¬e'.τ<κ e'.t:=λh2=>h' (GA.1 ((M7 ev nx).2 (.inl (GA.2 ⟨Bg,h2⟩)))).2
     simpa using this) ⟨e,he,by simpa using Ve,by simp[Am]⟩
   obtain⟨κ',u2,cs2,C2,c1,c2,c3,c4,c5⟩:=ih (κ:=A5 κ e.t (e.τ+1)) Y (Af2 ev nx dc) (λa b ha hb FE hbt h1 h2=>AhY a b ha hb FE hbt (λh3=>h1 (by rw[Am];have:=nx.out;omega)) (by rw[A6 _ _ hbt] at h2;exact h2)) b2 b3 b4 (by rw[Am];exact b5);exact⟨κ',u2,cs2,C2,.step st0 b1 c1,c2,λv hv=>by rw[c3 v hv,A6 _ _ hv],c4,c5⟩
  .have DT:∀e,e∈E->e.t=t->e.τ<κ t:=λe he Rs=>Classical.byContradiction λh=>hx ⟨e,he,Rs,h⟩
   exact⟨κ,r,cs,C,.done (BZ _ r DT hr),dc,λ_ _=>rfl,DT,hl,hc,hC,hr⟩
theorem Aaw {out:Nat->List Int} {st:Nat->Int} (BZ:∀t,t<T->∀τ r,(∀e,e∈E->e.t=t->e.τ<τ)->M5 (P.getD t []) cells (s0 t) E t τ r->r.Au≠0/\r.An=out t/\r.Au=st t)
  (Aw:∀t,t<T->∃m r,Gd (P.getD t []) m .start r/\M5 (P.getD t []) cells (s0 t) E t 0 r):
  ∀(o:List Nat) {κ:Nat->Nat} {cs:List Int} {C:Nat->Int},o.Nodup->(∀t,t∈o->t<T)->o.Pairwise (λa b=>∀e e',e∈E->e'∈E->e.t=a->e'.t=b->e.τ<e'.τ)->(∀t,t∈o->κ t=0)->(∀t,t<T->t∉o->∀e,e∈E->e.t=t->e.τ<κ t)->DC E κ->J cs=n->(∀c,c<n->cs.getD c 0=C c)->(∀c,∃w,DW (HK E κ) c (C c) w)->
   bF P (λt l s=>l=out t/\s=st t) o cs:=by
 intro o;induction o with
 |nil=>intro κ cs C _ _ _ _ _ _ _ _ _;exact .nil cs
 |cons t o ih=>
  intro κ cs C EG hlt hpw hz Agw dc hl hc hC;have ht:=hlt t (.head _);rw[JU] at EG;rw[Qc] at hpw;obtain⟨m,r,h1,h2⟩:=Aw t ht;obtain⟨κ',u,cs',C',c1,c2,c3,c4,c5,c6,c7,c8⟩:=oa ev hn ht (λτ r h h'=>(BZ t ht τ r h h').1) _ (Jf _) dc (λe e' he Bg Rs Aid _ Ve=>by
    have Nk:e'.t∈o:=Classical.byContradiction λhx=>Ve (Agw e'.t (ev.tt e' Bg) (λh3=>by cases h3 with|head=>exact Aid rfl|tail _ h3=>exact hx h3) e' Bg rfl)
    exact hpw.1 e'.t Nk e e' he Bg Rs rfl) hl hc hC (by rw[hz t (.head _)];exact h2)
  refine .cons h1 c1 (BZ t ht _ u c4 c8).2 (ih (κ:=κ') EG.2 (λv hv=>hlt v (.tail _ hv)) hpw.2 (λv hv=>?_) (λv hv hvo e he Rs=>?_) c2 c5 c6 c7)
  .rw[c3 v (λe=>EG.1 (e▸hv))];exact hz v (.tail _ hv)
  .by_cases e1:v=t
   .subst e1;exact c4 e he Rs
   .rw[c3 v e1];exact Agw v hv (λh3=>by cases h3 with|head=>exact e1 rfl|tail _ h3=>exact hvo h3) e he Rs
end
section
theorem AcP {X:Nat->Cx} {T M:Nat} {s0:Nat->KS} {h:GH} {ms:List yW} (w:WM X T n M s0 K R A G h ms) (h0:∀t,t<T->(s0 t).k.Db=I) {t:Nat} (ht:t<T) (Aw:(A.th t).st≠0) {l:List Nd} {τ:Nat} {r:RR} (DT:∀e,e∈h.E->e.t=t->e.τ<τ) (hr:M5 l cells (s0 t) h.E t τ r):
  r.Au≠0/\r.An=(R.th t).out/\r.Au=(R.th t).Au:=by
 have hm:=(AeK w.wa ht).ok;have hg:TF t (FT h.E τ)=TF t (FT h.E h.Gy):=zR λe he Rs=>⟨λ_=>(w.wa.wi.ev e he).1,λ_=>DT e he Rs⟩
 have hf:=vg (h0 t ht) (AdV hg hr) hm;unfold RR.Aip at hf;simp only[JD,QP,JB] at hf;obtain⟨⟨⟨f1,f2⟩,f3⟩,f4⟩:=hf;have ha:=w.uu.th t ht;rcases f4 with f4|⟨f4,f5⟩
 .exact Jk f4 Aw
 .refine⟨by rw[<-f4];exact Aw,?_,by rw[ha.st];exact f4.symm⟩;rw[f5,J2] at f3;rw[ha.out];exact f3.symm
variable {y:qH} {p:RP} (h:PS y p)
include h
theorem sy:∀(a b dn:List Nat) {K:Int} {R:Al} {A:AM} {G:Nat->Gt} {h0:GH} {bg:List Bool} {ah:List (List Bool)},yz y dn (a++b) K R A G h0 bg ah->(a++b).Nodup->(∀t,t∈a++b->t<J y.Aa)->K+200000*(a++b).length<1000000000000->∃K' A' G' h' bg' ah',yz y (dn++a) b K' (OE (F8 y) a R) A' G' h' bg' ah':=by
 intro a;induction a with
 |nil=>intro b dn K R A G h0 bg ah s _ _ _;exact⟨K,A,G,h0,bg,ah,by rw[Jo];exact s⟩
 |cons k a ih=>
  intro b dn K R A G h0 bg ah s EG hlt hK;rw[Jx] at s EG hlt hK;rw[JU] at EG;rw[Jg] at hK;obtain⟨A1,G1,h1,s1⟩:=s.next h (hlt k (.head _)) EG.1 Y;obtain⟨K',A',G',h',bg',ah',s2⟩:=ih b (dn++[k]) s1 EG.2 (λt ht=>hlt t (.tail _ ht)) Y;exact⟨K',A',G',h',bg',ah',by rw[Ji] at s2;exact s2⟩
theorem ck (DT:∀t,t<J y.Aa->t∈o):∃G3 h3,yz y [] o 0 (R0 y) A0 G3 h3 (List.replicate (J y.Aa) I) (List.replicate (J y.Aa) (List.replicate (J y.Aa) I)):=by
 obtain⟨G,wm,hG⟩:=zx h;refine⟨G,_,wm,Adw hG,J8,J8,λt ht=>?_,λt ht _=>⟨PO _ _ ht,hG t ht⟩,λt ht hto=>Jk (DT t ht) hto,λt ht=>(by cases ht),.nil⟩;rw[AdE h ht];rfl
theorem Aax {a b:List Nat} (EG:(a++k::b).Nodup) (hlt:∀t,t∈a++k::b->t<J y.Aa) (DT:∀t,t<J y.Aa->t∈a++k::b) (Ro:(a++k::b).length<=100):((Al.C8 (F8 y) k 200000 (OE (F8 y) a (R0 y))).th k).Au≠0:=by
 obtain⟨G3,h3,s3⟩:=ck h DT;have e:a++k::b=(a++[k])++b:=EQ
 rw[e] at s3 EG hlt Ro;obtain⟨K',A',G',h',bg',ah',s⟩:=sy h (a++[k]) b [] s3 EG hlt Y;have hk:k<J y.Aa:=hlt k EQ;have hkb:k∉b:=λhb=>by
  rw[Jt] at EG;exact EG.2.2 k EQ k hb rfl
 have:=(s.fD k hk hkb).1;rw[<-(s.wm.uu.th k hk).st] at this;have e2:∀(a:List Nat) (R:Al),OE (F8 y) (a++[k]) R=Al.C8 (F8 y) k 200000 (OE (F8 y) a R):=λa=>by
  induction a with
  |nil=>intro R;rfl
  |cons c a ih=>intro R;exact ih _
 rw[e2] at this;exact this
theorem iQ (EG:o.Nodup) (hlt:∀t,t∈o->t<J y.Aa) (DT:∀t,t<J y.Aa->t∈o) (Ro:J o<=100):
  bF p.Aa (λt l s=>l=((OE (F8 y) o (R0 y)).th t).out/\s=((OE (F8 y) o (R0 y)).th t).Au) o (List.replicate y.cells.toNat 0):=by
 obtain⟨G3,h3,s3⟩:=ck h DT;rw[<-Jo o] at s3;obtain⟨K',A',G',h',bg',ah',s⟩:=sy h o [] [] s3 (by rw[Jo];exact EG) (by rw[Jo];exact hlt) (by rw[Jo];omega);rw[JF] at s;have Xo:∀t,t<J y.Aa->(IX y t).k.Db=I/\Om y.cells (IX y t).R (.rest (IX y t).s (IX y t).k):=λt ht=>Agb h ht
 have ev:=Ait (cells:=y.cells) s.wm Xo;refine Aaw ev rfl (out:=λt=>((OE (F8 y) o (R0 y)).th t).out) (st:=λt=>((OE (F8 y) o (R0 y)).th t).Au) (λt ht τ r hh hr=>AcP s.wm (λt ht=>(Xo t ht).1) ht (s.fD t ht EQ).1 hh hr) (λt ht=>?_) o (κ:=λ_=>0) (C:=λ_=>0) EG hlt ?_ (λ_ _=>rfl) (λt ht hto=>Jk (DT t ht) hto) (λe e' _ _ h1=>Jk h1 (Q3 _)) J8 (λc hc=>PO _ _ hc) λc=>⟨0,.inr ⟨rfl,rfl,λe he=>Jk (GA.1 he).2 (Q3 _)⟩⟩
 .have e:p.Aa.getD t []=Ca (y.Aa.getD t .nil) 0 0:=by
   exact nas
  obtain⟨m,u,q',k1,_⟩:=Adk (cells:=y.cells) (OY h _ (Sh ht)).1 (OY h _ (Sh ht)).2;rw[<-e] at k1;exact⟨m,u,k1,uT h ht k1⟩
 .refine s.ord.imp_of_mem λ{a b} ha hb Vj e e' he Bg Rs Aid=>?_
  have:=(AkZ (cells:=y.cells) s.wm (λt ht=>(Xo t ht).1) s.ai p.Aa) b a (hlt b hb) (hlt a ha) Vj;exact this.1 e e' he Bg Rs Aid
end
section
theorem nH {a b:List Int} (h:∀j,j<J a->j<J b->a.getD j 0=b.getD j 0):a.take (J b)=b.take (J a):=by
 apply List.ext_getElem
 .rw[LE,LE,Nat.min_comm]
 .intro j h1 h2;rw[LE] at h1 h2;rw[List.getElem_take,List.getElem_take];have:=h j Y Y;rwa[Je,Je,Ja Y,Ja Y] at this
variable {r:RR} {s:FR}
end
section
variable {P:List (List Nd)} {ah:List (List Bool)} {F:Nat} {rs:List RR} {cs:List Int} {ms:List (List FR)} {Gy:List FR} {rest:List (List FR)}
end
section
variable {P:List (List Nd)} {ah:List (List Bool)} {F:Nat} {rs:List RR} {cs:List Int} {Gy:List FR} {rest:List (List FR)} {t:Nat}
end
inductive yy (l:List Nd):Nat->RR->List Int->RR->List Int->Prop
 |done {r:RR} {cs:List Int} (h:r.Au≠0):yy l 0 r cs r cs
 |step {k:Nat} {r r1 r2:RR} {cs cs1 cs2:List Int} (h:r.Au=0) (b:Pk l r cs r1 cs1) (z:yy l k r1 cs1 r2 cs2):yy l (k+1) r cs r2 cs2
theorem Z4.idx {r u:RR} {cu:List Int} (h:Z4 l r cs u cu):∃k,yy l k r cs u cu:=by
 induction h with
 |done h=>exact⟨0,.done h⟩
 |step h b _ ih=>obtain⟨k,hk⟩:=ih;exact⟨k+1,.step h b hk⟩
theorem bF.head {sh:Nat->List Int->Int->Prop} (h:bF P sh (t::o) cs):∃m r u cs',Gd (P.getD t []) m .start r/\(∃k,yy (P.getD t []) k r cs u cs')/\sh t u.An u.Au/\bF P sh o cs':=by
 cases h with
 |cons h k s z=>exact⟨_,_,_,_,h,k.idx,s,z⟩
theorem cm:∀(a:List Nat) (R:Al),OE Ab (a++[k]) R=Al.C8 Ab k 200000 (OE Ab a R)
 |[],_=>rfl
 |_::a,_=>cm a _
theorem YA {Ab:Nat->List GI}:∀(a:List Nat) (R:Al),(∀t,t∈a->t<J R.ts)->(OE Ab a R).ts.length=J R.ts
 |[],_,_=>rfl
 |k::a,R,h=>by
  have e:=eC (Ab:=Ab) (n:=200000) (h k (.head _));exact(YA a _ λt ht=>by rw[e];exact h t (.tail _ ht)).trans e
theorem Yz {Ab:Nat->List GI}:∀(a:List Nat) {R:Al} {N:Nat},Vv Ab R N->(∀t,t∈a->t<J R.ts)->Vv Ab (OE Ab a R) (N+200000*J a)
 |[],_,_,h,_=>h
 |k::a,R,N,h,hl=>by
  have e:=eC (Ab:=Ab) (n:=200000) (hl k (.head _));have:=Yz a (h.alone (n:=200000) (hl k (.head _))) λt ht=>by rw[e];exact hl t (.tail _ ht)
  rw[Jg,show N+200000*(J a+1)=N+200000+200000*J a by omega];exact this
theorem L3:∀(s:Bj) {cells:Int} {d:Nat} {i:Bool},WF cells s d i->Di s<=AW s
 |.nil,_,_,_,_=>Jf _
 |.set _ _ _ _ r,_,_,_,h=>by have:=L3 r h.2.2.2.2;simp only[Di,AW];omega
 |.get _ _ _ _ r,_,_,_,h=>by have:=L3 r h.2.2.2.2;simp only[Di,AW];omega
 |.put _ _ _ _ r,_,_,_,h=>by have:=L3 r h.2.2.2.2;simp only[Di,AW];omega
 |.out _ r,_,_,_,h=>by have:=L3 r h.2;simp only[Di,AW];omega
 |.atomic b r,_,_,_,h=>by have:=L3 b h.2.2.1;have:=L3 r h.2.2.2;simp only[Di,AW];omega
 |.Es _ b r,_,_,_,h=>by have:=L3 b h.2.2.1;have:=L3 r h.2.2.2;simp only[Di,AW];omega
 |.loop n b r,_,_,_,h=>by
  have h1:=L3 b h.2.2.1;have h2:=L3 r h.2.2.2;have h3:=h.1;obtain⟨m,hm⟩:∃m,n.toNat=m+1:=⟨n.toNat-1,Y⟩;simp only[Di,AW];rw[hm,i5];omega
