/- Part 22 of the proof. -/
import Derived.Test.YtpdfifdlhpmofaaGreatDoorC21
set_option linter.unusedVariables false
set_option linter.unusedSimpArgs false
set_option maxHeartbeats 0
set_option maxRecDepth 99999
namespace Go.Proofs.YtpdfifdlhpmofaaGreatDoor
open Go.RowKit
open Value renaming slice->m9,string->qA,bool->qB,tuple->qC,agg->qD,pointer->qE
open Ending renaming returned->qF
open Obj renaming cells->qG
open Option renaming none->Z,some->U
open Bool renaming true->V,false->I
open Go.Lib renaming hid->D
open List renaming length->J
variable {p:Prop}
theorem nae (h:p:=by
 rw[hp] at Ex;obtain⟨o,h1,h2⟩:=Ex;obtain⟨lt,ha⟩:=wa.at ht (wa.run ht (by rw[hp];grind));unfold KR at ha;rw[hp] at ha;obtain⟨_,_,_,b,s,ab,p,hc,_⟩:=ha;exact Ab9 ⟨o,0,h1,by rw[h2,Q6,Jo]⟩ (by rw[hp];grind) ⟨_,b,s,ab,p,hc⟩ (by unfold Dw;rw[hp])):p:=h
theorem nak (h:p:=by
 obtain⟨lt,ha⟩:=FE u hu (by rw[hp];exact λe=>by cases e);unfold KR at ha;rw[hp] at ha;obtain⟨⟨_,_,_,_,_,_,hgc,_⟩,_⟩:=ha;have:=hgc.Mh.lt;have:=(hX u hu).2;omega):p:=h
theorem nal (h:p:=by
 obtain⟨q,o,l,h2⟩:=ih (Qc.1 hd).2 e he Rs;grind [lift hd he Rs h2]):p:=h
theorem nan (h:p:=by
 show Mr (s0 t) h.E t (G t) (A5 A.th t _ t).out;rw[Am];exact wa.th t ht):p:=h
theorem nax (h:p:=by
 obtain⟨e1,e2⟩:=key hd h1 k1;exact⟨_,_,_,by rw[e1,h1];exact e2,ko,b,kt,AC⟩):p:=h
theorem nay (h:p:=by
 rw[In h];constructor
 .intro h1;cases h1<;>grind
 .exact λh1=> .skip h AC):p:=h
variable {q q2 r q' s0:KS} {b s:Bj} {k v v' lv K st cells:Int} {n t u l T τ i M:Nat} {Z95:Nat->List (Nat×Int)} {sm:Nat->Int} {H:Nat->Nat->Option Int} {f:Nat->Option (Nat×Int)} {g g':Gt} {G:Nat->Gt} {x:Cx} {lt:LT} {A A':AM} {o out o':List Int} {rd:Nat->Option Int} {X:Nat->Cx} {κ:Nat->Nat} {R:Al}
section
variable {l:List Nd} {cells:Int} {n:Nat} {C:Nat->Int} {B:List Int}
abbrev rdC (C:Nat->Int):Nat->Option Int:=λc=>U (C c)
theorem Ab3 (hn:n=cells.toNat) {q q':KS} (hk:Ij (rdC C) q q') {r:RR} {cs:List Int} (h:FI l n C B q r cs) (hw:Om cells q.R (.rest q.s q.k)) (hK:J B+J q.o+Dy q<=60000):
  ∃r' cs',FI l n C B q' r' cs'/\Om cells q'.R (.rest q'.s q'.k)/\r'.Ck=r.Ck/\(Dy q'<=Dy q/\J q'.o+Dy q'<=J q.o+Dy q)/\∀k u cu b,O3 l k r' cs' u cu b->∃m,O3 l m r cs u cu b:=by
 induction hk generalizing r cs with
 |nil q=>grind
 |cons hs _ ih=>
  obtain⟨Fu,BJ⟩:=fO hw hs;have ho:=kV hs;rcases tU hw AC h hs with h1|⟨r1,cs1,⟨x,hx,GJ,Mo,ng,Aw,hso,sf⟩,h1⟩;grind
  .obtain⟨r',cs',a1,a2,a3,a4,a5⟩:=ih h1 Fu Y;refine⟨r',cs',a1,a2,AC,Y,λk u cu b a=>?_⟩;obtain⟨m,k'⟩:=a5 k u cu b a;exact⟨m+1,.step hx Mo ⟨sf,by rw[h.An,GT];omega⟩ Aw k'⟩
theorem Gg (h:q.s=.atomic b s):Cw q=⟨b,.Ao b s q.k,q.L,q.R,D9,[]⟩:=by unfold Cw;rw[h]
theorem Gw (h:q.s=.atomic b s):BS q q2=⟨s,q.k,q2.L,q2.R,D9,[]⟩:=by unfold BS;rw[h]
theorem iF (hb:Dm q):(Cw q).o.length=0:=by obtain⟨b,s,e⟩:=hb;rw[Gg e];rfl
theorem Yu (hb:Dm q) (hi:q.k.Db=I) (hw:Om cells q.R (.rest q.s q.k)):Om cells (Cw q).R (.rest (Cw q).s (Cw q).k)/\(Cw q).k.Db=V/\Dy (Cw q)<Dy q:=by
 obtain⟨b,s,e⟩:=hb;rw[Gg e];unfold Dy;rw[e] at hw⊢;obtain⟨⟨h1,h2⟩,h3⟩:=hw;exact⟨⟨⟨h1.2.2.1,h2.1.1⟩,⟨hi,h1.2.1⟩,⟨h1.2.2.1,h2.1.1,h2.1.2⟩,⟨by rw[<-hi];exact h1.2.2.2,h2.2⟩,h3⟩,rfl,by grind [AW,KB]⟩
theorem lR (hb:Dm q) {r:RR} (h:FI l 0 (λ_=>0) B q r []) {cs:List Int} (hl:J cs=n) (hc:∀c,c<n->cs.getD c 0=C c):
  FI l n C r.An (Cw q) {r with Ck:=J r.An,pc:=r.pc+1} cs:=by
 obtain⟨b,s,e⟩:=hb;have hp:=h.Mh;rw[e] at hp;obtain⟨N0,Fa⟩:=hp;obtain⟨h1,h2⟩:=C6 N0;obtain⟨h3,h4⟩:=V4 h2;rw[CX] at h4;obtain⟨h5,h6⟩:=C6 h4;rw[Gg e];refine⟨⟨h3,h5,h6,?_⟩,h.vl,h.v,h.rl,h.DE,h.st,(Jo _).symm,hl,hc⟩<;>grind [Di]
theorem AcQ (e:q.s=.atomic b s) (hk:q2.k=.Ao b s q.k) (hs:q2.s=.nil) {r:RR} {cs:List Int} (h:FI l n C B q2 r cs):
  (∃x,l[r.pc]?=U x/\x.kind=41)/\FI l 0 (λ_=>0) r.An (BS q q2) {r with pc:=r.pc+1} []:=by
 obtain⟨hp,FD,hv,GG,Vd,Aw,ho,B8,VF⟩:=h;rw[hk,hs] at hp;rw[hk] at Vd;obtain⟨_,hp⟩:=hp;rw[show r.pc+Di .nil=r.pc from rfl] at hp;obtain⟨h1,h2,h3⟩:=hp;rw[Gw e];exact⟨⟨_,h1,rfl⟩,⟨h2,h3⟩,FD,hv,GG,Vd,Aw,AC,rfl,AC⟩
def sK (A3:Nat->Option Int) (C:Nat->Int):Nat->Int:=λc=>(A3 c).getD (C c)
theorem Z3 (e:q.s=.atomic b s) (hk:q2.k=.Ao b s q.k) (hw:Om cells q2.R (.rest q2.s q2.k)) (hi:q.k.Db=I):Om cells (BS q q2).R (.rest (BS q q2).s (BS q q2).k)/\(BS q q2).k.Db=I/\Dy (BS q q2)<Dy q2:=by
 rw[Gw e];unfold Dy;rw[hk] at hw⊢;obtain⟨h1,h2,h3,h4,h5⟩:=hw;exact⟨⟨AC,h5⟩,hi,by grind [KB]⟩
theorem AfK (hn:n=cells.toNat) {q q2:KS} (hb:Dm q) (hi:q.k.Db=I) (hw:Om cells q.R (.rest q.s q.k)) {r:RR} (h:FI l 0 (λ_=>0) B q r []) {cs:List Int} (hl:J cs=n) (hc:∀c,c<n->cs.getD c 0=C c) (hK:J r.An+Dy q<=60000)
  (hk:Ij (rdC C) (Cw q) q2) (hs:q2.s=.nil) (hsk:∃b s k,q2.k=.Ao b s k):∃r2 cs',FI l 0 (λ_=>0) (r.An++q2.o) (BS q q2) r2 []/\Om cells (BS q q2).R (.rest (BS q q2).s (BS q q2).k)/\(BS q q2).k.Db=I/\(Dy (BS q q2)<Dy q/\(r.An++q2.o).length+(BS q q2).o.length+Dy (BS q q2)<=J r.An+Dy q)/\
   r2.An=r.An++q2.o/\r2.Ck=J r.An/\J cs'=n/\(∀c,c<n->cs'.getD c 0=sK q2.A3 C c)/\∀m u,Gd l m r2 u->Pk l r cs u cs':=by
 obtain⟨w1,w2,w3⟩:=Yu hb hi hw;have ho:=iF hb;obtain⟨r1,cs1,a1,a2,a3,a4,a5⟩:=Ab3 hn hk (lR hb h hl hc) w1 Y;obtain⟨b,s,e⟩:=hb;have Mo:q2.k=.Ao b s q.k:=by
  obtain⟨b',s',k',e'⟩:=hsk;have h1:(Cw q).k.Ok=U (b,s,q.k):=by rw[Gg e];rfl
  have h2:=(hk.Ao h1).1;rw[e'] at h2;cases h2;exact e'
 obtain⟨⟨x,hx,hx2⟩,h3⟩:=AcQ e Mo hs a1;obtain⟨w4,w5,w6⟩:=Z3 e Mo a2 hi;refine⟨{r1 with pc:=r1.pc+1},cs1,by rw[<-a1.An];exact h3,w4,w5,⟨Y,by rw[GT,Gw e];rw[Gw e] at w6;grind⟩,a1.An,a3,a1.cl,a1.cv,λm u k=>?_⟩;obtain⟨m',k'⟩:=a5 0 r1 cs1 V (.D1 hx hx2);exact .ok k' k
theorem Adh (hn:n=cells.toNat) {q q2:KS} (hb:Dm q) (hi:q.k.Db=I) (hw:Om cells q.R (.rest q.s q.k)) {r:RR} (h:FI l 0 (λ_=>0) B q r []) {cs:List Int} (hl:J cs=n) (hc:∀c,c<n->cs.getD c 0=C c) (hK:J r.An+Dy q<=60000)
  (hk:Ij (rdC C) (Cw q) q2) {t:Int} (ht:Bz q2=U t):∃u,Pk l r cs u cs/\u.Au=t/\u.An=r.An/\u.Ck=J r.An:=by
 obtain⟨w1,w2,w3⟩:=Yu hb hi hw;have ho:=iF hb;obtain⟨r1,cs1,a1,a2,a3,a4,a5⟩:=Ab3 hn hk (lR hb h hl hc) w1 Y;obtain⟨x,r',b1,b2,b3,b4,b5,b6,b7,b8,b9⟩:=tT a2 AC a1 ht;obtain⟨m',k'⟩:=a5 0 r' cs1 I (.CR b1 b3 ⟨b9,by rw[a1.An,GT];omega⟩ b5);refine⟨_,.CR k',b6,?_,AC⟩;show r'.An.take _=_;rw[b7,a1.An,List.take_left]
structure At0 (l:List Nd) (cells:Int) (q:KS) (r:RR):Prop where
 AN:Dm q/\FI l 0 (λ_=>0) (r.An.take (J r.An-J q.o)) q r []/\Om cells q.R (.rest q.s q.k)/\q.k.Db=I
 big:J r.An+Dy q<=60000
def Thr (l:List Nd) (cells:Int) (q:KS) (r:RR):Prop:=(r.Au≠0\/At0 l cells q r)/\J r.An<=60000
theorem Afu {r:RR} (h:FI l 0 (λ_=>0) B q r []):FI l 0 (λ_=>0) (r.An.take (J r.An-J q.o)) q r []:=by
 refine⟨h.Mh,h.vl,h.v,h.rl,h.DE,h.st,?_,h.cl,h.cv⟩;have:=h.An;rw[this,GT,jP,List.take_left]
theorem fN (hk:Fe q q') {r:RR} (h:FI l 0 (λ_=>0) B q r []) (hw:Om cells q.R (.rest q.s q.k)) (hi:q.k.Db=I) (he:Ix q'\/Dm q'\/∃t,Bz q'=U t) (hK:J B+J q.o+Dy q<=60000):
  ∃m u,Gd l m r u/\u.An=B++q'.o/\u.Ck=r.Ck/\(Ix q'->u.Au=10)/\(∀t,Bz q'=U t->u.Au=t)/\(Dm q'->At0 l cells q' u/\Dy q'<=Dy q)/\J u.An<=60000:=by
 obtain⟨r',a1,a2,a3,a4,a5,a6⟩:=AeT hk h hw hi hK;obtain⟨b1,b2,b3⟩:=AhC a1 a2 a3 Y;have hB:(B++q'.o).length+Dy q'<=60000:=by rw[GT];omega
 rcases he with he|he|⟨t,he⟩
 .obtain⟨m,k⟩:=a6 0 _ (.halt a1.st (b2 he));refine⟨m,_,k,a1.An,a4,λ_=>rfl,λt ht=>?_,λ⟨b,s,e⟩=>?_,by show J r'.An<=_;rw[a1.An];omega⟩
  .unfold Bz at ht;rw[he.1] at ht;cases ht
  .rw[he.1] at e;cases e
 .obtain⟨x,hx,hx2⟩:=b1 he;obtain⟨m,k⟩:=a6 0 _ (.Ao a1.st hx hx2);refine⟨m,_,k,a1.An,a4,λh0=>?_,λt ht=>?_,λ_=>⟨⟨⟨he,Afu a1,a2,a3⟩,by rw[a1.An];exact hB⟩,a5.1⟩,by rw[a1.An];omega⟩
  .obtain⟨b,s,e⟩:=he;rw[h0.1] at e;cases e
  .obtain⟨b,s,e⟩:=he;unfold Bz at ht;rw[e] at ht;cases ht
 .obtain⟨u,h1,h2,h3,h4⟩:=b3 t he;obtain⟨m,k⟩:=a6 _ _ h1;refine⟨m,_,k,h3.trans a1.An,AC,λh0=>?_,λt' ht=>?_,λ⟨b,s,e⟩=>?_,by rw[h3,a1.An];omega⟩
  .unfold Bz at he;rw[h0.1] at he;cases he
  .rw[he] at ht;cases ht;exact h2
  grind [Bz]
theorem bZ (hK:AW s<=54780):([]:List Int).length+(⟨s,.done,λ_=>0,λ_=>0,D9,[]⟩:KS).o.length+Dy ⟨s,.done,λ_=>0,λ_=>0,D9,[]⟩<=60000:=by show 0+0+(1+AW s+1)<=_;omega
theorem Adk (hw:WF cells s 0 I/\AB s) (hK:AW s<=54780):∃m u q',Gd (Ca s 0 0) m .start u/\Thr (Ca s 0 0) cells q' u/\Dy q'<=Dy ⟨s,.done,λ_=>0,λ_=>0,D9,[]⟩:=by
 have h0:FI (Ca s 0 0) 0 (λ_=>0) [] ⟨s,.done,λ_=>0,λ_=>0,D9,[]⟩ .start []:=
  ⟨⟨λj x hx=>by show(Ca s 0 0)[0+j]?=_;rw[JH];exact hx,by show 0+Di s=_;rw[CX,JH]⟩,rfl,λi hi=>by match i,hi with|0,_=>rfl|1,_=>rfl|2,_=>rfl|3,_=>rfl,rfl,trivial,rfl,rfl,rfl,AC⟩
 have w0:Om cells (λ_=>0) (.rest s .done):=⟨hw,trivial⟩;obtain⟨q3,k3,e3⟩:=NY (cells:=cells) (q:=⟨s,.done,λ_=>0,λ_=>0,D9,[]⟩) _ (Jf _) w0 rfl;obtain⟨m,u,b1,b2,b3,b4,b5,b6,b7⟩:=fN k3 h0 w0 rfl e3 (bZ hK);rcases e3 with e3|e3|⟨t,e3⟩
 .exact⟨m,u,_,b1,⟨AC,b7⟩,Jf _⟩
 .exact⟨m,u,q3,b1,⟨AC,b7⟩,AC⟩
 .exact⟨m,u,_,b1,⟨.inl (by rw[b5 t e3];intro e0;rcases U5 e3 with e'|e'<;>rw[e'] at e0<;>cases e0),b7⟩,Jf _⟩
end
structure Ev where
 t:Nat
 τ:Nat
 q:KS
 q2:KS
 rd:Nat->Option Int
 k:Int
 w:Option Int
variable {E E' F:List Ev} {e:Ev}
def Ev.wr (e:Ev) (c:Nat) (w:Int):Prop:=e.w=U w/\(e.q2.A3 c).isSome=V
def rS (E:List Ev) (c:Nat) (k v:Int):Prop:=
 (∃e,e∈E/\∃w,e.w=U w/\e.q2.A3 c=U v/\w<=k/\∀e',e'∈E->∀w',e'.wr c w'->w'<=k->w'<=w)\/(v=0/\∀e,e∈E->∀w,e.wr c w->k<w)
def DW (E:List Ev) (c:Nat) (v w:Int):Prop:=
 (∃e,e∈E/\e.w=U w/\e.q2.A3 c=U v/\∀e',e'∈E->∀w',e'.wr c w'->w'<=w)\/(v=0/\w=0/\∀e,e∈E->∀w,¬e.wr c w)
def gK (E:List Ev):Prop:=∀e e',e∈E->e'∈E->∀w,e.w=U w->e'.w=U w->e=e'
theorem rS.eT {c:Nat} (hu:gK E) (h:rS E c k v) (h':rS E c k v'):v=v':=by
 rcases h with⟨e,he,w,hw,hm,hk,hl⟩|⟨hv,hl⟩
 .rcases h' with⟨e',Bg,w',KT,Xs,MY,yR⟩|⟨Vc,yR⟩
  .have h1:=hl e' Bg w' ⟨KT,by rw[Xs];rfl⟩ MY;have h2:=yR e he w ⟨hw,by rw[hm];rfl⟩ hk;have e1:w=w':=Y
   subst e1;have:=hu e e' he Bg w hw KT;grind
  .have:=yR e he w ⟨hw,by rw[hm];rfl⟩;omega
 .rcases h' with⟨e',Bg,w',KT,Xs,MY,yR⟩|⟨Vc,yR⟩
  .have:=hl e' Bg w' ⟨KT,by rw[Xs];rfl⟩;omega
  grind
theorem DW.eT {c:Nat} {w w':Int} (hu:gK E) (h:DW E c v w) (h':DW E c v' w'):v=v'/\w=w':=by
 rcases h with⟨e,he,hw,hm,hl⟩|⟨hv,hw,hl⟩
 .rcases h' with⟨e',Bg,KT,Xs,yR⟩|⟨Vc,KT,yR⟩
  .have a1:=hl e' Bg w' ⟨KT,by rw[Xs];rfl⟩;have a2:=yR e he w ⟨hw,by rw[hm];rfl⟩;have e1:w=w':=Y
   subst e1;have:=hu e e' he Bg w hw KT;grind
  .exact Jk ⟨hw,by rw[hm];rfl⟩ (yR e he w)
 .rcases h' with⟨e',Bg,KT,Xs,yR⟩|⟨Vc,KT,yR⟩
  .exact Jk ⟨KT,by rw[Xs];rfl⟩ (hl e' Bg w')
  grind
theorem DW.isV {c:Nat} {w:Int} (h:DW E c v w) (hk:w<=k):rS E c k v:=by
 rcases h with⟨e,he,hw,hm,hl⟩|⟨hv,hw,hl⟩
 .exact .inl ⟨e,he,w,hw,hm,hk,AC⟩
 .exact .inr AC
theorem rS.cons {c:Nat} (h:rS E c k v) {e0:Ev} (hn:∀w,e0.wr c w->k<w):rS (e0::E) c k v:=by
 rcases h with⟨e,he,w,hw,hm,hwk,hl⟩|⟨hv,hl⟩
 .refine .inl ⟨e,.tail _ he,w,hw,hm,hwk,λe' Bg w' KT MY=>?_⟩<;>grind
 .refine .inr ⟨hv,λe' Bg w' KT=>?_⟩<;>grind
theorem DW.cons {c:Nat} {w:Int} (h:DW E c v w) {e0:Ev} (hn:∀w,¬e0.wr c w):DW (e0::E) c v w:=by
 rcases h with⟨e,he,hw,hm,hl⟩|⟨hv,hw,hl⟩
 .refine .inl ⟨e,.tail _ he,hw,hm,λe' Bg w' KT=>?_⟩<;>grind
 .refine .inr ⟨hv,hw,λe' Bg w' KT=>?_⟩<;>grind
theorem DW.Ahc {c:Nat} {w v0 w0:Int} (h:DW E c v w) {e0:Ev} (hw:e0.w=U w0) (hm:e0.q2.A3 c=U v0) (hl:w<=w0):DW (e0::E) c v0 w0:=by
 refine .inl ⟨e0,.head _,hw,hm,λe' Bg w' KT=>?_⟩;cases Bg with
 |head=>have e1:=KT.1;rw[hw] at e1;grind
 |tail _ Bg=>
  rcases h with⟨e,he,h1,h2,h3⟩|⟨h1,h2,h3⟩;grind [h3 e' Bg w' KT];grind [h3 e' Bg w']
theorem DW.le {c:Nat} {w:Int} (h:DW E c v w):∀e,e∈E->∀w',e.wr c w'->w'<=w:=λe he w' KT=>by
 rcases h with⟨_,_,_,_,h3⟩|⟨_,_,h3⟩<;>grind
def DOk (n:Nat) (Z95:List (Nat×Int)):Prop:=
 (∀pre c u post,c<n->Z95=pre++(8+c,u)::post->∀x,(c,x)∉post)/\∀c x,c<n->(c,x)∈Z95->∃u,(8+c,u)∈Z95
theorem DOk.nil (n:Nat):DOk n []:=⟨λpre c u post _ h=>(by cases pre<;>cases h),AC⟩
theorem DOk.tail {p:Nat×Int} {Z95:List (Nat×Int)} (h:DOk n (p::Z95)):DOk n Z95:=by
 refine⟨λpre c u post hc e=>h.1 (p::pre) c u post hc (by rw[e];rfl),λc x hc hx=>?_⟩;obtain⟨u,hu⟩:=h.2 c x hc (.tail _ hx);cases hu with
 |head=>exact Jk hx (h.1 [] c u Z95 hc rfl x)
 |tail _ hu=>exact⟨u,hu⟩
theorem XK (p:Nat×Int) (Z95:List (Nat×Int)) (v:Int) (a:Nat):vw (p::Z95) v a=vw Z95 (if p.1=a then p.2 else v) a:=rfl
structure MV (T n:Nat) (sm:Nat->Int) (H:Nat->Nat->Option Int) (Z95:Nat->List (Nat×Int)) (E:List Ev):Prop where
 free:∀c,c<n->(∀t,t<T->H t c=Z/\∀v,(8+c,v)∉Z95 t)->∃v w,DW E c v w/\sm (8+c)=2*w/\sm c=v
 BR:∀t c lv,t<T->c<n->H t c=U lv->∃v w,DW E c v w/\lv=2*w/\sm c=v
 todo:∀t c u,t<T->c<n->(8+c,u)∈Z95 t->∃v w,DW E c v w/\u=2*w/\vw (Z95 t) (sm c) c=v
 dok:∀t,t<T->DOk n (Z95 t)
section
variable {T n:Nat} {sm:Nat->Int} {N:Int} {H:Nat->Nat->Option Int} {Z95:Nat->List (Nat×Int)} {E:List Ev} (hl:LK T n sm N H Z95) (h:MV T n sm H Z95 E) (h6:n<=6)
include hl h h6
omit h6 in
theorem MV.C7 {a:Nat} {u:Int} {r:List (Nat×Int)} (ht:t<T) (hd:Z95 t=(a,u)::r):MV T n (Cv sm a u) H (A5 Z95 t r) E:=by
 have Nk:(a,u)∈Z95 t:=by rw[hd];grind
 have hdk:=h.dok t ht;have fX:∀t' p,p∈A5 Z95 t r t'->p∈Z95 t':=λt' p hp=>by
  grind [A5]
 have Gq:∀c,c<n->a=c->∃u',(8+c,u')∈Z95 t:=λc hc e=>hdk.2 c u hc (by rw[<-e];exact Nk)
 refine⟨λc hc hx=>?_,λt' c lv Kw hc hH=>?_,λt' c u' Kw hc hu=>?_,λt' Kw=>?_⟩
 .by_cases ha:a=8+c
  .subst ha;obtain⟨v,w,h1,h2,h3⟩:=h.todo t c u ht hc Nk;rw[hd] at h3 hdk;rw[XK,In AC,FJ (hdk.1 [] c u r hc rfl)] at h3;grind [BK,Bp]
  .have ho:∀t',t' < T->H t' c=Z/\∀v,(8+c,v)∉Z95 t':=λt' Kw=>⟨AC,λv hv=>by
      grind [Am,A6]⟩
   grind [Bp,MV]
 grind [Bp,LK,MV];grind [XK,Am,Cv,A6,LK,MV]
 .by_cases he:t'=t
  .subst he;rw[Am];rw[hd] at hdk;exact hdk.tail
  grind [A6,MV]
theorem LK.AhI {c:Nat} {w:Int} (hc:c<n) (he:sm (8+c)=2*w):∀t,t<T->H t c=Z/\∀v,(8+c,v)∉Z95 t:=λt ht=>by
 have:=h;constructor
 .cases hH:H t c<;>grind [LK]
 grind [LK]
theorem MV.TD {c:Nat} (ht:t<T) (hc:c<n) (he:sm (8+c)=lv) (hw:∃w,lv=2*w/\0<=w/\w<=N):MV T n (Cv sm (8+c) (lv+1)) (A5 H t (En (H t) c lv)) Z95 E:=by
 obtain⟨w0,hw0,_⟩:=hw;have Xf:=hl.AhI h h6 hc (by rw[he];exact hw0);have hs:∀d,d<n->Cv sm (8+c) (lv+1) d=sm d:=λd hd=>Bp _ _ Y
 have hH:∀t' d,(t'≠t\/d≠c)->A5 H t (En (H t) c lv) t' d=H t' d:=λt' d hd=>by
  unfold A5 En;by_cases h1:t'=t
  .rw[Jb h1];grind
  grind
 have hHt:A5 H t (En (H t) c lv) t c=U lv:=by rw[Am];unfold En;rw[Jb rfl]
 refine⟨λd hd hx=>?_,λt' d lv' Kw hd hv=>?_,λt' d u Kw hd hu=>?_,h.dok⟩
 .by_cases hdc:d=c;grind
  .obtain⟨v,w,h1,h2,h3⟩:=h.free d hd λt' Kw=>⟨by rw[<-hH t' d (.inr hdc)];exact(hx t' Kw).1,(hx t' Kw).2⟩<;>grind [Bp]
 grind [MV];grind [MV]
omit h6 in
theorem MV.AkG {l:List (Nat×Int)} (ht:t<T) (hD:(∃c,c<n/\(H t c).isSome=V)\/l≠[]->Z95 t=[]) (hdk:DOk n l)
  (Gq:∀c u,c<n->(8+c,u)∈l->(H t c).isSome=V) (hH:∀c lv v w,c<n->H t c=U lv->lv=2*w->DW E c v w->∃v' w',DW E' c v' w'/\(8+c,2*w')∈l/\(∀u,(8+c,u)∈l->u=2*w')/\vw l v c=v')
  (hE:∀c v w,c<n->H t c=Z->DW E c v w->DW E' c v w):MV T n sm (A5 H t D9) (A5 Z95 t (Z95 t++l)) E':=by
 have Wb:∀{t' c:Nat},t'≠t->t'<T->c<n->((H t' c).isSome=V\/∃v,(8+c,v)∈Z95 t')->H t c=Z:=λ{t' c} hne Kw hc hx=>by
  cases hHc:H t c<;>grind [LK]
 refine⟨λc hc hx=>?_,λt' c lv Kw hc hv=>?_,λt' c u Kw hc hu=>?_,λt' Kw=>?_⟩
 .have hHt:H t c=Z:=by
   cases hHc:H t c<;>grind [Am,MV]
  obtain⟨v,w,h1,h2,h3⟩:=h.free c hc λt' Kw=>by
   by_cases he:t'=t;grind [Am]
   .have:=hx t' Kw;rw[A6 _ _ he,A6 _ _ he] at this;exact this
  grind
 .by_cases he:t'=t
  .subst he;rw[Am] at hv;cases hv
  .rw[A6 _ _ he] at hv;grind [MV]
 .by_cases he:t'=t
  .subst he;rw[Am] at hu⊢;rcases Jp.1 hu with hu|hu
   .have Vh:l=[]:=AC;have hHt:H t' c=Z:=by
     cases hHc:H t' c<;>grind [MV]
    grind [MV]
   .have hs:=Gq c u hc hu;obtain⟨lv,hlv⟩:=JA.1 hs;obtain⟨v,w,h1,h2,h3⟩:=h.BR t' c lv Kw hc hlv;obtain⟨v',w',h4,h5,h6,h7⟩:=hH c lv v w hc hlv h2 h1;exact⟨v',w',h4,h6 u hu,by rw[hD (.inl ⟨c,hc,hs⟩),JF,h3];exact h7⟩
  grind [A6,MV]
 .by_cases he:t'=t
  .subst he;rw[Am];by_cases Vh:l=[]<;>grind [MV]
  grind [A6,MV]
end
theorem MV.mono (h:MV T n sm H Z95 E) (hE:∀c v w,c<n->DW E c v w->DW E' c v w):MV T n sm H Z95 E':=
 ⟨λc hc hx=>(let ⟨v,w,h1,h2⟩:=h.free c hc hx;⟨v,w,AC,h2⟩),λt c lv ht hc hv=>(let ⟨v,w,h1,h2⟩:=h.BR t c lv ht hc hv;⟨v,w,AC,h2⟩),λt c u ht hc hu=>(let ⟨v,w,h1,h2⟩:=h.todo t c u ht hc hu;⟨v,w,AC,h2⟩),h.dok⟩
theorem MV.Of {sm':Nat->Int} (h:MV T n sm H Z95 E) (hs:∀a,a≠16->sm' a=sm a) (h6:n<=6):MV T n sm' H Z95 E:=
 ⟨λc hc hx=>by rw[hs _ Y,hs _ Y];exact h.free c hc hx,λt c lv ht hc hv=>by rw[hs _ Y];grind [MV],λt c u ht hc hu=>by rw[hs _ Y];grind [MV],h.dok⟩
theorem ny (A B:List (Nat×Int)) (v:Int) (a:Nat):vw (A++B) v a=vw B (vw A v a) a:=by unfold vw;rw[Qv]
theorem AgN (hf:∀d p,f d=U p->p.1=d) {n c:Nat} {x:Int} (hc:c<n) (hx:f c=U (c,x)) (v:Int):∀k,k<=c->vw (Kv f n k) v c=x:=by
 have Ann:∀m k v,n-k=m->c<k->vw (Kv f n k) v c=v:=λm k v _ hk=>FJ λu hu=>by
  grind [CY]
 intro k hk;induction hm:c-k generalizing k v with
 |zero=>
  grind [Kv,XK]
 |succ m ih=>
  rw[GR f Y,ny];grind
theorem sU {g:Nat->Option (Nat×Int)} (h6:n<=6) (hf:∀d p,f d=U p->p.1=d) (hg:∀d p,g d=U p->p.1=8+d) (hfg:∀d,d<n->(f d).isSome=V->(g d).isSome=V):DOk n (Kv f n 0++Kv g n 0):=by
 refine⟨λpre c u post hc e x hx=>?_,λc x hc hx=>?_⟩
 .rcases List.append_eq_append_iff.1 e with⟨m,h1,h2⟩|⟨m,h1,h2⟩
  .have:(c,x)∈Kv g n 0:=by rw[h2];grind
   grind [CY]
  .cases m with
   |nil=>
    have:(c,x)∈Kv g n 0:=by rw[<-JF (Kv g n 0),<-h2];grind
    grind [CY]
   |cons p m=>
    have e1:(8+c,u)=p:=AC
    have:(8+c,u)∈Kv f n 0:=by rw[h1,e1];grind
    grind [CY]
 grind [CY,Option.isSome_iff_exists]
theorem Wq (g:Gt) (d:Nat) (p:Nat×Int) (h:EM g d=U p):p.1=d:=by
 grind [EM,Option.map_eq_some_iff]
theorem V2 (g:Gt) (d:Nat) (p:Nat×Int) (h:D0 g d=U p):p.1=8+d:=by
 grind [D0]
theorem Wt (g:Gt) (d:Nat) (p:Nat×Int) (h:EZ g d=U p):p.1=8+d:=by
 grind [EZ,Option.map_eq_some_iff]
section
variable {T n:Nat} {sm:Nat->Int} {N:Int} {H:Nat->Nat->Option Int} {Z95:Nat->List (Nat×Int)} {E:List Ev} (hl:LK T n sm N H Z95) (h:MV T n sm H Z95 E) (h6:n<=6) {t:Nat} (ht:t<T) {g:Gt} (hH:H t=g.Bi)
include hl h h6 ht hH
theorem MV.decide (Gq:TH g n n) (hD:Z95 t=[]) {e0:Ev} (hw:e0.w=U g.wv) (hm:e0.q2.A3=g.q.A3) (hle:∀c v w,c<n->(g.Bi c).isSome=V->DW E c v w->w<=g.wv):
  MV T n sm (A5 H t D9) (A5 Z95 t (Z95 t++(Kv (EM g) n 0++Kv (D0 g) n 0))) (e0::E):=by
 have hs:∀c,c<n->(g.Bi c).isSome=(g.q.A3 c).isSome:=λc hc=>by rw[Gq c hc,J3 hc,Ql]
 have hlc:∀c u,c<n->(8+c,u)∈Kv (EM g) n 0++Kv (D0 g) n 0->(g.q.A3 c).isSome=V/\u=2*g.wv:=λc u hc hu=>by
  rcases Jp.1 hu with hu|hu
  .obtain⟨d,_,h2,h3⟩:=CY.1 hu;have:8+c=d:=Wq g d _ h3;omega
  grind [CY,D0]
 refine MV.AkG hl h ht AC (sU h6 (Wq g) (V2 g) λd _ hd=>?_) AC (λc lv v w hc hv e TT=>?_) λc v w hc hn TT=>?_
 grind [EM,D0]
 .rw[hH] at hv;have h1:(g.q.A3 c).isSome=V:=by rw[<-hs c hc,hv];rfl
  obtain⟨x,hx⟩:=JA.1 h1;refine⟨x,g.wv,TT.Ahc hw (by rw[hm];exact hx) AC,Jc _ (CY.2 ⟨c,AC,hc,by unfold D0;rw[Jb h1]⟩),AC,?_⟩;rw[ny,AgN (Wq g) hc (by unfold EM;rw[hx];rfl) _ 0 AC];exact FJ λu hu=>by
   obtain⟨d,_,h2,h3⟩:=CY.1 hu;have:c=8+d:=V2 g d _ h3;omega
 .rw[hH] at hn;have h1:=hs c hc;rw[hn] at h1;refine TT.cons λw' KT=>?_
  have h2:=KT.2;rw[hm,<-h1] at h2;cases h2
omit h6 in
theorem MV.AkW (h6:n<=6) (hD:(∃c,c<n/\(g.Bi c).isSome=V)->Z95 t=[]):MV T n sm (A5 H t D9) (A5 Z95 t (Z95 t++Kv (EZ g) n 0)) E:=by
 have hlc:∀c u,c<n->(8+c,u)∈Kv (EZ g) n 0->g.Bi c=U u:=λc u hc hu=>by
  grind [CY,EZ,Option.map_eq_some_iff]
 refine MV.AkG hl h ht (λhx=>hD ?_) ?_ AC (λc lv v w hc hv e TT=>?_) AC
 .rcases hx with⟨c,hc,hx⟩|hx
  .exact⟨c,hc,by rw[<-hH];exact hx⟩
  .cases hb:Kv (EZ g) n 0<;>grind [EZ,CY,List.mem_cons_self,Option.map_eq_some_iff]
 .have:=sU (f:=λ_=>Z) (g:=EZ g) (n:=n) h6 AC (Wt g) AC;rw[U0 (λ_=>Z) n AC,JF] at this;exact this
 .rw[hH] at hv;refine⟨v,w,TT,CY.2 ⟨c,AC,hc,by grind [EZ]⟩,AC,FJ λu hu=>?_⟩;obtain⟨d,_,h2,h3⟩:=CY.1 hu;have:c=8+d:=Wt g d _ h3;omega
end
def KP (σ:Int->Nat) (N k:Int) (τ:Nat):Prop:=∀w,1<=w->w<=N->(w<=k<->σ w<τ)
structure GH where
 E:List Ev
 pc:Nat->Nat
 σ:Int->Nat
 Gy:Nat
def Du (g:Gt):Bool:=match g.ph with|.lo _=>V|_=>I
def mJ (T:Nat) (G:Nat->Gt) (E:List Ev) (k:Int) (rd:Nat->Option Int):Prop:=∀c v,rd c=U v->rS E c k v/\∀u,u<T->Du (G u)=V->(G u).wv<=k->(G u).q.A3 c=Z
def I6 (n:Nat) (A:AM) (G:Nat->Gt) (u:Nat):List (Nat×Int):=(A.th u).sw++AH n (G u)
def Nn (T n:Nat) (A:AM) (G:Nat->Gt) (E:List Ev) (t:Nat):Prop:=match (G t).ph with
 |.Fp c lv=>∃w0,lv=2*w0/\w0<=(G t).rv/\∀v w,DW E c v w->w0<=w/\(w=w0->∀u,u<T->u≠t->∀x,(c,x)∉I6 n A G u)
 |.Fy c lv y=>∃w0,lv=2*w0/\w0<=(G t).rv/\∀v w,DW E c v w->w0<=w/\(w=w0->y=v)
 |.lo c=>(A.th t).sw=[]/\(G t).rv<(G t).wv/\∀d,d<c->∀v,(G t).rd d=U v->(G t).Bi d=Z->rS E d ((G t).wv-1) v/\∀u,u<T->u≠t->Du (G u)=V->(G u).wv<=(G t).wv-1->(G u).q.A3 d=Z
 |_=>True
structure mY (T n:Nat) (A:AM) (G:Nat->Gt) (h:GH) (t:Nat):Prop where
 kp:KP h.σ (A.sm 16) (G t).rv (h.pc t)
 pcn:h.pc t<h.Gy
 ni:Dm (G t).q0
 ch:Ij (G t).rd (Cw (G t).q0) (G t).q
 rdo:mJ T G h.E (G t).rv (G t).rd
 Uh:∀e,e∈h.E->e.t=t->e.τ<h.pc t
 lv:∀c l,(G t).Bi c=U l->∃w,l=2*w/\w<=(G t).rv
 sw:∀c,((G t).Bi c).isSome=V->(A.th t).sw=[]
 rdn:∀c v,(G t).rd c=U v->c<n
 ph:Nn T n A G h.E t
structure WI (T n:Nat) (A:AM) (G:Nat->Gt) (h:GH):Prop where
 mv:MV T n A.sm (λu=>BR (G u)) (I6 n A G) h.E
 s1:∀w,1<=w->w<=A.sm 16->h.σ w<h.Gy
 s2:∀w w',1<=w->w<w'->w'<=A.sm 16->h.σ w<h.σ w'
 Po:gK h.E
 ev:∀e,e∈h.E->e.τ<h.Gy/\e.k<=A.sm 16/\KP h.σ (A.sm 16) e.k e.τ/\mJ T G h.E e.k e.rd/\∀w,e.w=U w->e.k=w-1/\e.τ=h.σ w/\1<=w/\w<=A.sm 16
 pn:∀t,t<T->Du (G t)=V->1<=(G t).wv/\(G t).wv<=A.sm 16/\(∀e,e∈h.E->e.w≠U (G t).wv)/\∀u,u<T->u≠t->Du (G u)=V->(G u).wv≠(G t).wv
 ac:∀t,t<T->Dw (G t)=V->(G t).rv<=A.sm 16/\mY T n A G h t
theorem DW.ex (E:List Ev) (h1:∀e,e∈E->∀w,e.w=U w->1<=w) (c:Nat):∃v w,DW E c v w:=by
 induction E with
 |nil=>exact⟨0,0,.inr AC⟩
 |cons e E ih=>
  obtain⟨v,w,h⟩:=ih AC;by_cases hx:∃w',e.wr c w'
  .obtain⟨w',hw⟩:=hx;obtain⟨x,hx⟩:=JA.1 hw.2;by_cases hle:w<=w';grind [h.Ahc hw.1 hx hle]
   .have h2:=h1 e AC w' hw.1;rcases h with⟨e1,a1,a2,a3,a4⟩|⟨_,a2,_⟩
    .refine⟨v,w,.inl ⟨e1,AC,a2,a3,λe' Bg w2 Mi=>?_⟩⟩;cases Bg with
     |head=>have:=hw.1.symm.trans Mi.1;grind
     |tail _ Bg=>exact a4 e' Bg w2 Mi
    .omega
  .exact⟨v,w,h.cons AC⟩
structure WC (T n:Nat) (A A':AM) (G:Nat->Gt) (t:Nat) (g':Gt) (h h':GH):Prop where
 N:A.sm 16<=A'.sm 16
 σ:∀w,w<=A.sm 16->h'.σ w=h.σ w
 σn:∀w,A.sm 16<w->w<=A'.sm 16->h.Gy<=h'.σ w
 Gy:h.Gy<=h'.Gy
 pc:∀u,u≠t->h'.pc u=h.pc u
 oth:∀u,u≠t->A'.th u=A.th u
 E:h'.E=h.E\/∃e0,h'.E=e0::h.E/\e0.t=t/\∀w,e0.w=U w->(A.sm 16<w\/(Du (G t)=V/\(G t).wv=w/\(G t).q.A3=e0.q2.A3))/\∀c v w1,c<n->(e0.q2.A3 c).isSome=V->DW h.E c v w1->w1<w
 pe:Du g'=V->A.sm 16<g'.wv\/(Du (G t)=V/\g'.wv=(G t).wv/\g'.q.A3=(G t).q.A3)
 Z95:∀c x,c<n->(c,x)∈(A'.th t).sw++AH n g'->(c,x)∈I6 n A G t\/∃e0,h'.E=e0::h.E/\∃w,e0.wr c w
section
variable {T n:Nat} {A A':AM} {G:Nat->Gt} {t:Nat} {g':Gt} {h h':GH} (c:WC T n A A' G t g' h h')
include c
theorem WC.isV {cc:Nat} (hv:rS h.E cc k v) (hk:k<=A.sm 16) (hp:Du (G t)=V->(G t).wv<=k->(G t).q.A3 cc=Z):rS h'.E cc k v:=by
 rcases c.E with e|⟨e0,e,_,he⟩;grind
 .rw[e];refine hv.cons λw hw=>?_
  rcases (he w hw.1).1 with h1|⟨h1,h2,h3⟩
  .omega
  .refine Classical.byContradiction λhx=>?_
   have:=hp h1 Y;have h4:=hw.2;rw[<-h3,this] at h4;cases h4
theorem WC.ow (ht:t<T) {k:Int} {rd:Nat->Option Int} (hr:mJ T G h.E k rd) (hk:k<=A.sm 16):mJ T (A5 G t g') h'.E k rd:=λcc v hv=>by
 grind [hr cc v hv,c.isV,Am,A6,WC]
theorem WC.kp (hr:KP h.σ (A.sm 16) k τ) (hk:k<=A.sm 16) (hτ:τ<=h.Gy):KP h'.σ (A'.sm 16) k τ:=λw h1 h2=>by
 by_cases hw:w<=A.sm 16;grind [hr w h1 hw,WC];grind [WC]
theorem WC.Ic (hw:∀e,e∈h.E->∀w,e.w=U w->1<=w) (ho:gK h'.E) {cc:Nat} (hc:cc<n) {v w:Int} (hv:DW h'.E cc v w):DW h.E cc v w\/∃v1 w1,DW h.E cc v1 w1/\w1<w/\∃e0,h'.E=e0::h.E/\e0.wr cc w:=by
 rcases c.E with e|⟨e0,e,_,he⟩;grind
 .obtain⟨v1,w1,h1⟩:=DW.ex h.E hw cc;by_cases hx:∃w',e0.wr cc w'
  .obtain⟨w',hx⟩:=hx;have hlt:=(he w' hx.1).2 cc v1 w1 hc hx.2 h1;obtain⟨x,hm⟩:=JA.1 hx.2;have h2:DW h'.E cc x w':=by rw[e];exact h1.Ahc hx.1 hm Y
   grind [hv.eT]
  .have h2:DW h'.E cc v1 w1:=by rw[e];grind [h1.cons]
   grind [hv.eT]
theorem WC.AlK (ht:t<T) (h6:n<=6) (hw:∀e,e∈h.E->∀w,e.w=U w->1<=w) (ho:gK h'.E) {u:Nat} (hu:u≠t) (hcn:(∀c lv,(G u).ph=.Fp c lv->c<n)/\∀c lv y,(G u).ph=.Fy c lv y->c<n) (hpn:Du (G u)=V->(G u).wv<=A.sm 16) (hp:Nn T n A G h.E u):Nn T n A' (A5 G t g') h'.E u:=by
 unfold Nn at hp⊢;rw[A6 _ _ hu];cases BJ:(G u).ph with
 |Fp cc lv=>
  rw[BJ] at hp;obtain⟨w0,h1,h2,h3⟩:=hp;have hc:=hcn.1 cc lv BJ;refine⟨w0,h1,h2,λv w hv=>?_⟩;rcases c.Ic hw ho hc hv with h4|⟨v1,w1,h4,h5,_⟩
  .obtain⟨h6,h7⟩:=h3 v w h4;refine⟨h6,λe u' lf hne x hx=>?_⟩;by_cases he:u'=t
   .subst he;unfold I6 at hx;rw[Am] at hx;rcases c.Z95 cc x hc hx with h8|⟨e0,h8,w2,h9⟩;grind
    .rcases c.E with e1|⟨e0',e1,_,Fx⟩;grind [List.length_cons]
     .have e2:e0'=e0:=by rw[e1] at h8;grind
      subst e2;have h10:=(Fx w2 h9.1).2 cc v w hc h9.2 h4;have h11:=hv.le e0' (by rw[e1];grind) w2 h9;omega
   grind [I6,A6,WC]
  grind
 |Fy cc lv y=>
  rw[BJ] at hp;obtain⟨w0,h1,h2,h3⟩:=hp;refine⟨w0,h1,h2,λv w hv=>?_⟩;rcases c.Ic hw ho (hcn.2 cc lv y BJ) hv with h4|⟨v1,w1,h4,h5,_⟩<;>grind
 |lo cc=>
  rw[BJ] at hp;grind [Du,c.isV,Am,A6,WC]
 |_=>trivial
theorem WC.acT (ht:t<T) (h6:n<=6) (hw:∀e,e∈h.E->∀w,e.w=U w->1<=w) (ho:gK h'.E) {u:Nat} (hu:u≠t) (hcn:(∀c lv,(G u).ph=.Fp c lv->c<n)/\∀c lv y,(G u).ph=.Fy c lv y->c<n) (hpn:Du (G u)=V->(G u).wv<=A.sm 16) (hr:(G u).rv<=A.sm 16) (ha:mY T n A G h u):mY T n A' (A5 G t g') h' u:=by
 have hp:=c.AlK ht h6 hw ho hu hcn hpn ha.ph;obtain⟨a1,a2,a3,a4,a5,a6,a7,a8,a9,_⟩:=ha;refine⟨?_,?_,?_,?_,?_,?_,?_,?_,?_,hp⟩<;>(try rw[A6 _ _ hu]);grind [c.kp,WC];grind [WC]
 .exact a3
 .exact a4
 grind [c.ow];grind [WC]
 .exact a7
 grind [WC]
 .exact a9
end
section
variable {T n:Nat} {A:AM} {G:Nat->Gt} {E:List Ev} {N:Int} (hl:LK T n A.sm N (λu=>BR (G u)) (I6 n A G)) (h:MV T n A.sm (λu=>BR (G u)) (I6 n A G) E) (h6:n<=6) {t:Nat} (ht:t<T) (hi:AH n (G t)=[])
include hl h h6 ht hi
theorem AkR:I6 n A G t=(A.th t).sw:=by
 have:=hl;have:=h;have:=h6;have:=ht;unfold I6;rw[hi,Jo]
theorem V1 {c:Nat} (hc:c<n) {w0:Int} (hv:vw (A.th t).sw (A.sm (8+c)) (8+c)=2*w0):
  ∃v,DW E c v w0/\(∀u,u<T->BR (G u) c=Z)/\(∀u,u<T->u≠t->∀x,(c,x)∉I6 n A G u)/\vw (A.th t).sw (A.sm c) c=v:=by
 have hd:=AkR hl h h6 ht hi;by_cases hx:∃u y,u<T/\(8+c,y)∈I6 n A G u
 .obtain⟨u,y,hu,hy⟩:=hx;by_cases he:u=t
  .subst he;obtain⟨v,w,h1,h2,h3⟩:=h.todo u c y hu hc hy;have IP:vw (A.th u).sw (A.sm (8+c)) (8+c)=y:=by
    rw[hd] at hy;have EG:=hl.nd u hu;rw[hd] at EG;obtain⟨a,b,e⟩:=List.append_of_mem hy;rw[e] at EG⊢;rw[ny,XK,Jb rfl];refine FJ λu' lf=>?_
    have h5:=(QR.1 EG).2.1;rw[Qc] at h5;exact h5.1 _ lf AC rfl
   rw[IP] at hv;obtain rfl:w=w0:=Y
   refine⟨v,h1,λu' lf=>?_,λu' lf hne x hx=>?_,by rw[<-hd];exact h3⟩
   .cases hH:BR (G u') c<;>grind [LK]
   .obtain⟨u2,hu2⟩:=(h.dok u' lf).2 c x hc hx;exact hne (hl.Po u' u c lf hu hc AC AC)
  .have Um:∀v,(8+c,v)∉(A.th t).sw:=λv Vc=>he (hl.Po u t c hu ht hc AC AC)
   rw[FJ Um] at hv;grind [LK]
 .have Um:∀v,(8+c,v)∉(A.th t).sw:=AC;rw[FJ Um] at hv;have Xf:∀u,u<T->BR (G u) c=Z/\∀v,(8+c,v)∉I6 n A G u:=λu hu=>by
   refine⟨?_,AC⟩;cases hH:BR (G u) c<;>grind [LK]
  obtain⟨v,w,h1,h2,h3⟩:=h.free c hc Xf;obtain rfl:w=w0:=Y
  have hnc:∀u,u<T->∀x,(c,x)∉I6 n A G u:=λu hu x DS=>by
   grind [(h.dok u hu).2 c x hc DS]
  grind [FJ]
theorem zD {c:Nat} (hc:c<n) (Um:∀u,u<T->u≠t->∀x,(c,x)∉I6 n A G u) {v w:Int} (ho:gK E) (TT:DW E c v w):vw (A.th t).sw (A.sm c) c=v:=by
 have hd:=AkR hl h h6 ht hi;have huq:∀{v' w':Int},DW E c v' w'->v'=v:=λh'=>(h'.eT ho TT).1
 by_cases hx:∃u y,u<T/\(8+c,y)∈I6 n A G u
 .obtain⟨u,y,hu,hy⟩:=hx;obtain⟨v',w',h1,h2,h3⟩:=h.todo u c y hu hc hy;rw[huq h1] at h3;by_cases he:u=t;grind
  .rw[FJ AC] at h3;rw[FJ λx hx=>?_]
   .exact h3
   .obtain⟨u2,hu2⟩:=(h.dok t ht).2 c x hc (by rw[hd];exact hx);exact he (hl.Po u t c hu ht hc AC AC)
 .have gh:∀x,(c,x)∉(A.th t).sw:=λx DS=>by
   obtain⟨u2,hu2⟩:=(h.dok t ht).2 c x hc (by rw[hd];exact DS)<;>grind
  rw[FJ gh];by_cases hy:∃u lv,u<T/\BR (G u) c=U lv;grind [MV]
  .obtain⟨v',w',h1,h2,h3⟩:=h.free c hc λu hu=>⟨by
      cases hH:BR (G u) c<;>grind,AC⟩
   rw[h3];grind
end
theorem vz {T:Nat} (hxn:x.n=n) (ha:KR x (G u) lt) (hp:Du (G u)=V) {c:Nat} (hc:c<n) (hh:BR (G u) c=Z):(G u).q.A3 c=Z:=by
 unfold Du at hp;split at hp
 .rename_i d BJ;have h1:=(T6 ha).1 AC c Y;have h2:BR (G u)=(G u).Bi:=Kx (by unfold CS;rw[BJ]);rw[<-h2,hh,J3 Y,Ql] at h1;cases hm:(G u).q.A3 c<;>grind
 .cases hp
theorem WI.of {h h':GH} (w:WI T n A G h) (c:WC T n A A' G t g' h h') (ht:t<T) (h6:n<=6)
  (hcn:∀u,u<T->u≠t->(∀c lv,(G u).ph=.Fp c lv->c<n)/\∀c lv y,(G u).ph=.Fy c lv y->c<n)
  (mv:MV T n A'.sm (λu=>BR (A5 G t g' u)) (I6 n A' (A5 G t g')) h'.E)
  (hσ:∀w,A.sm 16<w->w<=A'.sm 16->h'.σ w<h'.Gy/\∀w',1<=w'->w'<w->h'.σ w'<h'.σ w)
  (TR:∀e0,h'.E=e0::h.E->e0.τ<h'.Gy/\e0.k<=A'.sm 16/\KP h'.σ (A'.sm 16) e0.k e0.τ/\mJ T (A5 G t g') h'.E e0.k e0.rd/\∀w,e0.w=U w->(e0.k=w-1/\e0.τ=h'.σ w/\1<=w/\w<=A'.sm 16)/\∀e,e∈h.E->e.w≠U w)
  (pn:Du g'=V->1<=g'.wv/\g'.wv<=A'.sm 16/\(∀e,e∈h'.E->e.w≠U g'.wv)/\∀u,u<T->u≠t->Du (G u)=V->(G u).wv≠g'.wv)
  (ac:Dw g'=V->g'.rv<=A'.sm 16/\mY T n A' (A5 G t g') h' t):WI T n A' (A5 G t g') h':=by
 have Fu:∀e,e∈h.E->∀x,e.w=U x->1<=x:=λe he x hx=>((w.ev e he).2.2.2.2 x hx).2.2.1
 have Ah0:gK h'.E:=by
  rcases c.E with e|⟨e0,e,_⟩;grind [WI]
  .have h0:=(TR e0 e).2.2.2.2;rw[e];intro a b ha hb x hax SJ;cases ha with
   |head=>grind
   |tail _ ha=>cases hb with
    |head=>exact Jk hax ((h0 x SJ).2 a ha)
    |tail _ hb=>exact w.Po a b ha hb x hax SJ
 have hN:=c.N;have Amd:=c.Gy;refine⟨mv,λx h1 h2=>?_,λx y h1 h2 h3=>?_,Ah0,λe he=>?_,λu hu hp=>?_,λu hu ha=>?_⟩;grind [WI,WC];grind [WI,WC]
 .have hold:e∈h.E->e.τ<h'.Gy/\e.k<=A'.sm 16/\KP h'.σ (A'.sm 16) e.k e.τ/\mJ T (A5 G t g') h'.E e.k e.rd/\∀x,e.w=U x->e.k=x-1/\e.τ=h'.σ x/\1<=x/\x<=A'.sm 16:=λhe=>by
   grind [c.kp,c.ow,WI,WC]
  rcases c.E with e1|⟨e0,e1,_⟩<;>grind
 .by_cases he:u=t;grind [Am,A6]
  .rw[A6 _ _ he] at hp⊢;obtain⟨p1,p2,p3,p4⟩:=w.pn u hu hp;refine⟨p1,Y,λe hee=>?_,λu' lf hne Rm=>?_⟩;grind [c.E]
   .by_cases Bg:u'=t<;>grind [Am,A6]
 .by_cases he:u=t;grind [Am];grind [A6,c.acT,hcn u hu he,WI]
inductive CO (t:Nat) (s0:KS):List Ev->KS->List Int->Nat->Prop
 |nil:CO t s0 [] s0 [] 0
 |skip {e:Ev} {E:List Ev} {q:KS} {o:List Int} {l:Nat} (h:e.t≠t) (k:CO t s0 E q o l):CO t s0 (e::E) q o l
 |D1 {e:Ev} {E:List Ev} {q:KS} {o:List Int} {l:Nat} (h:e.t=t) (k:CO t s0 E q o l) (ko:Fe q e.q) (b:Dm e.q) (kt:Ij e.rd (Cw e.q) e.q2) (hs:e.q2.s=.nil) (hk:∃b s k,e.q2.k=.Ao b s k) (hm:e.w=Z->∀c,e.q2.A3 c=Z):CO t s0 (e::E) (BS e.q e.q2) (o++e.q.o++e.q2.o) (o++e.q.o).length
inductive G9 (t:Nat) (s0:KS):List Ev->List Int->Int->Prop
 |skip {e:Ev} {E:List Ev} {o:List Int} {r:Int} (h:e.t≠t) (k:G9 t s0 E o r):G9 t s0 (e::E) o r
 |CR {e:Ev} {E:List Ev} {q:KS} {o:List Int} {r:Int} {l:Nat} (h:e.t=t) (k:CO t s0 E q o l) (ko:Fe q e.q) (b:Dm e.q) (kt:Ij e.rd (Cw e.q) e.q2) (ht:Bz e.q2=U r) (hw:e.w=Z):G9 t s0 (e::E) (o++e.q.o) r
def Mr (s0:KS) (E:List Ev) (t:Nat) (g:Gt) (out:List Int):Prop:=match g.ph with
 |.pu _=>∃o,CO t s0 E (BS g.q0 g.q) (o++g.q.o) (J o)/\out=o
 |.fr _=>∃o,CO t s0 E (BS g.q0 g.q) (o++g.q.o) (J o)/\out=o
 |.te i=>∃o,CO t s0 E (BS g.q0 g.q) (o++g.q.o) (J o)/\out=o++g.q.o.take i
 |.node=>(g.q.k.Db=I/\∃q o l,CO t s0 E q o l/\Fe q g.q/\out=o++g.q.o)\/(g.q.k.Db=V/\∃r,G9 t s0 E out r/\Bz g.q=U r)
 |_=>Dm g.q0/\∃q o l,CO t s0 E q o l/\Fe q g.q0/\out=o++g.q0.o
theorem CO.le (h:CO t s0 E q o l):l<=J o:=by
 induction h<;>grind
theorem CO.LS (h:CO t s0 E q o l) (hE:E'=E\/∃e0,E'=e0::E/\e0.t≠t):CO t s0 E' q o l:=by
 grind [skip]
theorem G9.LS {r:Int} (h:G9 t s0 E o r) (hE:E'=E\/∃e0,E'=e0::E/\e0.t≠t):G9 t s0 E' o r:=by
 grind [skip]
theorem Mr.LS (h:Mr s0 E t g out) (hE:E'=E\/∃e0,E'=e0::E/\e0.t≠t):Mr s0 E' t g out:=by
 unfold Mr at h⊢;cases hp:g.ph<;>rw[hp] at h<;>dsimp only at h⊢;all_goals first
  |(obtain⟨o,h1,h2⟩:=h;exact⟨o,h1.LS hE,h2⟩)
  |(obtain⟨h0,q,o,l,h1,h2⟩:=h;exact⟨h0,q,o,l,h1.LS hE,h2⟩)
  | (rcases h with⟨h0,q,o,l,h1,h2⟩ | ⟨h0,r,h1,h2⟩
     grind [h1.LS hE];grind [h1.LS])
def nA (A:AM) (t:Nat) (e:Ek):AM:=⟨mE A.sm e,A5 A.th t (tE A.sm (A.th t) e)⟩
theorem UT (A:AM) (t:Nat) (e:Ek):(nA A t e).th t=tE A.sm (A.th t) e:=Am _ _ _
theorem dP (n:Nat) (A:AM) (G:Nat->Gt) (t:Nat) (e:Ek) (g':Gt):I6 n (nA A t e) (A5 G t g')=A5 (I6 n A G) t ((tE A.sm (A.th t) e).sw++AH n g'):=Yl A G t _ g'
section
variable {T n:Nat} {A:AM} {G:Nat->Gt} {t:Nat} {h:GH} {e:Ek} {g':Gt} (w:WI T n A G h) (h6:n<=6) (ht:t<T)
 (hcn:∀u,u<T->u≠t->(∀c lv,(G u).ph=.Fp c lv->c<n)/\∀c lv y,(G u).ph=.Fy c lv y->c<n)
include w h6 ht hcn
theorem XJ (hm:mE A.sm e=A.sm) (hH:BR g'=BR (G t)) (hD:(tE A.sm (A.th t) e).sw++AH n g'=I6 n A G t) {E':List Ev} {pc':Nat->Nat} (Tb:∀u,u≠t->pc' u=h.pc u)
  (hE:E'=h.E\/∃e0,E'=e0::h.E/\e0.t=t/\e0.w=Z/\e0.τ<=h.Gy/\e0.k<=A.sm 16/\KP h.σ (A.sm 16) e0.k e0.τ/\mJ T G h.E e0.k e0.rd)
  (hp:Du g'=V->Du (G t)=V/\g'.wv=(G t).wv/\g'.q.A3=(G t).q.A3)
  (ac:∀c:WC T n A (nA A t e) G t g' h ⟨E',pc',h.σ,h.Gy+1⟩,Dw g'=V->g'.rv<=A.sm 16/\mY T n (nA A t e) (A5 G t g') ⟨E',pc',h.σ,h.Gy+1⟩ t):
  WI T n (nA A t e) (A5 G t g') ⟨E',pc',h.σ,h.Gy+1⟩:=by
 have bp:(nA A t e).sm 16=A.sm 16:=congrFun hm 16;have c:WC T n A (nA A t e) G t g' h ⟨E',pc',h.σ,h.Gy+1⟩:=by
  refine⟨Y,λ_ _=>rfl,λw' h1 h2=>Y,JI _,Tb,λu hu=>A6 _ _ hu,?_,λXY=> .inr (hp XY),λc x _ hx=> .inl ?_⟩<;>grind [UT]
 have TT:∀c v w',DW h.E c v w'->DW E' c v w':=λc v w' hc=>by
  rcases hE with e1|⟨e0,e1,e2,e3,_⟩
  .rw[e1];exact hc
  .rw[e1];exact hc.cons λw2 Mi=>by have:=Mi.1;rw[e3] at this;cases this
 refine w.of c ht h6 hcn ?_ (λw' h1 h2=>Y) (λe0 TR=>?_) (λXY=>?_) λha=>?_
 .rw[dP,hD,N7,hH,Dp (λu=>BR (G u)),Dp];show MV T n (mE A.sm e) _ _ E';rw[hm];exact w.mv.mono λc v w' _=>TT c v w'
 .rcases hE with e1|⟨e1',e1,e2,e3,e4,e5,e6,e7⟩
  .have:=JM List.length (e1.symm.trans TR);rw[Jg] at this;omega
  .have:e1'=e0:=by have:=e1.symm.trans TR;injection this
   subst this;exact⟨Nat.lt_succ_of_le e4,by rw[bp];exact e5,c.kp e6 e5 e4,c.ow ht e7 e5,λw' KT=>by rw[e3] at KT;cases KT⟩
 .obtain⟨p1,p2,p3⟩:=hp XY;obtain⟨a1,a2,a3,a4⟩:=w.pn t ht p1;refine⟨by rw[p2];exact a1,by rw[bp,p2];exact a2,λe1 Fx=>?_,λu hu hne hpu=>by rw[p2];exact a4 u hu hne hpu⟩;rw[p2];rcases hE with e2|⟨e0,e2,_,e3,_⟩
  .rw[show(⟨E',pc',h.σ,h.Gy+1⟩:GH).E=E' from rfl,e2] at Fx;exact a3 e1 Fx
  .rw[show(⟨E',pc',h.σ,h.Gy+1⟩:GH).E=E' from rfl,e2] at Fx;cases Fx with
   |head=>rw[e3];intro hx;cases hx
   |tail _ Fx=>exact a3 e1 Fx
 .obtain⟨a1,a2⟩:=ac c ha;exact⟨by rw[bp];exact a1,a2⟩
end
theorem Agg (hi:q.k.Db=I) (h:Ot rd q=U r):r.o=q.o:=by
 grind [Ot,Option.map_eq_some_iff]
theorem Ij.Aet (h:Ij rd q r) (hi:q.k.Db=I):r.o=q.o:=by
 induction h<;>grind [MT,Agg]
theorem Sc (q:KS):Du (DJ q)=I:=by
 unfold Du DJ;cases q.s<;>rfl
theorem UL (h:CO t s0 E q o l) (k:Fe q q2) (hi:q2.k.Db=I):Mr s0 E t (DJ q2) (o++q2.o):=by
 unfold Mr DJ;cases hs:q2.s<;>dsimp only;case atomic b s=>exact⟨⟨b,s,hs⟩,q,o,l,h,k,rfl⟩
 all_goals exact .inl ⟨hi,q,o,l,h,k,rfl⟩
def NPk:KK->Prop
 |.done=>True
 |.rest s k=>BU s=I/\NPk k
 |.loop b s k=>BU b=I/\BU s=I/\NPk k
 |.Ao .. =>True
theorem AhH (h:Ot rd q=U r) (h1:BU q.s=I) (h2:NPk q.k) (h3:q.A3=D9):BU r.s=I/\NPk r.k/\r.A3=D9:=by
 unfold Ot at h;split at h
 .split at h
  .rename_i hk;cases h;rw[hk] at h2;exact⟨h2.1,h2.2,h3⟩
  .rename_i hk;have h2':=h2;rw[hk] at h2';split at h
   .cases h;exact⟨h2'.2.1,h2'.2.2,h3⟩
   .cases h;exact⟨h2'.1,h2,h3⟩
  .cases h
 .rename_i hs;rw[hs] at h1;simp only[Jj] at h;obtain⟨_,_,rfl⟩:=h;exact⟨h1,h2,h3⟩
 .rename_i hs;rw[hs] at h1;split at h
  .cases h
  .simp only[Jj] at h;obtain⟨_,_,rfl⟩:=h;exact⟨h1,h2,h3⟩
 .rename_i hs;rw[hs] at h1;cases h1
 .rename_i hs;rw[hs] at h1;split at h
  .cases h;exact⟨h1,h2,h3⟩
  .cases h
 .rename_i hs;rw[hs] at h1;obtain⟨a1,a2⟩:=Bool.or_eq_false_iff.1 h1;cases h;split;grind
  .exact⟨a1,⟨a2,h2⟩,h3⟩
 .rename_i hs;rw[hs] at h1;obtain⟨a1,a2⟩:=Bool.or_eq_false_iff.1 h1;cases h;exact⟨a1,⟨a1,a2,h2⟩,h3⟩
 .cases h
theorem Aey (e:q.s=.atomic b s) (hp:BU b=I) (h:Ij rd (Cw q) q2):∀c,q2.A3 c=Z:=by
 have:∀{q q2:KS},Ij rd q q2->BU q.s=I->NPk q.k->q.A3=D9->q2.A3=D9:=λ{q q2} h=>by
  induction h<;>grind [AhH]
 rw[this h (by rw[Gg e];exact hp) (by rw[Gg e];trivial) (by rw[Gg e])];exact λ_=>rfl
theorem Aei (r:gJ n b g g') (hl:g.Bi=D9) {s1:Bj} (Is:g.q0.s=.atomic b s1) (Pr:g.q0.k.Db=I) (hi:g.q.k.Db=V):
  (Dw g'=V/\Du g'=I/\g'.q0=g.q0/\g'.rd=g.rd/\g'.Bi=D9/\g'.rv=g.rv/\Ij D9 g.q g'.q/\(∀T n A G E t,G t=g'->Nn T n A G E t)/\∀s0 E t out,Mr s0 E t g' out<->Dm g'.q0/\∃q o l,CO t s0 E q o l/\Fe q g'.q0/\out=o++g'.q0.o)\/
  (Dw g'=I/\Du g'=I/\∃q',Ij D9 g.q q'/\∀(s0:KS) (E:List Ev) (e0:Ev) (t:Nat) (q:KS) (o:List Int) (l:Nat),CO t s0 E q o l->Fe q g.q0->e0.t=t->e0.q=g.q0->e0.q2=q'->e0.w=Z->Ij e0.rd (Cw g.q0) q'->Mr s0 (e0::E) t g' (o++g.q0.o)):=by
 have hb:Dm g.q0:=⟨b,s1,Is⟩;cases r with
 |CR q' k ht=>
  refine .inr ⟨rfl,rfl,q',k,λs0 E e0 t q o l hh ko e1 e2 e3 e4 kt=>?_⟩;obtain⟨r,hr⟩:=Option.ne_none_iff_exists'.1 ht;refine .inr ⟨k.Db.trans hi,r,?_,hr⟩<;>grind [G9.CR]
 |get q' c k=>exact .inl ⟨rfl,rfl,rfl,rfl,hl,rfl,k,λT n A G E t hG=>by grind [Nn],λ_ _ _ _=>Iff.rfl⟩
 |TD q' g' k hs hp hr=>
  cases hr with
  |lk c' _ _ _ _=>exact .inl ⟨rfl,rfl,rfl,rfl,hl,rfl,k,λT n A G E t hG=>by grind [Nn],λ_ _ _ _=>Iff.rfl⟩
  |xa _=>exact .inl ⟨rfl,rfl,rfl,rfl,hl,rfl,k,λT n A G E t hG=>by grind [Nn],λ_ _ _ _=>Iff.rfl⟩
 |Gf q' g' k hs hp hr=>
  have BZ:∀(s0:KS) (E:List Ev) (e0:Ev) (t:Nat) (q:KS) (o:List Int) (l:Nat),CO t s0 E q o l->Fe q g.q0->e0.t=t->e0.q=g.q0->e0.q2=q'->Ij e0.rd (Cw g.q0) q'->CO t s0 (e0::E) (BS g.q0 q') (o++g.q0.o++q'.o) (o++g.q0.o).length:=λs0 E e0 t q o l hh ko e1 e2 e3 kt=>by
   have:=CO.D1 (o:=o) e1 hh (by rw[e2];exact ko) (by rw[e2];exact hb) (by rw[e2,e3];exact kt) (by rw[e3];exact hs.1) (by rw[e3];exact hs.2) (λ_=>by rw[e3];grind [Aey]);rw[e2,e3] at this;exact this
  cases hr with
  |te hlt=>
   refine .inr ⟨rfl,rfl,q',k,λs0 E e0 t q o l hh ko e1 e2 e3 _ kt=>⟨o++g.q0.o,AC,?_⟩⟩;show _=_++q'.o.take 0;rw[Q6,Jo]
  |out q2 hlen k2=>
   refine .inr ⟨LZ q2,Sc q2,q',k,λs0 E e0 t q o l hh ko e1 e2 e3 _ kt=>?_⟩;have h1:=BZ s0 E e0 t q o l hh ko e1 e2 e3 kt;have ha:(BS g.q0 q').k.Db=I:=by rw[Gw Is];exact Pr
   have ho:q'.o=[]:=AC;have Xr:q2.o=[]:=(k2.Aet ha).trans (by rw[Gw Is]);have:=UL h1 k2.Ae2 (k2.Db.trans ha);rw[ho,Xr,Jo,Jo] at this;exact this
theorem cw (h:CO t s0 E (BS g.q0 g.q) (o++g.q.o) (J o)) (r:I7 g i g') (hb:Dm g.q0) (Pr:g.q0.k.Db=I):Mr s0 E t g' (o++g.q.o.take i):=by
 obtain⟨b,s,e⟩:=hb;cases r with
 |te hlt=>exact⟨o,h,rfl⟩
 |out q2 hlen k2=>
  have ha:(BS g.q0 g.q).k.Db=I:=by rw[Gw e];exact Pr
  have Xr:q2.o=[]:=(k2.Aet ha).trans (by rw[Gw e]);have:=UL h k2.Ae2 (k2.Db.trans ha);rw[Xr,Jo] at this;rw[hlen,J2];exact this
theorem cA {c:Nat} (h:CO t s0 E (BS g.q0 g.q) (o++g.q.o) (J o)) (r:KM n g c g') (hb:Dm g.q0) (Pr:g.q0.k.Db=I):Mr s0 E t g' o:=by
 cases r with
 |fr c' _ _ _ _=>exact⟨o,h,rfl⟩
 |stop g' _ k=>have:=cw h k hb Pr;rw[Q6,Jo] at this;exact this
theorem iU {c:Nat} (h:CO t s0 E (BS g.q0 g.q) (o++g.q.o) (J o)) (r:RO n g c g') (hb:Dm g.q0) (Pr:g.q0.k.Db=I):Mr s0 E t g' o:=by
 cases r with
 |pu c' _ _ _ _=>exact⟨o,h,rfl⟩
 |stop g' _ k=>grind [cA]
theorem cD {c:Nat} (h:Dm g.q0/\∃q o l,CO t s0 E q o l/\Fe q g.q0/\out=o++g.q0.o) (r:EO n g c g'):Mr s0 E t g' out:=by
 cases r with
 |ba c' _ _ _ _=>exact h
 |Of _=>exact h
theorem I7.Du (r:I7 g i g'):Du g'=I:=by
 cases r with
 |te _=>rfl
 |out q2 _ _=>exact Sc q2
theorem KM.Du {c:Nat} (r:KM n g c g'):Du g'=I:=by
 cases r with
 |fr _ _ _ _ _=>rfl
 |stop g' _ k=>exact k.Du
theorem RO.Du {c:Nat} (r:RO n g c g'):Du g'=I:=by
 cases r with
 |pu _ _ _ _ _=>rfl
 |stop g' _ k=>exact k.Du
theorem EO.Du {c:Nat} (r:EO n g c g'):Du g'=I:=by cases r<;>rfl
def Dec (G:Nat->Gt) (t:Nat) (h h':GH) (g':Gt):Prop:=
 (∀e0,h'.E=e0::h.E->Dw g'=I/\(e0.τ=h.Gy\/(Dw (G t)=V/\h.pc t<=e0.τ/\e0.q=(G t).q0)))/\(Dw g'=V->h.Gy<=h'.pc t\/(Dw (G t)=V/\h'.pc t=h.pc t/\g'.q0=(G t).q0))/\∀u,u≠t->h'.pc u=h.pc u
theorem OZ {α:Type} {l:List α} {a:α} (h:l=a::l):False:=by
 have:=JM List.length h;rw[Jg] at this;omega
def Mv (T n:Nat) (A:AM) (G:Nat->Gt) (t:Nat) (h:GH) (e:Ek) (g':Gt):Prop:=
 ∃h':GH,WI T n (nA A t e) (A5 G t g') h'/\(h'.E=h.E\/∃e0,h'.E=e0::h.E/\e0.t=t)/\h.Gy<h'.Gy/\(∀s0,Mr s0 h.E t (G t) (A.th t).out->Mr s0 h'.E t g' (tE A.sm (A.th t) e).out)/\Dec G t h h' g'
section
variable {T n:Nat} {A:AM} {G:Nat->Gt} {t:Nat} {h:GH} {e:Ek} {g':Gt} (w:WI T n A G h) (h6:n<=6) (ht:t<T)
 (hcn:∀u,u<T->u≠t->(∀c lv,(G u).ph=.Fp c lv->c<n)/\∀c lv y,(G u).ph=.Fy c lv y->c<n)
 {x:Cx} (hxn:x.n=n) {lt:LT} (ha:KR x (G t) lt) (he:Pb (G t)=U e)
include w h6 ht hcn
theorem UU (hm:mE A.sm e=A.sm) (hH:BR g'=BR (G t)) (hD:(tE A.sm (A.th t) e).sw++AH n g'=I6 n A G t) (hp:Du g'=I) (hac:Dw g'=I) (Ex:∀s0,Mr s0 h.E t (G t) (A.th t).out->Mr s0 h.E t g' (tE A.sm (A.th t) e).out):Mv T n A G t h e g':=
 ⟨⟨h.E,h.pc,h.σ,h.Gy+1⟩,XJ w h6 ht hcn hm hH hD AC AC AC AC,AC,AC,Ex,λ_ h=>(OZ h).elim,AC,AC⟩
theorem Abl (hm:mE A.sm e=A.sm) (Ri:(tE A.sm (A.th t) e).sw=(A.th t).sw) (hH:BR g'=BR (G t)) (hi:AH n (G t)=[]/\AH n g'=[]) (hp:Du g'=I) (Lp:Dw (G t)=V) (e1:g'.q0=(G t).q0) (e2:g'.q=(G t).q) (e3:g'.rd=(G t).rd) (e4:g'.Bi=(G t).Bi) (e5:g'.rv=(G t).rv)
  (BJ:Nn T n (nA A t e) (A5 G t g') h.E t) (Ex:∀s0,Mr s0 h.E t (G t) (A.th t).out->Mr s0 h.E t g' (tE A.sm (A.th t) e).out):Mv T n A G t h e g':=by
 refine⟨⟨h.E,h.pc,h.σ,h.Gy+1⟩,XJ w h6 ht hcn hm hH ?_ AC AC AC λc _=>?_,AC,AC,Ex,λ_ h=>(OZ h).elim,AC,AC⟩;grind [I6]
 .obtain⟨b1,a1,a2,a3,a4,a5,a6,a7,a8,a9,_⟩:=w.ac t ht Lp;refine⟨by rw[e5];exact b1,?_,AC,?_,?_,?_,a6,?_,?_,?_,BJ⟩;grind [Am,c.kp];grind [Am];grind [Am];grind [Am,c.ow]
  .rw[Am,e4,e5];exact a7
  .rw[Am,e4,UT,Ri];exact a8
  .rw[Am,e3];exact a9
include ha he hxn
theorem Ahw (BJ:(G t).ph=.node) (hs:∀s,e≠ .stop s) {q':KS} (k:Ij D9 (IY (G t).q) q'):Mv T n A G t h e (DJ q'):=by
 have _:=hxn;have _:=ha;have hi:=Ef n q';have Bg:=he;unfold Pb at Bg;rw[BJ] at Bg;have hx:∃a r,(G t).q.s=.out a r/\(G t).q.k.Db=I/\e=.out (DV (G t).q.L a):=by
  grind [Option.map_eq_some_iff]
 obtain⟨a,r,hsq,hib,rfl⟩:=hx;refine UU w h6 ht hcn rfl ?_ ?_ (Sc q') (LZ q') λs0 Ex=>?_
 grind [Dj,CS]
 .rw[hi.2.1];unfold I6;rw[show AH n (G t)=[] by unfold AH;rw[BJ]];rfl
 .unfold Mr at Ex;rw[BJ] at Ex;rcases Ex with⟨_,q,o,l,h1,h2,h3⟩|⟨h0,_⟩
  .have hk:(IY (G t).q).k=(G t).q.k:=by unfold IY;rw[hsq]
   have ho:(IY (G t).q).o=(G t).q.o++[DV (G t).q.L a]:=by unfold IY;rw[hsq]
   have Mo:(IY (G t).q).k.Db=I:=by rw[hk];exact hib
   have:=UL h1 (h2.trans (.out hsq hib k.Ae2)) (k.Db.trans Mo);rw[k.Aet Mo,ho,<-Ji,<-h3] at this;exact this
  grind
theorem Ajw (BJ:(G t).ph=.te i) (r:I7 (G t) (i+1) g'):Mv T n A G t h e g':=by
 have _:=hxn;have Bg:=he;unfold Pb at Bg;rw[BJ] at Bg;replace Bg:((G t).q.o[i]?).map Ek.out=U e:=Bg;rw[Jj] at Bg;obtain⟨u,hu,rfl⟩:=Bg;obtain⟨i1,i2,_⟩:=r.Uk (n:=n);have Nl:=ha;unfold KR at Nl;rw[BJ] at Nl;obtain⟨b,s,ab,p,hc,_⟩:=Nl;refine UU w h6 ht hcn rfl ?_ ?_ r.Du r.Dw λs0 Ex=>?_
 grind [Dj,CS]
 .rw[i2];unfold I6;rw[show AH n (G t)=[] by unfold AH;rw[BJ]];rfl
 .unfold Mr at Ex;rw[BJ] at Ex;obtain⟨o,h1,h2⟩:=Ex;have:=cw h1 r ⟨b,s,hc.Ao.ni⟩ hc.Ao.nb;show Mr s0 h.E t g' ((A.th t).out++[u]);rw[h2,Ji];rw[show(G t).q.o.take i++[u]=(G t).q.o.take (i+1) by rw[i6,hu];rfl];exact this
theorem Ajx {c:Nat} (BJ:(G t).ph=.pu c) (r:RO n (G t) (c+1) g'):Mv T n A G t h e g':=by
 have Bg:=he;unfold Pb at Bg;rw[BJ] at Bg;replace Bg:((G t).q.A3 c).map (Ek.st c ·)=U e:=Bg;rw[Jj] at Bg;obtain⟨u,hu,rfl⟩:=Bg;obtain⟨i1,i2,_⟩:=r.Uk;have Nl:=ha;unfold KR at Nl;rw[BJ] at Nl;obtain⟨hc,tA,_,b,s,ab,p,Xw,_⟩:=Nl;refine UU w h6 ht hcn rfl ?_ ?_ r.Du r.Dw λs0 Ex=>?_
 grind [Dj,CS]
 .rw[i2];unfold I6;rw[show AH n (G t)=Kv (EM (G t)) n c++Kv (D0 (G t)) n 0 by unfold AH;rw[BJ],GR (EM (G t)) (show c<n by omega),show EM (G t) c=U (c,u) by unfold EM;rw[hu];rfl];show((A.th t).sw++[(c,u)])++_=_;simp
 .unfold Mr at Ex;rw[BJ] at Ex;obtain⟨o,h1,h2⟩:=Ex;show Mr s0 h.E t g' (A.th t).out;rw[h2];exact iU h1 r ⟨b,s,Xw.Ao.ni⟩ Xw.Ao.nb
theorem Ajy {c:Nat} (BJ:(G t).ph=.fr c) (r:KM n (G t) (c+1) g'):Mv T n A G t h e g':=by
 have Bg:=he;unfold Pb at Bg;rw[BJ] at Bg;cases Bg;obtain⟨i1,i2,_⟩:=r.Uk;have Nl:=ha;unfold KR at Nl;rw[BJ] at Nl;obtain⟨hc,tA,_,b,s,ab,p,Xw,_⟩:=Nl;refine UU w h6 ht hcn rfl ?_ ?_ r.Du r.Dw λs0 Ex=>?_
 grind [Dj,CS]
 .rw[i2];unfold I6;rw[show AH n (G t)=Kv (D0 (G t)) n c by unfold AH;rw[BJ],GR (D0 (G t)) (show c<n by omega),show D0 (G t) c=U (8+c,2*(G t).wv) by unfold D0;rw[Jb tA]];show((A.th t).sw++[(8+c,2*(G t).wv)])++_=_;simp
 .unfold Mr at Ex;rw[BJ] at Ex;obtain⟨o,h1,h2⟩:=Ex;show Mr s0 h.E t g' (A.th t).out;rw[h2];exact cA h1 r ⟨b,s,Xw.Ao.ni⟩ Xw.Ao.nb
theorem Ajz {c:Nat} (BJ:(G t).ph=.ba c) (r:EO n (G t) (c+1) g'):Mv T n A G t h e g':=by
 have Bg:=he;unfold Pb at Bg;rw[BJ] at Bg;replace Bg:((G t).Bi c).map (Ek.st (8+c) ·)=U e:=Bg;rw[Jj] at Bg;obtain⟨u,hu,rfl⟩:=Bg;obtain⟨i1,i2,_⟩:=r.Uk;have Nl:=ha;unfold KR at Nl;rw[BJ] at Nl;obtain⟨hc,_⟩:=Nl;refine UU w h6 ht hcn rfl ?_ ?_ r.Du r.Dw λs0 Ex=>?_
 grind [Dj,CS]
 .rw[i2];unfold I6;rw[show AH n (G t)=Kv (EZ (G t)) n c by unfold AH;rw[BJ],GR (EZ (G t)) (show c<n by omega),show EZ (G t) c=U (8+c,u) by unfold EZ;rw[hu];rfl];show((A.th t).sw++[(8+c,u)])++_=_;simp
 .unfold Mr at Ex;rw[BJ] at Ex;exact cD Ex r
end
theorem Mw (Lp:Dw g=V) (h1:Mr s0 E t g out):Dm g.q0/\∃q o l,CO t s0 E q o l/\Fe q g.q0/\out=o++g.q0.o:=by
 unfold Mr at h1;unfold Dw at Lp;cases hp:g.ph<;>rw[hp] at h1 Lp<;>first|exact h1|cases Lp
section
variable {T n:Nat} {A:AM} {G:Nat->Gt} {t:Nat} {h:GH} {e:Ek} {g':Gt} (w:WI T n A G h) (h6:n<=6) (ht:t<T)
 (hcn:∀u,u<T->u≠t->(∀c lv,(G u).ph=.Fp c lv->c<n)/\∀c lv y,(G u).ph=.Fy c lv y->c<n)
 (hl:LK T n A.sm (A.sm 16) (λu=>BR (G u)) (I6 n A G))
include w h6 ht hcn
theorem AeF (hl:LK T n A.sm (A.sm 16) (λu=>BR (G u)) (I6 n A G)) (hm:mE A.sm e=A.sm) (Ri:(tE A.sm (A.th t) e).sw=(A.th t).sw) (Ve:(tE A.sm (A.th t) e).out=(A.th t).out) (Lp:Dw (G t)=V) (hi:AH n (G t)=[]) (hH:BR (G t)=(G t).Bi) (r:EO n (G t) 0 g')
  (Ex:∀s0,Mr s0 h.E t (G t) (A.th t).out->Dm (G t).q0/\∃q o l,CO t s0 h.E q o l/\Fe q (G t).q0/\(A.th t).out=o++(G t).q0.o):Mv T n A G t h e g':=by
 obtain⟨i1,i2,_⟩:=r.Uk;have bp:(nA A t e).sm 16=A.sm 16:=congrFun hm 16;obtain⟨_,ac⟩:=w.ac t ht Lp;have hDt:I6 n A G t=(A.th t).sw:=by unfold I6;rw[hi,Jo]
 have hD':I6 n (nA A t e) (A5 G t g')=A5 (I6 n A G) t (I6 n A G t++Kv (EZ (G t)) n 0):=by rw[dP,Ri,i2,hDt]
 have c:WC T n A (nA A t e) G t g' h ⟨h.E,h.pc,h.σ,h.Gy+1⟩:=by
  refine⟨Y,AC,AC,AC,AC,λu hu=>A6 _ _ hu,AC,λXY=>(by rw[r.Du] at XY;cases XY),λc x hc hx=> .inl ?_⟩;rw[UT,Ri,i2] at hx;rcases Jp.1 hx with hx|hx;grind
  .obtain⟨d,_,_,h3⟩:=CY.1 hx;have:c=8+d:=Wt _ d _ h3;omega
 refine⟨_,w.of c ht h6 hcn ?_ AC (λe0 TR=>?_) (λXY=>by rw[r.Du] at XY;cases XY) (λha=>by rw[r.Dw] at ha;cases ha),AC,AC,λs0 h0=>?_,λ_ h=>(OZ h).elim,λh=>(by rw[r.Dw] at h;cases h),AC⟩
 .rw[hD',N7,i1];show MV T n (mE A.sm e) _ _ h.E;rw[hm];grind [MV.AkW,WI,mY]
 grind [List.length_cons];grind [cD]
variable {x:Cx} (hxn:x.n=n) {lt:LT} (ha:KR x (G t) lt)
include hxn ha
omit hxn ha in
theorem Abk (hm:mE A.sm e=A.sm) (Ri:(tE A.sm (A.th t) e).sw=(A.th t).sw) (Ve:(tE A.sm (A.th t) e).out=(A.th t).out) (hi:AH n (G t)=[]) (hH:BR (G t)=D9) {b:Bj} {g1:Gt} (r:gJ n b g1 g') (KX:g1.Bi=D9) {s1:Bj} (Is:g1.q0.s=.atomic b s1) (Pr:g1.q0.k.Db=I) (hib:g1.q.k.Db=V)
  (hrv:g1.rv<=A.sm 16) {τ:Nat} (hτ:τ<=h.Gy) (lB:KP h.σ (A.sm 16) g1.rv τ) (hch:Ij g1.rd (Cw g1.q0) g1.q) (Vd:mJ T G h.E g1.rv g1.rd) (Al1:∀c v,g1.rd c=U v->c<n) (TM:∀e,e∈h.E->e.t=t->e.τ<τ) (hτ2:τ=h.Gy\/(Dw (G t)=V/\τ=h.pc t/\g1.q0=(G t).q0))
  (Ex:∀s0,Mr s0 h.E t (G t) (A.th t).out->∃q o l,CO t s0 h.E q o l/\Fe q g1.q0/\(A.th t).out=o++g1.q0.o):Mv T n A G t h e g':=by
 obtain⟨i1,i2,_⟩:=r.Uk KX;have hD:(tE A.sm (A.th t) e).sw++AH n g'=I6 n A G t:=by rw[Ri,i2];unfold I6;rw[hi]
 have hH':BR g'=BR (G t):=by rw[i1,hH]
 have bp:(nA A t e).sm 16=A.sm 16:=congrFun hm 16;have hb:Dm g1.q0:=⟨b,s1,Is⟩;rcases Aei r KX Is Pr hib with⟨a1,a2,a3,a4,a5,a6,a7,a8,a9⟩|⟨a1,a2,q',a3,a4⟩
 .refine⟨⟨h.E,A5 h.pc t τ,h.σ,h.Gy+1⟩,XJ w h6 ht hcn hm hH' hD (λu hu=>A6 _ _ hu) AC AC λc _=>?_,AC,AC,λs0 h0=>?_,λ_ h=>(OZ h).elim,λ_=>?_,λu hu=>A6 _ _ hu⟩
  .refine⟨by rw[a6];exact hrv,?_,?_,?_,?_,?_,?_,?_,?_,?_,a8 _ _ _ _ _ _ (Am _ _ _)⟩
   .rw[Am,a6];show KP h.σ _ _ (A5 h.pc t τ t);rw[Am];exact c.kp lB hrv hτ
   .show A5 h.pc t τ t<h.Gy+1;rw[Am];omega
   .rw[Am,a3];exact hb
   .rw[Am,a3,a4];exact hch.trans (Ij.mono (λc x hx=>by cases hx) a7)
   .rw[Am,a4,a6];exact c.ow ht Vd hrv
   .intro e1 Fx Rs;show e1.τ<A5 h.pc t τ t;rw[Am];exact TM e1 Fx Rs
   .rw[Am,a5];intro c l hx;cases hx
   .rw[Am,a5];intro c hx;cases hx
   .rw[Am,a4];exact Al1
  .rw[Ve];obtain⟨q,o,l,h1,h2,h3⟩:=Ex s0 h0;refine(a9 s0 h.E t _).2 ⟨by rw[a3];exact hb,q,o,l,h1,by rw[a3];exact h2,by rw[a3];exact h3⟩
  .show h.Gy<=A5 h.pc t τ t\/(Dw (G t)=V/\A5 h.pc t τ t=h.pc t/\_);rw[Am,a3];exact hτ2.imp (λe=>Y) id
 .have Mo:Ij g1.rd (Cw g1.q0) q':=hch.trans (Ij.mono (λc x hx=>by cases hx) a3);refine⟨⟨⟨t,τ,g1.q0,q',g1.rd,g1.rv,Z⟩::h.E,h.pc,h.σ,h.Gy+1⟩,XJ w h6 ht hcn hm hH' hD (λu hu=>rfl) (.inr ⟨_,rfl,rfl,rfl,hτ,hrv,lB,Vd⟩) (λhp=>by rw[a2] at hp;cases hp) λ_ hx=>(by rw[a1] at hx;cases hx),.inr ⟨_,rfl,rfl⟩,JC _,λs0 h0=>?_,λe0 TR=>?_,λhx=>(by rw[a1] at hx;cases hx),λ_ _=>rfl⟩<;>grind
include hl
theorem Ahz (he:Pb (G t)=U e) (BJ:(G t).ph=.Of) {b s:Bj} (h0:(G t).q0.s=.atomic b s) (r:gJ n b ⟨.node,(G t).q0,Cw (G t).q0,D9,D9,vE A.sm (A.th t).sw e,0⟩ g'):Mv T n A G t h e g':=by
 have Bg:=he;unfold Pb at Bg;rw[BJ] at Bg;cases Bg;have hv:vE A.sm (A.th t).sw (.ld 1 16)=A.sm 16:=FJ λu hu=>by
  exact naz
 rw[hv] at r;have Nl:=ha;unfold KR at Nl;rw[BJ] at Nl;obtain⟨b1,s1,ab,e1,e2,_⟩:=Nl;refine Abk w h6 ht hcn rfl rfl rfl (by unfold AH;rw[BJ]) (Dj (by unfold CS;rw[BJ])) r rfl h0 e2 (by rw[Gg h0];rfl) (QE _) (Jf h.Gy) (λw' h1 h2=>⟨λ_=>w.s1 w' h1 h2,λ_=>h2⟩) (.nil _) (λc v hx=>by cases hx) (λc v hx=>by cases hx) (λe1 Fx _=>(w.ev e1 Fx).1) (.inl rfl) λs0 h1=>?_<;>grind [Mr]
end
section
variable {T n:Nat} {A:AM} {G:Nat->Gt} {t:Nat} {h:GH} {e:Ek} {g':Gt} (w:WI T n A G h) (h6:n<=6) (ht:t<T)
 (hcn:∀u,u<T->u≠t->(∀c lv,(G u).ph=.Fp c lv->c<n)/\∀c lv y,(G u).ph=.Fy c lv y->c<n)
 (hl:LK T n A.sm (A.sm 16) (λu=>BR (G u)) (I6 n A G)) {x:Cx} (hxn:x.n=n) {lt:LT} (ha:KR x (G t) lt) (he:Pb (G t)=U e)
include w h6 ht hcn hl hxn ha he
theorem AeE {c:Nat} (BJ:(G t).ph=.Kg c) (hv:aP (G t) (vE A.sm (A.th t).sw e)):Mv T n A G t h e {G t with ph:=.Fp c (vE A.sm (A.th t).sw e)}:=by
 have Bg:=he;unfold Pb at Bg;rw[BJ] at Bg;cases Bg;have Nl:=ha;unfold KR at Nl;rw[BJ] at Nl;obtain⟨b,s,ab,p0,v,r,hg,_⟩:=Nl;have hc:c<n:=by have:=hg.Mh.lt;omega
 have hi:AH n (G t)=[]:=by unfold AH;rw[BJ]
 have Lp:Dw (G t)=V:=by unfold Dw;rw[BJ]
 obtain⟨w0,e1,e2,e3⟩:=hv;obtain⟨v0,a1,a2,a3,a4⟩:=V1 hl w.mv h6 ht hi hc e1;refine Abl w h6 ht hcn rfl rfl ?_ ⟨hi,rfl⟩ rfl Lp rfl rfl rfl rfl rfl ?_ λs0 h0=>?_
 grind [Dj,CS]
 .unfold Nn;rw[Am];refine⟨w0,e1,e3,λv1 w1 h1=>?_⟩;obtain⟨_,e4⟩:=h1.eT w.Po a1;refine⟨Y,λ_ u hu hne y=>?_⟩;rw[dP,A6 _ _ hne];grind
 .have h1:=Mw Lp h0;exact h1
theorem AeD {c:Nat} (BJ:(G t).ph=.Fp c lv):Mv T n A G t h e {G t with ph:=.Fy c lv (vE A.sm (A.th t).sw e)}:=by
 have Bg:=he;unfold Pb at Bg;rw[BJ] at Bg;cases Bg;have Nl:=ha;unfold KR at Nl;rw[BJ] at Nl;obtain⟨⟨b,s,ab,p0,v,r,hg,_⟩,_⟩:=Nl;have hc:c<n:=by have:=hg.Mh.lt;omega
 have hi:AH n (G t)=[]:=by unfold AH;rw[BJ]
 have Lp:Dw (G t)=V:=by unfold Dw;rw[BJ]
 have hp:=(w.ac t ht Lp).2.ph;unfold Nn at hp;rw[BJ] at hp;obtain⟨w0,e1,e2,e3⟩:=hp;refine Abl w h6 ht hcn rfl rfl ?_ ⟨hi,rfl⟩ rfl Lp rfl rfl rfl rfl rfl ?_ λs0 h0=>?_
 grind [Dj,CS]
 .unfold Nn;rw[Am];refine⟨w0,e1,e2,λv1 w1 h1=>⟨AC,λe4=>?_⟩⟩;exact zD hl w.mv h6 ht hi hc AC w.Po h1
 .have h1:=Mw Lp h0;exact h1
theorem AeC (hpm:∀u,u<T->Du (G u)=V->∀c,c<n->BR (G u) c=Z->(G u).q.A3 c=Z) {c:Nat} {lv y:Int} (BJ:(G t).ph=.Fy c lv y) (hv:vE A.sm (A.th t).sw e=lv) {b s:Bj} (h0:(G t).q0.s=.atomic b s)
  (r:gJ n b {G t with ph:=.node,q:=ZC (G t).q y,rd:=En (G t).rd c y} g'):Mv T n A G t h e g':=by
 have Bg:=he;unfold Pb at Bg;rw[BJ] at Bg;cases Bg;have Nl:=ha;unfold KR at Nl;rw[BJ] at Nl;obtain⟨⟨b1,s1,ab,p0,v,rr,hg,_⟩,_⟩:=Nl;have hc:c<n:=by have:=hg.Mh.lt;omega
 have hi:AH n (G t)=[]:=by unfold AH;rw[BJ]
 have Lp:Dw (G t)=V:=by unfold Dw;rw[BJ]
 obtain⟨br,ac⟩:=w.ac t ht Lp;have hp:=ac.ph;unfold Nn at hp;rw[BJ] at hp;obtain⟨w0,e1,e2,e3⟩:=hp;obtain⟨v0,a1,a2,a3,a4⟩:=V1 hl w.mv h6 ht hi hc (hv.trans e1);have ey:y=v0:=AC;have hvy:rS h.E c (G t).rv y:=by rw[ey];exact a1.isV e2
 obtain⟨f,z,a,hs,h1,h2,h3⟩:=hg.stm;have Ake:∀d x',(G t).rd d=U x'->En (G t).rd c y d=U x':=λd x' hd=>by
  grind [En,hvy.eT,ac.rdo _ _ hd,WI]
 have Aw:Ot (En (G t).rd c y) (G t).q=U (ZC (G t).q y):=by
  have hcn:(f+DV (G t).q.L a).toNat=c:=Y
  grind [Ot,ZC,En,Z7]
 have hib:(G t).q.k.Db=V:=Vr hg.Ao.bo;refine Abk w h6 ht hcn rfl rfl rfl hi (Dj (by unfold CS;rw[BJ])) r hg.Bi h0 hg.Ao.nb ((MT Aw).trans hib) br (Nat.le_of_lt ac.pcn) ac.kp ((Ij.mono Ake ac.ch).trans (.cons Aw (.nil _))) (λd x' hd=>?_) (λd x' hd=>?_) ac.Uh AC λs0 h0=>(Mw Lp h0).2
 rotate_left;grind [En,mY];have dw:En (G t).rd c y d=U x':=hd;unfold En at dw;split at dw;grind
 .exact ac.rdo d x' dw
theorem Ahy {c:Nat} (BJ:(G t).ph=.VC c):Mv T n A G t h e {G t with ph:=.U1 c (vE A.sm (A.th t).sw e)}:=by
 have _:=hl;have _:=hxn;have _:=ha;have Bg:=he;unfold Pb at Bg;rw[BJ] at Bg;cases Bg;have hi:AH n (G t)=[]:=by unfold AH;rw[BJ]
 have Lp:Dw (G t)=V:=by unfold Dw;rw[BJ]
 refine Abl w h6 ht hcn rfl rfl ?_ ⟨hi,rfl⟩ rfl Lp rfl rfl rfl rfl rfl ?_ λs0 h0=>(have h1:=Mw Lp h0;h1)<;>grind [Kx,CS,Nn,Am]
theorem UW (Lp:Dw (G t)=V) (hm:mE A.sm e=A.sm) (r:EO n (G t) 0 g'):Mv T n A G t h e g':=by
 have _:=hxn;have k3:=(T6 ha).2.2.1;have hx:(tE A.sm (A.th t) e).sw=(A.th t).sw/\(tE A.sm (A.th t) e).out=(A.th t).out:=by
  unfold Dw at Lp;unfold Pb at he;cases hp:(G t).ph<;>rw[hp] at Lp he<;>first|(cases he;exact⟨rfl,rfl⟩)|cases Lp
 have x3:AH n (G t)=[]:=by
  unfold Dw at Lp;unfold AH;cases hp:(G t).ph<;>rw[hp] at Lp<;>first|rfl|cases Lp
 have x4:BR (G t)=(G t).Bi:=by
  grind [Kx,Dj,Dw]
 grind [AeF,Mw]
theorem Ahx {c:Nat} (BJ:(G t).ph=.U1 c lv) (Ri:(A.th t).sw=[]) (hv:vE A.sm (A.th t).sw e≠0) (r:M6 n {G t with Bi:=En (G t).Bi c lv} (c+1) g'):Mv T n A G t h e g':=by
 have Bg:=he;unfold Pb at Bg;rw[BJ] at Bg;cases Bg;obtain⟨hc,w0,Fu,Mi,Ld⟩:=(T6 ha).2.1 c lv BJ;rw[hxn] at hc;have Vc:(if A.sm (8+c)=lv then (1:Int) else 0)≠0:=hv;have Rk:A.sm (8+c)=lv:=by
  grind
 have hm:mE A.sm (.KL 3 (8+c) lv (lv+1))=Cv A.sm (8+c) (lv+1):=by show(if _ then _ else _)=_;rw[Jb Rk]
 have hi:AH n (G t)=[]:=by unfold AH;rw[BJ]
 have Lp:Dw (G t)=V:=by unfold Dw;rw[BJ]
 have hH:BR (G t)=(G t).Bi:=Kx (by unfold CS;rw[BJ]);have hg:Dw g'=V/\Du g'=I/\g'.q0=(G t).q0/\g'.q=(G t).q/\g'.rd=(G t).rd/\g'.Bi=En (G t).Bi c lv/\g'.rv=(G t).rv/\(∀A G E t,G t=g'->Nn T n A G E t)/\∀s0 E t out,Mr s0 E t g' out<->Dm g'.q0/\∃q o l,CO t s0 E q o l/\Fe q g'.q0/\out=o++g'.q0.o:=by
  cases r with
  |lk c' _ _ _ _=>exact⟨rfl,rfl,rfl,rfl,rfl,rfl,rfl,λA G E t hG=>by grind [Nn],λ_ _ _ _=>Iff.rfl⟩
  |xa _=>exact⟨rfl,rfl,rfl,rfl,rfl,rfl,rfl,λA G E t hG=>by grind [Nn],λ_ _ _ _=>Iff.rfl⟩
 obtain⟨i1,i2,_⟩:=r.Uk;obtain⟨a1,a2,a3,a4,a5,a6,a7,a8,a9⟩:=hg;have bp:(nA A t (.KL 3 (8+c) lv (lv+1))).sm 16=A.sm 16:=by show mE A.sm (.KL 3 (8+c) lv (lv+1)) 16=A.sm 16;rw[hm];grind [Bp]
 have hD:(tE A.sm (A.th t) (.KL 3 (8+c) lv (lv+1))).sw++AH n g'=I6 n A G t:=by rw[i2];unfold I6;rw[hi];rfl
 have c1:WC T n A (nA A t (.KL 3 (8+c) lv (lv+1))) G t g' h ⟨h.E,h.pc,h.σ,h.Gy+1⟩:=by
  refine⟨Y,λ_ _=>rfl,λw' h1 h2=>Y,JI _,λ_ _=>rfl,λu hu=>A6 _ _ hu,.inl rfl,λXY=>(by rw[a2] at XY;cases XY),λc x _ hx=> .inl ?_⟩<;>grind [UT]
 obtain⟨br,ac⟩:=w.ac t ht Lp;refine⟨_,w.of c1 ht h6 hcn ?_ AC (λe0 TR=>?_) AC (λ_=>?_),AC,AC,λs0 h0=>?_,λ_ h=>(OZ h).elim,AC,AC⟩
 .rw[dP,hD,N7,i1,Dp];show MV T n (mE A.sm (.KL 3 (8+c) lv (lv+1))) _ _ h.E;rw[hm];have:=MV.TD hl w.mv h6 ht hc Rk ⟨w0,Fu,Mi,Y⟩;rw[hH] at this;exact this
 grind [List.length_cons]
 .refine⟨by rw[a7,bp];exact br,?_,Qg ac.pcn,?_,?_,?_,ac.Uh,?_,?_,?_,a8 _ _ _ _ (Am _ _ _)⟩;grind [Am,mY];grind [Am,mY];grind [Am,mY];grind [Am,c1.ow,mY]
  .rw[Am,a6,a7];grind [En,WI,WC,mY]
  .intro _ _;rw[UT];exact Ri
  .rw[Am,a5];exact ac.rdn
 .refine(a9 s0 h.E t _).2 ?_;rw[a3];exact Mw Lp h0
end
section
variable {T n:Nat} {A:AM} {G:Nat->Gt} {t:Nat} {h:GH} {e:Ek} {g':Gt} (w:WI T n A G h) (h6:n<=6) (ht:t<T)
 (hcn:∀u,u<T->u≠t->(∀c lv,(G u).ph=.Fp c lv->c<n)/\∀c lv y,(G u).ph=.Fy c lv y->c<n)
 (hl:LK T n A.sm (A.sm 16) (λu=>BR (G u)) (I6 n A G))
 (hpm:∀u,u<T->Du (G u)=V->∀c,c<n->BR (G u) c=Z->(G u).q.A3 c=Z)
include w h6 ht hcn hl hpm
theorem sR {c0:Nat} {N' wv':Int} {σ':Int->Nat} (Rk:∀a,a≠16->mE A.sm e a=A.sm a) (hN:mE A.sm e 16=N') (An7:A.sm 16<=N') (Ri:(A.th t).sw=[]) (aV:(tE A.sm (A.th t) e).sw=[]) (Ve:(tE A.sm (A.th t) e).out=(A.th t).out)
  (Lp:Dw (G t)=V) (hi:AH n (G t)=[]) (hH:BR (G t)=(G t).Bi) (Gq:TH (G t) n n) (hσ:∀w,w<=A.sm 16->σ' w=h.σ w) (hσn:∀w,A.sm 16<w->w<=N'->h.Gy<=σ' w/\σ' w<h.Gy+1/\∀w',1<=w'->w'<w->σ' w'<σ' w)
  (Fu:1<=wv') (hwN:wv'<=N') (hrv:(G t).rv<wv') (Acv:A.sm 16<wv'\/(Du (G t)=V/\(G t).wv=wv')) (lB:KP σ' N' (wv'-1) (σ' wv')) (hτ:σ' wv'<h.Gy+1)
  (hun:(∀e,e∈h.E->e.w≠U wv')/\∀u,u<T->u≠t->Du (G u)=V->(G u).wv≠wv')
  (xj:∀d,d<c0->∀v,(G t).rd d=U v->(G t).Bi d=Z->rS h.E d (wv'-1) v/\∀u,u<T->u≠t->Du (G u)=V->(G u).wv<=wv'-1->(G u).q.A3 d=Z)
  (BZ:(G t).q.s=.nil/\∃b s k,(G t).q.k=.Ao b s k) (Pr:(G t).q0.k.Db=I) (r:Me n {G t with wv:=wv'} c0 g'):Mv T n A G t h e g':=by
 obtain⟨br,ac⟩:=w.ac t ht Lp;have hDt:I6 n A G t=[]:=by unfold I6;rw[hi,Ri];rfl
 have bp:(nA A t e).sm 16=N':=hN;have AlX:∀a,a≠16->(nA A t e).sm a=A.sm a:=Rk;cases r with
 |lo c' h1 h2 h3 h4=>
  have c:WC T n A (nA A t e) G t {G t with wv:=wv',ph:=.lo c'} h ⟨h.E,h.pc,σ',h.Gy+1⟩:=by
   refine⟨Y,hσ,λw' a1 a2=>(hσn w' a1 Y).1,JI _,λ_ _=>rfl,λu hu=>A6 _ _ hu,.inl rfl,λ_=>?_,λc x _ hx=> .inl ?_⟩
   .rcases Acv with h5|⟨h5,h6⟩
    .exact .inl h5
    .exact .inr ⟨h5,h6.symm,rfl⟩
   .rw[UT,aV] at hx;cases hx
  refine⟨_,w.of c ht h6 hcn ?_ (λw' a1 a2=>(hσn w' a1 Y).2) (λe0 TR=>?_) AC (λ_=>?_),AC,AC,λs0 h0=>?_,λ_ h=>(OZ h).elim,AC,AC⟩
  .rw[dP,aV,N7];show MV T n _ (A5 (λu=>BR (G u)) t (G t).Bi) (A5 (I6 n A G) t ([]++[])) h.E;rw[<-hH,Dp (λu=>BR (G u)) t,Jo,<-hDt,Dp];grind [w.mv.Of]
  .have:=JM List.length TR;rw[show(⟨h.E,h.pc,σ',h.Gy+1⟩:GH).E=h.E from rfl,Jg] at this;omega
  .refine⟨by rw[bp];grind,?_,Qg ac.pcn,?_,?_,?_,ac.Uh,?_,?_,?_,?_⟩;grind [Am,c.kp,mY];grind [Am,mY];grind [Am,mY];grind [Am,c.ow,mY]
   .rw[Am];exact ac.lv
   grind [UT]
   .rw[Am];exact ac.rdn
   .unfold Nn;rw[Am];grind [UT,A6]
  .rw[Ve];have h1:=Mw Lp h0;exact h1
 |stop _ Um k=>
  obtain⟨i1,i2,_⟩:=k.Uk;have hmn:∀d,d<n->((G t).Bi d).isSome=((G t).q.A3 d).isSome:=λd hd=>by rw[Gq d hd,J3 hd,Ql]
  have Akw:∀d v w1,d<n->((G t).q.A3 d).isSome=V->DW h.E d v w1->w1<=(G t).rv:=λd v w1 hd hs TT=>by
   rw[<-hmn d hd] at hs;obtain⟨l,hlv⟩:=JA.1 hs;obtain⟨v2,w2,b1,b2,_⟩:=w.mv.BR t d l ht hd (by show BR (G t) d=_;rw[hH];exact hlv)<;>grind [TT.eT,WI,mY]
  obtain⟨e0,xG⟩:∃e0:Ev,e0=⟨t,σ' wv',(G t).q0,(G t).q,(G t).rd,wv'-1,U wv'⟩:=AC;have hew:∀d w',e0.wr d w'->w'=wv':=λd w' KT=>by have:=KT.1;rw[xG] at this;grind
  have c:WC T n A (nA A t e) G t g' h ⟨e0::h.E,h.pc,σ',h.Gy+1⟩:=by
   refine⟨Y,hσ,λw' a1 a2=>(hσn w' a1 Y).1,AC,AC,λu hu=>A6 _ _ hu,.inr ⟨e0,rfl,by rw[xG],λw' KT=>?_⟩,λhp=>(by rw[k.Du] at hp;cases hp),λc x hc hx=>?_⟩
   .have:wv'=w':=by rw[xG] at KT;injection KT
    subst this;refine⟨?_,λd v w1 hd hs TT=>?_⟩
    .rcases Acv with h5|⟨h5,h6⟩
     .exact .inl h5
     .exact .inr ⟨h5,h6,by rw[xG]⟩
    .rw[xG] at hs;have:=Akw d v w1 hd hs TT;omega
   .rw[UT,aV,JF,i2] at hx;refine .inr ⟨e0,rfl,wv',by rw[xG],?_⟩;rw[xG];rcases Jp.1 hx with hx|hx;grind [CY,EM,Option.map_eq_some_iff]
    .obtain⟨d,_,_,h3⟩:=CY.1 hx;have:c=8+d:=V2 _ d _ h3;omega
  refine⟨_,w.of c ht h6 hcn ?_ (λw' a1 a2=>(hσn w' a1 Y).2) (λe1 Fx=>?_) (λhp=>(by rw[k.Du] at hp;cases hp)) (λhx=>(by rw[k.Dw] at hx;cases hx)),.inr ⟨e0,rfl,by rw[xG]⟩,JC _,λs0 h0=>?_,λe1 Fx=>?_,λhx=>(by rw[k.Dw] at hx;cases hx),λ_ _=>rfl⟩
  rotate_right
  .have e2:e0=e1:=List.head_eq_of_cons_eq Fx;rw[<-e2,xG];refine⟨k.Dw,.inr ⟨Lp,?_,rfl⟩⟩;show h.pc t<=σ' wv';by_cases hwn:wv'<=A.sm 16
   .rw[hσ wv' hwn];have:=ac.kp wv' Fu hwn;omega
   .have:=(hσn wv' Y hwN).1;have:=ac.pcn;omega
  .rw[dP,aV,N7,i1,i2,JF];have:=MV.decide hl w.mv h6 ht (g:={G t with wv:=wv'}) hH Gq hDt (e0:=e0) (by rw[xG]) (by rw[xG]) λd v w1 hd hs TT=>?_
   .rw[hDt,JF] at this;exact this.Of AlX h6
   .have V9:((G t).Bi d).isSome=V:=hs;rw[hmn d hd] at V9;have:=Akw d v w1 hd V9 TT;show w1<=wv';omega
  .have:e0=e1:=AC
   subst this;rw[xG];refine⟨hτ,by rw[bp];grind,by rw[bp];exact lB,λd v hv=>?_,λw' KT=>?_⟩
   .have hdn:=ac.rdn d v hv;have hold:rS h.E d (wv'-1) v/\∀u,u<T->u≠t->Du (G u)=V->(G u).wv<=wv'-1->(G u).q.A3 d=Z:=by
     cases hld:(G t).Bi d with
     |none=>
      grind
     |some l=>
      obtain⟨v2,w2,b1,b2,_⟩:=w.mv.BR t d l ht hdn (by show BR (G t) d=_;rw[hH];exact hld);obtain⟨w3,b3,b4⟩:=ac.lv d l hld;have h7:=(ac.rdo d v hv).1.eT w.Po (b1.isV (k:=(G t).rv) Y);refine⟨by rw[h7];grind [b1.isV],λu hu hne hp _=>hpm u hu hp d hdn ?_⟩;cases hhu:BR (G u) d with
      |none=>rfl
      |some l2=>exact Jk (hl.Po u t d hu ht hdn AC (.inl (by show(BR (G t) d).isSome=V;rw[hH,hld];rfl))) hne
    refine⟨hold.1.cons λw' KT=>?_,λu hu hp hle=>?_⟩
    .have:=KT.1;cases this;show wv'-1<wv';omega
    .by_cases tn:u=t
     .subst tn;rw[Am,k.Du] at hp;cases hp
     .rw[A6 _ _ tn] at hp hle⊢;exact hold.2 u hu tn hp hle
   .cases KT;exact⟨⟨rfl,rfl,Fu,by rw[bp];exact hwN⟩,hun.1⟩
  .rw[Ve];obtain⟨hb,q,o,l,h1,h2,h3⟩:=Mw Lp h0;have hh:CO t s0 (e0::h.E) (BS (G t).q0 (G t).q) (o++(G t).q0.o++(G t).q.o) (o++(G t).q0.o).length:=by
    rw[xG];exact CO.D1 (o:=o) rfl h1 h2 hb ac.ch BZ.1 BZ.2 AC
   rw[h3];exact iU (g:={G t with wv:=wv'}) hh k hb Pr
end
theorem WI.same {h:GH} (w:WI T n A G h) (hs:A'.sm=A.sm) (hw:∀u,(A'.th u).sw=(A.th u).sw):WI T n A' G h:=by
 have hD:I6 n A' G=I6 n A G:=by funext u;unfold I6;rw[hw u]
 refine⟨by rw[hs,hD];exact w.mv,by rw[hs];exact w.s1,by rw[hs];exact w.s2,w.Po,by rw[hs];exact w.ev,by rw[hs];exact w.pn,λt ht ha=>?_⟩;obtain⟨a1,a2,a3,a4,a5,a6,a7,a8,a9,a10,a11⟩:=w.ac t ht ha;refine⟨by rw[hs];exact a1,by rw[hs];exact a2,a3,a4,a5,a6,a7,a8,by rw[hw t];exact a9,a10,?_⟩;unfold Nn at a11⊢;rw[hD];cases hp:(G t).ph<;>rw[hp] at a11<;>first|exact a11|trivial|skip
 grind
theorem WI.C7 {h:GH} (w:WI T n A G h) (hl:LK T n A.sm (A.sm 16) (λu=>BR (G u)) (I6 n A G)) (h6:n<=6) {t a:Nat} (ht:t<T) {u:Int} {r:List (Nat×Int)} (hd:(A.th t).sw=(a,u)::r):WI T n ⟨Cv A.sm a u,A5 A.th t {A.th t with sw:=r}⟩ G h:=by
 have hDt:I6 n A G t=(a,u)::(r++AH n (G t)):=by grind [I6]
 have ha:a≠16:=by
  rcases hl.todo t a u ht (by rw[hDt];grind) with h1|⟨c,h1,h2,_⟩<;>omega
 have bp:Cv A.sm a u 16=A.sm 16:=Bp _ _ AC;have hD:I6 n ⟨Cv A.sm a u,A5 A.th t {A.th t with sw:=r}⟩ G=A5 (I6 n A G) t (r++AH n (G t)):=by
  funext v;grind [I6,A5]
 have fX:∀v p,p∈I6 n ⟨Cv A.sm a u,A5 A.th t {A.th t with sw:=r}⟩ G v->p∈I6 n A G v:=λv p hp=>by
  rw[hD] at hp;grind [A5]
 refine⟨by rw[hD];grind [MV.C7,WI],by grind [WI],by grind [WI],w.Po,by grind [WI],by grind [WI],λv hv ZB=>?_⟩;obtain⟨a1,a2,a3,a4,a5,a6,a7,a8,a9,a10,a11⟩:=w.ac v hv ZB;refine⟨AC,AC,a3,a4,a5,a6,a7,a8,λc hc=>?_,a10,?_⟩;grind [A6]
 .unfold Nn at a11⊢;cases hp:(G v).ph<;>rw[hp] at a11<;>first
   |exact a11
   | (obtain⟨w0,e1,e2,e3⟩:=a11
      exact⟨w0,e1,e2,AC⟩)
   |grind [A6]
theorem sa {a:AT} (h:a.sw=(A.th t).sw) (u:Nat):(A5 A.th t a u).sw=(A.th u).sw:=by
 grind [Am,A6]
structure WA (X:Nat->Cx) (T n M:Nat) (s0:Nat->KS) (K:Int) (A:AM) (G:Nat->Gt) (h:GH):Prop where
 l1:L1 X T n M K A G
 wi:WI T n A G h
 th:∀t,t<T->Mr (s0 t) h.E t (G t) (A.th t).out
 sp:∀t,t<T->(A.th t).st≠0->((A.th t).st=10/\Ix (G t).q)\/Bz (G t).q=U (A.th t).st
theorem WA.step {s0:Nat->KS} {h:GH} (wa:WA X T n M s0 K A G h) (h6:n<=6) (hX:∀t,t<T->Nr (X t)/\(X t).n=n) (hK:K<1000000000000000000) {t:Nat} (ht:t<T) {fl:Bool} (hs:AS X A t fl A'):
  ∃g' h',Xm (X t) n A (G t) t fl A' g'/\WA X T n M s0 (K+1) A' (A5 G t g') h'/\(h'.E=h.E\/∃e0,h'.E=e0::h.E/\e0.t=t)/\h.Gy<=h'.Gy/\Dec G t h h' g'/\(fl=V->g'=G t/\h'=h):=by
 obtain⟨g',hg,KX,_⟩:=wa.l1.step h6 hX hK ht hs;have hl:LK T n A.sm (A.sm 16) (λu=>BR (G u)) (I6 n A G):=wa.l1.lk;have FE:∀u,u<T->(G u).ph≠ .node->∃lt,KR (X u) (G u) lt:=λu hu hne=>by
  have h0:(A.th u).st=0:=Classical.byContradiction λhx=>hne (wa.l1.D1 u hu hx)
  obtain⟨_,lt,_,ha,_⟩:=wa.l1.th u hu h0;exact⟨lt,ha⟩
 have hcn:∀u,u<T->u≠t->(∀c lv,(G u).ph=.Fp c lv->c<n)/\∀c lv y,(G u).ph=.Fy c lv y->c<n:=λu hu _=>by
  refine⟨λc lv hp=>?_,λc lv y hp=>?_⟩
  .exact nak
  .exact nak
 have hpm:∀u,u<T->Du (G u)=V->∀c,c<n->BR (G u) c=Z->(G u).q.A3 c=Z:=λu hu hp c hc hh=>by
  obtain⟨lt,ha⟩:=FE u hu (λe=>by unfold Du at hp;rw[e] at hp;cases hp);exact vz (T:=T) (hX u hu).2 ha hp hc hh
 have BZ:∀{A':AM} {g':Gt} {h':GH},(h'.E=h.E\/∃e0,h'.E=e0::h.E/\e0.t=t)->(∀u,u≠t->A'.th u=A.th u)->Mr (s0 t) h'.E t g' (A'.th t).out->∀u,u<T->Mr (s0 u) h'.E u (A5 G t g' u) (A'.th u).out:=λ{A' g' h'} hE ho Ex u hu=>by
  by_cases he:u=t
  .subst he;rw[Am];exact Ex
  .rw[A6 _ _ he,ho u he];exact(wa.th u hu).LS (hE.imp id λ⟨e0,e1,e2⟩=>⟨e0,e1,λe3=>he (e3.symm.trans e2)⟩)
 have Wb:=Sv hs;have py:∀{A':AM} {g':Gt},(∀u,u≠t->A'.th u=A.th u)->((A'.th t).st≠0->((A'.th t).st=10/\Ix g'.q)\/Bz g'.q=U (A'.th t).st)->∀u,u<T->(A'.th u).st≠0->((A'.th u).st=10/\Ix (A5 G t g' u).q)\/Bz (A5 G t g' u).q=U (A'.th u).st:=λ{A' g'} ho Ex u hu h0=>by
  by_cases he:u=t
  .subst he;rw[Am];exact Ex h0
  .rw[A6 _ _ he,ho u he];rw[ho u he] at h0;exact wa.sp u hu h0
 have Aif:Dec G t h h (G t):=⟨λ_ h=>(OZ h).elim,λha=> .inr ⟨ha,rfl,rfl⟩,λ_ _=>rfl⟩;cases hg with
 |C7 hd=>
  refine⟨_,h,.C7 hd,⟨KX,?_,BZ (.inl rfl) Wb ?_,py Wb (by show(A5 A.th t _ t).st≠0->((A5 A.th t _ t).st=10/\Ix (G t).q)\/Bz (G t).q=U (A5 A.th t _ t).st;rw[Am];exact wa.sp t ht)⟩,.inl rfl,Jf _,Aif,λ_=>⟨rfl,rfl⟩⟩
  .rw[Dp];exact wa.wi.C7 hl h6 ht hd
  .exact nan
 |Pl hm=>
  refine⟨_,h,.Pl hm,⟨KX,?_,BZ (.inl rfl) Wb ?_,py Wb (by show(A5 A.th t _ t).st≠0->((A5 A.th t _ t).st=10/\Ix (G t).q)\/Bz (G t).q=U (A5 A.th t _ t).st;rw[Am];exact wa.sp t ht)⟩,.inl rfl,Jf _,Aif,λh=>by cases h⟩
  .rw[Dp];exact wa.wi.same rfl (sa rfl)
  .exact nan
 |@stop s TR Aw=>
  have hsx:(s=10/\Ix (G t).q)\/Bz (G t).q=U s:=by
   obtain⟨BJ,_,h1⟩:=XP TR;rcases h1 with⟨h1,h2⟩|h1
   .refine .inl ⟨h1,h2,?_⟩;obtain⟨_,lt,_,ha,_⟩:=wa.l1.th t ht Aw;unfold KR at ha;rw[BJ] at ha;obtain⟨⟨ab,B,rd,Bi,hS⟩,hi,_⟩:=ha;have hnk:Bz (G t).q=Z:=by unfold Bz;rw[h2]
    cases hS with
    |halt _ hk _=>exact hk
    |D1 _ hk _ _=>exact Jk hnk (hi (by rw[hk];rfl)).1
    |out _ h3 _ _ _ _=>rw[h2] at h3;cases h3
    |CR h3 _ _=>rw[hnk] at h3;cases h3
    |Of h3 _ _ _ _ _=>rw[h2] at h3;cases h3
    |get h3 _ _ _ _ _ _ _ _=>rw[h2] at h3;cases h3
   .exact .inr h1
  refine⟨_,h,.stop TR Aw,⟨KX,?_,BZ (.inl rfl) Wb ?_,py Wb (by show(A5 A.th t _ t).st≠0->((A5 A.th t _ t).st=10/\Ix (G t).q)\/Bz (G t).q=U (A5 A.th t _ t).st;rw[Am];exact λ_=>hsx)⟩,.inl rfl,Jf _,Aif,λh=>by cases h⟩
  .rw[Dp];exact wa.wi.same rfl (sa rfl)
  .exact nan
 |@ev e bad _ TR Aw yO hd hn j lt' hr ha hp=>
  obtain⟨_,lt,_,Lo,_⟩:=wa.l1.th t ht Aw;have hxn:=(hX t ht).2;have az:=wa.l1.c0.1;have aw:Mv T n A G t h e g':=by
   have lC:=TR;unfold Pb at lC;cases hn with
   |out BJ q' k=>exact Ahw wa.wi h6 ht hcn hxn Lo TR BJ yO k
   |Of BJ h0 _ r=>exact Ahz wa.wi h6 ht hcn hl hxn Lo TR BJ h0 r
   |Kg BJ hv=>exact AeE wa.wi h6 ht hcn hl hxn Lo TR BJ hv
   |dB BJ _ _ r=>rw[BJ] at lC;cases lC;exact UW wa.wi h6 ht hcn hl hxn Lo TR (by unfold Dw;rw[BJ]) rfl r
   |Fp BJ=>exact AeD wa.wi h6 ht hcn hl hxn Lo TR BJ
   |Fy BJ hv h0 _ r=>exact AeC wa.wi h6 ht hcn hl hxn Lo TR hpm BJ hv h0 r
   |dA BJ hv _ r=>rw[BJ] at lC;cases lC;exact UW wa.wi h6 ht hcn hl hxn Lo TR (by unfold Dw;rw[BJ]) rfl r
   |VC BJ hv=>exact Ahy wa.wi h6 ht hcn hl hxn Lo TR BJ
   |wQ BJ _ _ r=>rw[BJ] at lC;cases lC;exact UW wa.wi h6 ht hcn hl hxn Lo TR (by unfold Dw;rw[BJ]) rfl r
   |U1 BJ hv _ r=>exact Ahx wa.wi h6 ht hcn hl hxn Lo TR BJ (by rw[BJ] at lC;cases lC;exact hd rfl) hv r
   |wP BJ hv _ r=>
    rename_i c lv;rw[BJ] at lC;cases lC;have Vc:(if A.sm (8+c)=lv then (1:Int) else 0)=0:=hv;have Rk:¬A.sm (8+c)=lv:=λhx=>by rw[Jb hx] at Vc;cases Vc
    exact UW wa.wi h6 ht hcn hl hxn Lo TR (by unfold Dw;rw[BJ]) (by show(if _ then _ else _)=_;rw[In Rk]) r
   |xa BJ _ r=>
    rw[BJ] at lC;cases lC;have Lp:Dw (G t)=V:=by unfold Dw;rw[BJ]
    have hrw:=wa.l1.rv t ht;have Gq:=(T6 Lo).1 (.inl BJ);rw[hxn] at Gq;have lI:=Lo;unfold KR at lI;rw[BJ] at lI;obtain⟨_,b,s,ab,p,Xw,_⟩:=lI;refine sR wa.wi h6 ht hcn hl hpm (N':=A.sm 16+1) (wv':=A.sm 16+1) (σ':=λw=>if w=A.sm 16+1 then h.Gy else h.σ w) (λa ha=>Bp _ _ ha) (BK _ _ _) Y (hd rfl) (hd rfl) rfl Lp (by unfold AH;rw[BJ]) (Kx (by unfold CS;rw[BJ])) Gq (λw hw=>In Y) (λw h1 h2=>?_) Y (QE _) Y (.inl Y) (λw h1 h2=>?_) ?_ ⟨λe1 Fx hx=>?_,λu hu _ Fa hx=>?_⟩ (λd hd=>Jk hd (Q3 d)) ⟨Xw.s0,_,_,_,Xw.k0⟩ Xw.Ao.nb r
    .obtain rfl:w=A.sm 16+1:=Y
     rw[Jb rfl];refine⟨Jf _,JC _,λw' h3 h4=>?_⟩;rw[In Y];exact wa.wi.s1 w' h3 Y
    .rw[Jb rfl];show w<=A.sm 16+1-1<->(if w=A.sm 16+1 then h.Gy else h.σ w)<h.Gy;by_cases hw:w=A.sm 16+1
     .rw[Jb hw];exact⟨λh3=>Y,λh3=>Jk h3 (RK _)⟩
     .rw[In hw];exact⟨λ_=>wa.wi.s1 w h1 Y,λ_=>Y⟩
    .rw[Jb rfl];exact JC _
    .have:=((wa.wi.ev e1 Fx).2.2.2.2 _ hx).2.2.2;omega
    .have:=(wa.wi.pn u hu Fa).2.1;omega
   |lo BJ hv _ r=>
    rename_i c;rw[BJ] at lC;cases lC;have Lp:Dw (G t)=V:=by unfold Dw;rw[BJ]
    have hpd:Du (G t)=V:=by unfold Du;rw[BJ]
    obtain⟨p1,p2,p3,p4⟩:=wa.wi.pn t ht hpd;obtain⟨br,ac⟩:=wa.wi.ac t ht Lp;have hpk:=ac.ph;unfold Nn at hpk;rw[BJ] at hpk;obtain⟨q1,q2,q3⟩:=hpk;have hi:AH n (G t)=[]:=by unfold AH;rw[BJ]
    have Gq:=(T6 Lo).1 (.inr ⟨c,BJ⟩);rw[hxn] at Gq;have lI:=Lo;unfold KR at lI;rw[BJ] at lI;obtain⟨Aih,hrc,hlc,_,b,s,ab,p,Xw,_⟩:=lI;rw[hxn] at Aih;obtain⟨w0,e1,e2,e3⟩:=hv;obtain⟨v0,a1,a2,a3,a4⟩:=V1 hl wa.wi.mv h6 ht hi Aih e1;refine sR wa.wi h6 ht hcn hl hpm (N':=A.sm 16) (wv':=(G t).wv) (σ':=h.σ) (λa ha=>rfl) rfl (QE _) q1 q1 rfl Lp hi (Kx (by unfold CS;rw[BJ])) Gq (λw hw=>rfl) (λw h1 h2=>Y) p1 p2 q2 (.inr ⟨hpd,rfl⟩) (λw h1 h2=>⟨λh3=>wa.wi.s2 w _ h1 Y p2,λh3=>?_⟩) (Qg (wa.wi.s1 _ p1 p2)) ⟨p3,p4⟩ (λd hdc v Vc hld=>?_) ⟨Xw.s0,_,_,_,Xw.k0⟩ Xw.Ao.nb r
    .refine Classical.byContradiction λhx=>?_
     rcases Int.lt_or_eq_of_le (show(G t).wv<=w by omega) with h4|h4
     .have:=wa.wi.s2 _ w p1 h4 h2;omega
     .rw[h4] at h3;exact RK _ h3
    .by_cases bh:d<c
     .exact q3 d bh v Vc hld
     .obtain rfl:d=c:=Y
      have h7:=(ac.rdo d v Vc).1.eT wa.wi.Po (a1.isV e3);exact⟨by rw[h7];exact a1.isV Y,λu hu _ Fa _=>hpm u hu Fa d Aih (a2 u hu)⟩
   |lob BJ _ _ r=>rw[BJ] at lC;cases lC;exact UW wa.wi h6 ht hcn hl hxn Lo TR (by unfold Dw;rw[BJ]) rfl r
   |pu BJ _ r=>exact Ajx wa.wi h6 ht hcn hxn Lo TR BJ r
   |fr BJ _ r=>exact Ajy wa.wi h6 ht hcn hxn Lo TR BJ r
   |te BJ _ r=>exact Ajw wa.wi h6 ht hcn hxn Lo TR BJ r
   |ba BJ _ r=>exact Ajz wa.wi h6 ht hcn hxn Lo TR BJ r
  obtain⟨h',m1,m2,m3,m4,m5⟩:=aw;refine⟨g',h',.ev TR Aw yO hd hn hr ha hp,⟨KX,m1,BZ m2 Wb ?_,py Wb (by show(A5 A.th t _ t).st≠0->((A5 A.th t _ t).st=10/\Ix g'.q)\/Bz g'.q=U (A5 A.th t _ t).st;rw[Am];intro h0;exact Jk (show(tE A.sm (A.th t) e).st=0 by cases e<;>first|exact Aw|exact Jk rfl (yO _)) h0)⟩,m2,Nat.le_of_lt m3,m5,λh=>by cases h⟩;show Mr (s0 t) h'.E t g' (A5 A.th t _ t).out;rw[Am];exact m4 _ (wa.th t ht)
def FT (E:List Ev) (τ:Nat):List Ev:=E.filter λe=>decide (e.τ<τ)
structure yW where
 τ:Nat
 out:Nat->List Int
 st:Nat->Int
def Wx (s0:KS) (E:List Ev) (t τ:Nat) (out:List Int) (st:Int):Prop:=
 (∃q o l q',CO t s0 (FT E τ) q o l/\Fe q q'/\(Ix q'\/Dm q'\/∃r,Bz q'=U r)/\l<=J out/\(∃z,o++q'.o=out++z)/\(st≠0->out=o++q'.o/\((st=10/\Ix q')\/Bz q'=U st)))\/
  ∃r,G9 t s0 (FT E τ) out r/\(st≠0->st=r)
structure mN (s0:KS) (E:List Ev) (pc:Nat->Nat) (t:Nat) (g:Gt) (m:yW):Prop where
 ok:Wx s0 E t m.τ (m.out t) (m.st t)
 Dw:Dw g=V->pc t<m.τ->∃q o l,CO t s0 (FT E m.τ) q o l/\Fe q g.q0/\m.out t=o++g.q0.o/\m.st t=0
theorem Hy (e:Ev) (E:List Ev) (τ:Nat):FT (e::E) τ=if e.τ<τ then e::FT E τ else FT E τ:=by
 unfold FT;rw[List.filter_cons];by_cases h:e.τ<τ<;>simp[h]
theorem AiV (h:∀e,e∈E->e.τ<τ):FT E τ=E:=by
 grind [FT,List.filter_eq_self]
theorem AiT (hE:E'=E\/∃e0,E'=e0::E/\e0.t=u) (hu:t≠u):FT E' τ=FT E τ\/∃e0,FT E' τ=e0::FT E τ/\e0.t≠t:=by
 grind [Hy]
theorem Wx.LS (h:Wx s0 E t τ out st) (hE:FT E' τ=FT E τ\/∃e0,FT E' τ=e0::FT E τ/\e0.t≠t):Wx s0 E' t τ out st:=by
 rcases h with⟨q,o,l,q',h1,h2⟩|⟨r,h1,h2⟩
 .exact .inl ⟨q,o,l,q',h1.LS hE,h2⟩
 .exact .inr ⟨r,h1.LS hE,h2⟩
theorem zP (h:Mr s0 (e::E) e.t g out):Dm e.q/\Ij e.rd (Cw e.q) e.q2/\((e.q2.s=.nil/\(∃b s k,e.q2.k=.Ao b s k)/\(e.w=Z->∀c,e.q2.A3 c=Z))\/∃r,Bz e.q2=U r/\e.w=Z):=by
 have hf:∀{q:KS} {o:List Int} {l:Nat},CO e.t s0 (e::E) q o l->Dm e.q/\Ij e.rd (Cw e.q) e.q2/\((e.q2.s=.nil/\(∃b s k,e.q2.k=.Ao b s k)/\(e.w=Z->∀c,e.q2.A3 c=Z))\/∃r,Bz e.q2=U r/\e.w=Z):=λh=>by
  cases h<;>grind
 have hg:∀{o:List Int} {r:Int},G9 e.t s0 (e::E) o r->Dm e.q/\Ij e.rd (Cw e.q) e.q2/\((e.q2.s=.nil/\(∃b s k,e.q2.k=.Ao b s k)/\(e.w=Z->∀c,e.q2.A3 c=Z))\/∃r,Bz e.q2=U r/\e.w=Z):=λh=>by
  cases h<;>grind
 unfold Mr at h;cases hp:g.ph<;>rw[hp] at h<;>dsimp only at h<;>first
  |(obtain⟨_,q,o,l,h1,_⟩|⟨_,r,h1,_⟩:=h<;>first|exact hf h1|exact hg h1;done)
  |(obtain⟨o,h1,_⟩:=h;exact hf h1)
  |(obtain⟨_,q,o,l,h1,_⟩:=h;exact hf h1)
theorem AhF (h:Ij rd q r) (hw:Om cells q.R (.rest q.s q.k)):Om cells r.R (.rest r.s r.k):=by
 induction h with
 |nil q=>exact hw
 |cons h _ ih=>grind [fO hw h]
theorem AkU (e:q.s=.atomic b s) (h:Ij rd (Cw q) q2) (hk:∃b s k,q2.k=.Ao b s k):q2.k=.Ao b s q.k:=by
 obtain⟨b',s',k',e'⟩:=hk;have h1:(Cw q).k.Ok=U (b,s,q.k):=by rw[Gg e];rfl
 have h2:=(h.Ao h1).1;rw[e'] at h2;cases h2;exact e'
theorem yt (hb:Dm q) (hi:q.k.Db=I) (hw:Om cells q.R (.rest q.s q.k)) (h:Ij rd (Cw q) q2) (hk:∃b s k,q2.k=.Ao b s k):∃q',Fe (BS q q2) q'/\(Ix q'\/Dm q'\/∃r,Bz q'=U r):=by
 obtain⟨w1,_,_⟩:=Yu hb hi hw;obtain⟨b,s,e⟩:=hb;obtain⟨w4,w5,_⟩:=Z3 e (AkU e h hk) (AhF h w1) hi;exact NY _ (Jf _) w4 w5
theorem Fe.Ajk (h:Fe q r) (hi:q.k.Db=I):∃z,r.o=q.o++z:=by
 induction h with
 |nil q=>exact⟨[],by rw[Jo]⟩
 |cons hs _ ih=>
  grind [MT,Agg]
 |@out q u a tt hs _ _ ih=>
  have e1:(IY q).k=q.k:=by unfold IY;rw[hs]
  have e2:(IY q).o=q.o++[DV q.L a]:=by unfold IY;rw[hs]
  grind
section
variable {X:Nat->Cx} {T n M:Nat} {s0:Nat->KS} {K:Int} {A:AM} {G:Nat->Gt} {h:GH} (wa:WA X T n M s0 K A G h) {t:Nat} (ht:t<T)
include wa ht
theorem WA.at (h0:(A.th t).st=0):∃lt,KR (X t) (G t) lt:=by
 obtain⟨_,lt,_,ha,_⟩:=wa.l1.th t ht h0<;>grind
theorem WA.run (hne:(G t).ph≠ .node):(A.th t).st=0:=Classical.byContradiction λhx=>hne (wa.l1.D1 t ht hx)
theorem AeK:mN (s0 t) h.E h.pc t (G t) ⟨h.Gy,λt=>(A.th t).out,λt=>(A.th t).st⟩:=by
 have hF:FT h.E h.Gy=h.E:=AiV λe he=>(wa.wi.ev e he).1
 have Ex:=wa.th t ht;have AkF:Dm (G t).q0/\(∃q o l,CO t (s0 t) h.E q o l/\Fe q (G t).q0/\(A.th t).out=o++(G t).q0.o)->(A.th t).st=0->mN (s0 t) h.E h.pc t (G t) ⟨h.Gy,λt=>(A.th t).out,λt=>(A.th t).st⟩:=λ⟨hb,q,o,l,h1,h2,h3⟩ h0=>by
  refine⟨.inl ⟨q,o,l,(G t).q0,by show CO t _ (FT h.E h.Gy) _ _ _;rw[hF];exact h1,h2,.inr (.inl hb),?_,⟨[],by rw[Jo];exact h3.symm⟩,λhx=>Jk h0 hx⟩,λ_ _=>⟨q,o,l,by show CO t _ (FT h.E h.Gy) _ _ _;rw[hF];exact h1,h2,h3,h0⟩⟩<;>grind [h1.le]
 have Ab9:(∃o i,CO t (s0 t) h.E (BS (G t).q0 (G t).q) (o++(G t).q.o) (J o)/\(A.th t).out=o++(G t).q.o.take i)->(G t).ph≠ .node->(∃lt b s ab p,Ik (X t) (G t) lt b s ab p)->Dw (G t)=I->mN (s0 t) h.E h.pc t (G t) ⟨h.Gy,λt=>(A.th t).out,λt=>(A.th t).st⟩:=λ⟨o,i,h1,h2⟩ hne ⟨m,b,s,ab,p,hc⟩ hna=>by
  obtain⟨w4,w5,_⟩:=Z3 hc.Ao.ni hc.k0 hc.mt.wf hc.Ao.nb;obtain⟨q',hk,he⟩:=NY _ (Jf _) w4 w5;refine⟨.inl ⟨_,_,_,q',by show CO t _ (FT h.E h.Gy) _ _ _;rw[hF];exact h1,hk,he,?_,⟨(G t).q.o.drop i++q'.o,?_⟩,λhx=>Jk (wa.run ht hne) hx⟩,λhx=>(by rw[hna] at hx;cases hx)⟩<;>grind [List.take_append_drop]
 have AnB:=Ex;unfold Mr at Ex;cases hp:(G t).ph with
 |node=>
  rw[hp] at Ex;have hna:Dw (G t)=I:=by unfold Dw;rw[hp]
  rcases Ex with⟨hi,q,o,l,h1,h2,h3⟩|⟨hi,r,h1,h2⟩
  .have Xu:∃q',Fe (G t).q q'/\(Ix q'\/Dm q'\/∃r,Bz q'=U r)/\((A.th t).st≠0->q'=(G t).q):=by
    by_cases h0:(A.th t).st=0
    .obtain⟨lt,ha⟩:=wa.at ht h0;unfold KR at ha;rw[hp] at ha;obtain⟨⟨ab,B,rd,Bi,hS⟩,_,_⟩:=ha;cases hS with
     |halt a1 a2 _=>exact⟨_,.nil _,.inl ⟨a1,a2⟩,AC⟩
     |D1 _ hk _ _=>rw[hk] at hi;cases hi
     |out a1 a2 a3 a4 a5 a6=>
      obtain⟨q',b1,b2⟩:=NY _ (Jf _) a6.wf hi<;>grind
     |CR a1 _ _=>exact⟨_,.nil _,AC,AC⟩
     |Of a1 _ _ _ _ _=>grind
     |get _ a2 _ _ _ _ _ _ _=>rw[hi] at a2;cases a2
    .rcases wa.sp t ht h0 with⟨_,h5⟩|h5
     .exact⟨_,.nil _,.inl h5,AC⟩
     .exact⟨_,.nil _,AC,AC⟩
   obtain⟨q',b1,b2,b3⟩:=Xu;have Xp:∃z,q'.o=(G t).q.o++z:=by
    exact b1.Ajk hi
   obtain⟨z,hz⟩:=Xp;refine⟨.inl ⟨q,o,l,q',by show CO t _ (FT h.E h.Gy) _ _ _;rw[hF];exact h1,h2.trans b1,b2,?_,⟨z,?_⟩,λhx=>?_⟩,λhx=>(by rw[hna] at hx;cases hx)⟩<;>grind [h1.le,wa.sp]
  .refine⟨.inr ⟨r,AC,λhx=>?_⟩,AC⟩;rcases wa.sp t ht hx with⟨_,h5⟩|h5
   .rw[h5.2] at hi;cases hi
   grind
 |pu c=>
  exact nae
 |fr c=>
  exact nae
 |te i=>
  rw[hp] at Ex;obtain⟨o,h1,h2⟩:=Ex;obtain⟨lt,ha⟩:=wa.at ht (wa.run ht (by rw[hp];grind));unfold KR at ha;rw[hp] at ha;obtain⟨b,s,ab,p,hc,_⟩:=ha;exact Ab9 ⟨o,i,h1,h2⟩ (by rw[hp];grind) ⟨_,b,s,ab,p,hc⟩ (by unfold Dw;rw[hp])
 |_=>rw[hp] at Ex;exact AkF Ex (wa.run ht (by rw[hp];exact λe=>by cases e))
end
section
theorem AfV (Lp:Dw g=V) (ha:KR x g lt):∃b s,WD x g b s:=by
 unfold Dw at Lp;unfold KR at ha;cases hp:g.ph<;>rw[hp] at Lp ha<;>first|cases Lp|skip
 all_goals dsimp only at ha
 .obtain⟨b,s,_,_,_,_,hg,_⟩:=ha;grind [Z7]
 .obtain⟨⟨b,s,_,_,_,_,hg,_⟩,_⟩:=ha;grind [Z7]
 .obtain⟨⟨b,s,_,_,_,_,hg,_⟩,_⟩:=ha;grind [Z7]
 .obtain⟨_,_,_,b,s,_,_,hg,_⟩:=ha;grind [Ik]
 .obtain⟨_,_,_,_,b,s,_,_,hg,_⟩:=ha;grind [Ik]
 .obtain⟨_,b,s,_,_,hg,_⟩:=ha;grind [Ik]
 .obtain⟨_,_,_,_,b,s,_,_,hg,_⟩:=ha;grind [Ik]
section
variable {X:Nat->Cx} {T n M:Nat} {s0:Nat->KS} {K K':Int} {A A':AM} {G:Nat->Gt} {h h':GH} {t:Nat} {g':Gt}
theorem Abw (wa:WA X T n M s0 K A G h) (wb:WA X T n M s0 K' A' (A5 G t g') h') (ht:t<T) (hE:h'.E=h.E\/∃e0,h'.E=e0::h.E/\e0.t=t) (hd:Dec G t h h' g') {m:yW} (hm:m.τ<=h.Gy) {u:Nat} (hu:u<T) (mo:mN (s0 u) h.E h.pc u (G u) m):mN (s0 u) h'.E h'.pc u (A5 G t g' u) m:=by
 by_cases tn:u=t
 .subst tn;rw[Am];have AkF:Dw g'=V->h'.pc u<m.τ->Dw (G u)=V/\h.pc u<m.τ/\g'.q0=(G u).q0:=λha hp=>by
   grind [hd.2.1 ha]
  rcases hE with e|⟨e0,e,Rs⟩;grind [mN]
  .obtain⟨d1,d2⟩:=hd.1 e0 e;by_cases hlt:e0.τ<m.τ
   .have hF:FT h'.E m.τ=e0::FT h.E m.τ:=by rw[e,Hy,Jb hlt]
    rcases d2 with d2|⟨d2,d3,d4⟩
    .omega
    obtain⟨q,o,l,c1,c2,c3,c4⟩:=mo.Dw d2 Y;have Ex:=wb.th u ht;rw[e,Am] at Ex;subst Rs;obtain⟨f1,f2,f3⟩:=zP Ex;have h0:(A.th e0.t).st=0:=wa.run ht (λhp=>by grind [Dw]);obtain⟨lt,ha⟩:=wa.at ht h0;obtain⟨b,s,hb⟩:=AfV d2 ha;refine⟨?_,AC⟩;rw[<-d4] at c2 c3;rcases f3 with⟨f3,f4,f5⟩|⟨r,f3,f5⟩
    .obtain⟨q',k1,k2⟩:=yt f1 (by rw[d4];exact hb.nb) (by rw[d4];exact hb.wf) f2 f4;refine .inl ⟨_,_,_,q',by rw[hF];exact CO.D1 rfl c1 c2 f1 f2 f3 f4 f5,k1,k2,by rw[c3];grind,⟨e0.q2.o++q'.o,by rw[c3,Ji]⟩,AC⟩
    .exact .inr ⟨r,by rw[hF,c3];grind [G9.CR],AC⟩
   grind [Hy,mo.ok.LS,mN]
 .rw[A6 _ _ tn];have hF:=AiT (τ:=m.τ) hE tn;refine⟨mo.ok.LS hF,λha hp=>?_⟩;rw[hd.2.2 u tn] at hp;obtain⟨q,o,l,c1,c2⟩:=mo.Dw ha hp;grind [c1.LS hF]
theorem WA.bN (wa:WA X T n M s0 K A G h) (hk:A.sm 16<=K'):WA X T n M s0 K' A G h:=⟨wa.l1.bN hk,wa.wi,wa.th,wa.sp⟩
theorem WA.fls (h6:n<=6) (hX:∀t,t<T->Nr (X t)/\(X t).n=n) {k:Nat} (hk:k<T) {A B:AM} (f:aB X k A B):WA X T n M s0 K A G h->K<1000000000000000000->WA X T n M s0 K B G h:=by
 induction f with
 |nil A=>grind
 |cons hs _ ih=>
  intro wa hK;obtain⟨g2,h2,_,wb,_,_,_,hf⟩:=wa.step h6 hX hK hk hs;grind [Dp,wa.l1.step,wb.bN,wa.l1.c0]
end
def ad (E:List Ev):Prop:=E.Pairwise λa b=>a.t=b.t->b.τ<a.τ
structure eF (k:Nat) (A:AM) (G:Nat->Gt) (h:GH) (A':AM) (G':Nat->Gt) (h':GH):Prop where
 oth:∀u,u≠k->A'.th u=A.th u/\G' u=G u/\h'.pc u=h.pc u
 E:h'.E=h.E\/∃e0,h'.E=e0::h.E/\e0.t=k/\(h.Gy<=e0.τ\/(Dw (G k)=V/\h.pc k<=e0.τ))
 ac:Dw (G' k)=V->h.Gy<=h'.pc k\/(Dw (G k)=V/\h'.pc k=h.pc k)
 Gy:h.Gy<=h'.Gy
 D1:(A.th k).st≠0->A'=A/\G'=G/\h'=h
structure WM (X:Nat->Cx) (T n M:Nat) (s0:Nat->KS) (K:Int) (R:Al) (A:AM) (G:Nat->Gt) (h:GH) (ms:List yW):Prop where
 uu:Ug X T R A
 wa:WA X T n M s0 K A G h
 mo:∀m,m∈ms->m.τ<=h.Gy/\∀t,t<T->mN (s0 t) h.E h.pc t (G t) m
 de:ad h.E
 tt:∀e,e∈h.E->e.t<T
variable {X:Nat->Cx} {T n M:Nat} {s0:Nat->KS} {Ab:Nat->List GI} (hC:MCx X T n Ab) {K:Int} {R:Al} {A:AM} {G:Nat->Gt} {h:GH} {ms:List yW} (w:WM X T n M s0 K R A G h ms) (hK:K<1000000000000000000) {k:Nat} (hk:k<T)
include hC w hK hk
theorem WM.step:∃A' G' h',WM X T n M s0 (K+1) (R.step Ab k) A' G' h' ms/\eF k A G h A' G' h':=by
 by_cases h0:(A.th k).st=0
 .obtain⟨A0,A1,f,hs,ha⟩:=AdG.fs hC ⟨w.uu,w.wa.l1⟩ hK hk h0;have w0:=w.wa.fls hC.h6 hC.hX hk f hK;have fo:=(f.l1 hC.h6 hC.hX hk w.wa.l1 hK).2.2.2.2.2;obtain⟨g2,h2,_,wb,hE,hn,hd,_⟩:=w0.step hC.h6 hC.hX hK hk hs;refine⟨A1,_,h2,⟨ha,wb,λm hm=>?_,?_,?_⟩,⟨λu hu=>⟨(Sv hs u hu).trans AC,A6 _ _ hu,hd.2.2 u hu⟩,?_,λhx=>?_,hn,AC⟩⟩;grind [Abw,WM]
  .rcases hE with e|⟨e0,e,e1⟩
   .rw[e];exact w.de
   .rw[e];refine Qc.2 ⟨λe' Bg ht=>?_,w.de⟩;rcases (hd.1 e0 e).2 with h5|⟨h5,h6,_⟩;grind [w0.wi.ev e' Bg]
    .have:=(w0.wi.ac k hk h5).2.Uh e' Bg (by rw[<-ht,e1]);omega
  grind [WM]
  .rcases hE with e|⟨e0,e,e1⟩;grind;grind [hd.1 e0 e]
  .rw[Am] at hx;grind [hd.2.1 hx]
 .have Aw:(R.th k).Au≠0:=by rw[(w.uu.th k hk).st];exact h0
  have:R.step Ab k=R:=by unfold Al.step;rw[Jb (AC)]
  rw[this];exact⟨A,G,h,⟨w.uu,w.wa.bN (by have:=w.wa.l1.c0.2;omega),w.mo,w.de,w.tt⟩,⟨AC,AC,AC,AC,AC⟩⟩
omit hK hk in
end
theorem CO.ie {l':Nat} (h:CO t s0 E q o l) (k:CO t s0 E q' o' l'):(q=q'/\o=o'/\l=l'):=by
 induction h generalizing q' o' l' with
 |nil=>cases k<;>grind
 |skip hne _ ih=>cases k<;>grind
 |D1 he _ ko b kt hs hk _ ih=>cases k<;>grind
theorem G9.ie {r r':Int} (h:G9 t s0 E o r) (k:G9 t s0 E o' r'):o=o'/\r=r':=by
 induction h generalizing o' r' with
 |skip hne _ ih=>cases k<;>grind
 |CR he k1 ko b kt ht _=>cases k<;>grind [k1.ie]
theorem CO.vH {r:Int} (h:CO t s0 E q o l) (k:G9 t s0 E o' r):False:=by
 induction h generalizing o' r with
 |nil=>cases k
 |skip hne _ ih=>cases k<;>grind
 |D1 he _ ko b kt hs hk _ ih=>cases k<;>grind [Bz]
theorem Fe.ie {a b:KS} (h:Fe q a) (k:Fe q b) (ha:Ix a\/Dm a\/∃r,Bz a=U r) (hb:Ix b\/Dm b\/∃r,Bz b=U r) (hi:q.k.Db=I):a=b:=by
 have stop:∀{q:KS},(Ix q\/Dm q\/∃r,Bz q=U r)->Ot D9 q=Z/\∀a t,q.s≠ .out a t:=λ{q} h=>by
  obtain⟨s,k,L,R,A3,o⟩:=q;rcases h with⟨e1,e2⟩|⟨b,t,e⟩|⟨r,hr⟩
  .dsimp only at e1 e2;subst e1;subst e2;exact⟨rfl,AC⟩
  .dsimp only at e;subst e;exact⟨rfl,AC⟩
  .unfold Bz at hr;dsimp only at hr;split at hr
   .split at hr
    .rename_i hc;refine⟨?_,AC⟩;show Option.map _ (if _ then _ else _)=Z;rw[In hc.1,hc.2];rfl
    .cases hr
   .split at hr
    .rename_i hc;exact⟨Jb hc,AC⟩
    .cases hr
   .split at hr
    .rename_i hc;exact⟨Jb hc,AC⟩
    .cases hr
   .cases hr
 induction h with
 |nil q=>cases k<;>grind
 |cons hs _ ih=>cases k<;>grind [MT,Ot]
 |out hs hi1 _ ih=>cases k<;>grind [Ot,IY]
structure BOk (s0:KS) (E:List Ev) (e:Ev) (q:KS) (o:List Int) (l:Nat):Prop where
 pre:CO e.t s0 (FT E e.τ) q o l
 ko:Fe q e.q
 b:Dm e.q
 kt:Ij e.rd (Cw e.q) e.q2
 D1:(e.q2.s=.nil/\(∃b s k,e.q2.k=.Ao b s k)/\(e.w=Z->∀c,e.q2.A3 c=Z))\/∃r,Bz e.q2=U r/\e.w=Z
theorem uH (h:CO t s0 (FT E τ) q o l) (hne:e.t≠t\/¬e.τ<τ):CO t s0 (FT (e::E) τ) q o l:=by
 rw[Hy];split
 .rename_i h1;rcases hne with h2|h2
  .exact .skip h2 h
  grind
 .exact h
theorem Acu (hd:ad E):((∃q o l,CO t s0 E q o l)\/∃o r,G9 t s0 E o r)->∀e,e∈E->e.t=t->∃q o l,BOk s0 E e q o l:=by
 have key:∀{e0:Ev} {E:List Ev} {q:KS} {o:List Int} {l:Nat},ad (e0::E)->e0.t=t->CO t s0 E q o l->FT (e0::E) e0.τ=FT E e0.τ/\CO t s0 (FT E e0.τ) q o l:=λ{e0 E q o l} hd he h=>by
  refine⟨by rw[Hy,In AC],?_⟩;rw[ad,Qc] at hd;have DT:∀e,e∈E->e.t=t->e.τ<e0.τ:=AC;clear hd;induction h with
  |nil=>exact .nil
  |skip hne _ ih=>grind [uH]
  |D1 h1 _ ko b kt hs hk hm ih=>
   rw[Hy,Jb AC];exact .D1 h1 (ih λe hm=>DT e (.tail _ hm)) ko b kt hs hk hm
 have lift:∀{e0 e:Ev} {E:List Ev} {q:KS} {o:List Int} {l:Nat},ad (e0::E)->e∈E->e.t=t->BOk s0 E e q o l->BOk s0 (e0::E) e q o l:=λ{e0 e E q o l} hd hm Rs h=>by
  grind [uH,ad,List.pairwise_cons,BOk]
 have hh:∀{E:List Ev} {q:KS} {o:List Int} {l:Nat},ad E->CO t s0 E q o l->∀e,e∈E->e.t=t->∃q o l,BOk s0 E e q o l:=λ{E q o l} hd h=>by
  induction h with
  |nil=>grind
  |skip hne _ ih=>
   intro e he Rs;cases he with
   |head=>grind
   |tail _ he=>
    exact nal
  |D1 h1 k1 ko b kt hs hk hm ih=>
   intro e he Rs;cases he with
   |head=>
    exact nax
   |tail _ he=>
    exact nal
 rintro(⟨q,o,l,h⟩|⟨o,r,h⟩);grind
 .induction h with
  |skip hne _ ih=>
   intro e he Rs;cases he with
   |head=>grind
   |tail _ he=>
    exact nal
  |CR h1 k1 ko b kt ht hw=>
   intro e he Rs;cases he with
   |head=>
    exact nax
   |tail _ he=>
    obtain⟨q,o,l,h2⟩:=hh (Qc.1 hd).2 k1 e he Rs;grind [lift hd he Rs h2]
theorem AiU {a b:Nat} (Vj:a<=b) (hg:∀e,e∈E->e.t=t->e.τ<b->e.τ<a) {s0:KS} {q:KS} {o:List Int} {l:Nat}:CO t s0 (FT E a) q o l<->CO t s0 (FT E b) q o l:=by
 induction E generalizing q o l with
 |nil=>exact Iff.rfl
 |cons e E ih=>
  have ih':=λ{q:KS} {o:List Int} {l:Nat}=>ih (q:=q) (o:=o) (l:=l) λe' Bg=>hg e' (.tail _ Bg)
  rw[Hy,Hy];by_cases ht:e.t=t
  .by_cases h1:e.τ<a
   .rw[Jb h1,Jb Y];constructor
    .intro h;cases h with
     |skip hne _=>grind
     |D1 h2 k ko b kt hs hk hm=>exact .D1 h2 (ih'.1 k) ko b kt hs hk hm
    .intro h;cases h with
     |skip hne _=>grind
     |D1 h2 k ko b kt hs hk hm=>exact .D1 h2 (ih'.2 k) ko b kt hs hk hm
   grind
  .have sk:∀{E:List Ev} {q:KS} {o:List Int} {l:Nat},CO t s0 (e::E) q o l<->CO t s0 E q o l:=λ{E q o l}=>by
    constructor
    .intro h;cases h<;>grind
    .exact .skip ht
   split<;>split<;>first|exact ih'|grind
def HK (E:List Ev) (κ:Nat->Nat):List Ev:=E.filter λe=>decide (e.τ<κ e.t)
theorem GA:e∈HK E κ<->e∈E/\e.τ<κ e.t:=by
 grind [HK]
def Ev.key (e:Ev):Nat:=2*e.τ+if e.w.isSome then 1 else 0
structure Evs (T n:Nat) (cells:Int) (s0:Nat->KS) (σ:Int->Nat) (N:Int) (E:List Ev):Prop where
 s2:∀w w',1<=w->w<w'->w'<=N->σ w<σ w'
 Po:gK E
 de:ad E
 kp:∀e,e∈E->KP σ N e.k e.τ/\∀w,e.w=U w->e.k=w-1/\e.τ=σ w/\1<=w/\w<=N
 rd:∀e,e∈E->∀c v,e.rd c=U v->rS E c e.k v
 tt:∀e,e∈E->e.t<T
 bok:∀e,e∈E->∃q o l,BOk (s0 e.t) E e q o l
 nb:∀t,t<T->(s0 t).k.Db=I/\Om cells (s0 t).R (.rest (s0 t).s (s0 t).k)
structure Nxt (E:List Ev) (κ:Nat->Nat) (e:Ev):Prop where
 mem:e∈E
 out:¬e.τ<κ e.t
 min:∀e',e'∈E->¬e'.τ<κ e'.t->e.key<=e'.key
def DC (E:List Ev) (κ:Nat->Nat):Prop:=∀e e',e∈E->e'∈E->e.τ<κ e.t->¬e'.τ<κ e'.t->e.key<=e'.key
section
variable {T n:Nat} {cells:Int} {s0:Nat->KS} {σ:Int->Nat} {N:Int} {E:List Ev} (ev:Evs T n cells s0 σ N E)
include ev
theorem AdS {e':Ev} (he:e∈E) (Bg:e'∈E) (ht:e.t=e'.t) (hτ:e.τ=e'.τ):e=e':=by
 have hd:=ev.de;clear ev;induction E<;>grind [ad,List.pairwise_cons]
theorem zu (nx:Nxt E κ e) (dc:DC E κ) {e':Ev} (Bg:e'∈E) {w:Int} (hw:e'.w=U w):e'∈HK E κ<->w<=e.k:=by
 obtain⟨k1,k2⟩:=ev.kp e nx.mem;obtain⟨_,k3⟩:=ev.kp e' Bg;obtain⟨a1,a2,a3,a4⟩:=k3 w hw;have hk:=k1 w a3 a4;rw[GA];constructor
 .rintro⟨_,h2⟩;have h3:=dc e' e Bg nx.mem h2 nx.out;unfold Ev.key at h3;rw[hw,Jb AC] at h3;refine hk.2 ?_;rw[<-a2];by_cases hb:e.w.isSome=V
  .rw[Jb hb] at h3;by_cases h4:e'.τ=e.τ
   .obtain⟨w2,Mi⟩:=JA.1 hb;obtain⟨b1,b2,b3,b4⟩:=k2 w2 Mi;have:w=w2:=by
     grind [Evs]
    subst this;have:=ev.Po e' e Bg nx.mem w hw Mi;grind [Nxt]
   .omega
  grind
 grind [Ev.key,Nxt]
theorem AaU (nx:Nxt E κ e) (dc:DC E κ) {C:Nat->Int} (hC:∀c,∃w,DW (HK E κ) c (C c) w) {c:Nat} {v:Int} (hv:e.rd c=U v):C c=v:=by
 obtain⟨w,hw⟩:=hC c;have Pv:∀e',e'∈E->∀w',e'.wr c w'->(e'∈HK E κ<->w'<=e.k):=λe' Bg w' KT=>zu ev nx dc Bg KT.1
 rcases ev.rd e nx.mem c v hv with⟨e1,a1,w1,a2,a3,a4,a5⟩|⟨a1,a2⟩
 .have h1:e1.wr c w1:=⟨a2,by rw[a3];rfl⟩;have h2:=(Pv e1 a1 w1 h1).2 a4;rcases hw with⟨e2,b1,b2,b3,b4⟩|⟨_,_,b3⟩
  .have h3:=b4 e1 h2 w1 h1;have h4:e2.wr c w:=⟨b2,by rw[b3];rfl⟩;have h5:=a5 e2 (GA.1 b1).1 w h4 ((Pv e2 (GA.1 b1).1 w h4).1 b1);obtain rfl:w=w1:=Y
   have:=ev.Po e1 e2 a1 (GA.1 b1).1 w a2 b2;subst this;rw[a3] at b3;cases b3;rfl
  .exact Jk h1 (b3 e1 h2 w1)
 .rcases hw with⟨e2,b1,b2,b3,b4⟩|⟨b1,_,_⟩
  .have h4:e2.wr c w:=⟨b2,by rw[b3];rfl⟩;have h5:=a2 e2 (GA.1 b1).1 w h4;have h6:=(Pv e2 (GA.1 b1).1 w h4).1 b1;omega
  .rw[a1,b1]
theorem M7 (nx:Nxt E κ e) {e':Ev}:e'∈HK E (A5 κ e.t (e.τ+1))<->e'∈HK E κ\/e'=e:=by
 rw[GA,GA];grind [Am,AdS,Ev.key,A6,Nxt]
theorem Af2 (nx:Nxt E κ e) (dc:DC E κ):DC E (A5 κ e.t (e.τ+1)):=λa b ha hb h1 h2=>by
 have h3:=(M7 ev nx).1 (GA.2 ⟨ha,h1⟩);have h4:¬b.τ<κ b.t:=λh=>h2 (GA.1 ((M7 ev nx).2 (.inl (GA.2 AC)))).2
 rcases h3 with h3|h3
 .exact dc a b ha hb (GA.1 h3).2 h4
 grind [Nxt]
theorem ZV (nx:Nxt E κ e) (dc:DC E κ) {C C':Nat->Int} (hC:∀c,∃w,DW (HK E κ) c (C c) w) (h1:∀c w,e.wr c w->e.q2.A3 c=U (C' c)) (h2:∀c,(∀w,¬e.wr c w)->C' c=C c):∀c,∃w,DW (HK E (A5 κ e.t (e.τ+1))) c (C' c) w:=λc=>by
 obtain⟨w,hw⟩:=hC c;by_cases hx:∃w,e.wr c w
 .obtain⟨w1,Fu⟩:=hx;refine⟨w1,.inl ⟨e,(M7 ev nx).2 AC,Fu.1,AC,λe' Bg w' KT=>?_⟩⟩;rcases (M7 ev nx).1 Bg with h3|h3
  .have h4:=(zu ev nx dc (GA.1 h3).1 KT.1).1 h3;have:=((ev.kp e nx.mem).2 w1 Fu.1).1;omega
  .subst h3;have:=Fu.1.symm.trans KT.1;grind
 .rw[h2 c AC];refine⟨w,?_⟩;rcases hw with⟨e2,b1,b2,b3,b4⟩|⟨b1,b2,b3⟩
  .refine .inl ⟨e2,(M7 ev nx).2 (.inl b1),b2,b3,λe' Bg w' KT=>?_⟩<;>grind [M7]
  .refine .inr ⟨b1,b2,λe' Bg w' KT=>?_⟩<;>grind [M7]
end
def M5 (l:List Nd) (cells:Int) (s0:KS) (E:List Ev) (t τ:Nat) (r:RR):Prop:=
 (∃q o sl q',CO t s0 (FT E τ) q o sl/\Fe q q'/\r.An=o++q'.o/\r.Ck=sl/\((Ix q'/\r.Au=10)\/(∃x,Bz q'=U x/\r.Au=x)\/(Dm q'/\At0 l cells q' r)))\/
  ∃x,G9 t s0 (FT E τ) r.An x/\r.Ck=J r.An/\r.Au=x
theorem Fe.Db (h:Fe q r):r.k.Db=q.k.Db:=by
 induction h<;>grind [MT,IY]
theorem CO.Db (h:CO t s0 E q o l) (h0:s0.k.Db=I):q.k.Db=I:=by
 induction h with
 |nil=>exact h0
 |skip _ _ ih=>exact ih
 |D1 _ _ ko b _ _ _ _ ih=>
  obtain⟨b,s,e⟩:=b;rw[Gw e];exact ko.Db.trans ih
def TF (t:Nat) (F:List Ev):List Ev:=F.filter λe=>decide (e.t=t)
theorem Vt (t:Nat) (e:Ev) (F:List Ev):TF t (e::F)=if e.t=t then e::TF t F else TF t F:=by
 unfold TF;rw[List.filter_cons];by_cases h:e.t=t<;>simp[h]
theorem IQ:CO t s0 F q o l<->CO t s0 (TF t F) q o l:=by
 induction F generalizing q o l with
 |nil=>exact Iff.rfl
 |cons e F ih=>
  rw[Vt];by_cases h:e.t=t
  .rw[Jb h];constructor
   .intro h1;cases h1 with
    |skip h2 _=>grind
    |D1 h2 k ko b kt hs hk hm=>exact .D1 h2 (ih.1 k) ko b kt hs hk hm
   .intro h1;cases h1 with
    |skip h2 _=>grind
    |D1 h2 k ko b kt hs hk hm=>exact .D1 h2 (ih.2 k) ko b kt hs hk hm
  .exact nay
theorem L7 {r:Int}:G9 t s0 F o r<->G9 t s0 (TF t F) o r:=by
 induction F generalizing o r with
 |nil=>exact Iff.rfl
 |cons e F ih=>
  rw[Vt];by_cases h:e.t=t
  .rw[Jb h];constructor
   .intro h1;cases h1 with
    |skip h2 _=>grind
    |CR h2 k ko b kt ht hw=>exact .CR h2 (IQ.1 k) ko b kt ht hw
   .intro h1;cases h1 with
    |skip h2 _=>grind
    |CR h2 k ko b kt ht hw=>exact .CR h2 (IQ.2 k) ko b kt ht hw
  .exact nay
theorem zR {a b:Nat} (hg:∀e,e∈E->e.t=t->(e.τ<a<->e.τ<b)):TF t (FT E a)=TF t (FT E b):=by
 induction E with
 |nil=>rfl
 |cons e E ih=>
  have ih':=ih λe' Bg=>hg e' (.tail _ Bg)
  have h0:=hg e (.head _);rw[Hy,Hy];grind [Vt]
theorem AgW (hd:ad E) {e:Ev} (he:e∈E):TF e.t (FT E (e.τ+1))=e::TF e.t (FT E e.τ):=by
 induction E<;>grind [ad,List.pairwise_cons,Hy,Vt,zR]
theorem zM {s0:Nat->KS} {σ:Int->Nat} {N:Int} (ev:Evs T n cells s0 σ N E) (hn:n=cells.toNat) {κ:Nat->Nat} {e:Ev} (nx:Nxt E κ e) (dc:DC E κ) {C:Nat->Int} (hC:∀c,∃w,DW (HK E κ) c (C c) w) {cs:List Int} (hl:J cs=n) (hc:∀c,c<n->cs.getD c 0=C c)
  {l:List Nd} {r:RR} (h:M5 l cells (s0 e.t) E e.t (κ e.t) r):r.Au=0/\∃u cs',∃C':Nat->Int,Pk l r cs u cs'/\J cs'=n/\(∀c,c<n->cs'.getD c 0=C' c)/\(∀c,∃w,DW (HK E (A5 κ e.t (e.τ+1))) c (C' c) w)/\M5 l cells (s0 e.t) E e.t (e.τ+1) u:=by
 have Pr:=ev.nb e.t (ev.tt e nx.mem);obtain⟨q,o,sl,hb⟩:=ev.bok e nx.mem;have Amv:∀e',e'∈E->e'.t=e.t->e'.τ<e.τ->e'.τ<κ e.t:=λe' h1 h2 h3=>Classical.byContradiction λh4=>by
  have:=nx.min e' h1 (by rw[h2];exact h4);unfold Ev.key at this;split at this<;>split at this<;>omega
 have hle:κ e.t<=e.τ:=Nat.le_of_not_lt nx.out;have Xp:=(AiU hle Amv).2 hb.pre;have xA:=AgW ev.de nx.mem;have hkt:Ij (rdC C) (Cw e.q) e.q2:=Ij.mono (λc x hx=>JM U (AaU ev nx dc hC hx)) hb.kt;have FE:At0 l cells e.q r:=by
  rcases h with⟨q2,o2,sl2,q',h1,h2,h3,h4,h5⟩|⟨x,h1,_⟩
  .obtain⟨e1,e2,e3⟩:=h1.ie Xp;subst e1;have hq:q'=e.q:=h2.ie hb.ko AC (.inr (.inl hb.b)) (Xp.Db Pr.1);subst hq;rcases h5 with⟨h6,_⟩|⟨x,h6,_⟩|⟨_,h6⟩
   .obtain⟨b,s,e4⟩:=hb.b;rw[h6.1] at e4;cases e4
   .obtain⟨b,s,e4⟩:=hb.b<;>grind [Bz]
   .exact h6
  grind [Xp.vH]
 obtain⟨a1,a2,a3,a4⟩:=FE.AN;have hro:r.An=o++e.q.o:=by
  rcases h with⟨q2,o2,sl2,q',h1,h2,h3,h4,h5⟩|⟨x,h1,_⟩
  .obtain⟨e1,e2,e3⟩:=h1.ie Xp;subst e1;subst e2;have hq:q'=e.q:=h2.ie hb.ko AC AC (Xp.Db Pr.1);rw[h3,hq]
  grind [Xp.vH]
 refine⟨a2.st,?_⟩;rcases hb.D1 with⟨f1,f2,f3⟩|⟨x,f1,fw⟩
 .obtain⟨r2,cs',b1,b2,b3,b4,b5,b6,b7,b8,b9⟩:=AfK hn a1 a4 a3 a2 hl hc FE.big hkt f1 f2;obtain⟨q3,k3,e3⟩:=NY _ (Jf _) b2 b3;have hbg:=FE.big;obtain⟨m,u,c1,c2,c3,c4,c5,c6,_⟩:=fN k3 b1 b2 b3 e3 Y;have hH:CO e.t (s0 e.t) (FT E (e.τ+1)) (BS e.q e.q2) (o++e.q.o++e.q2.o) (o++e.q.o).length:=by
   rw[IQ,xA];exact .D1 rfl (IQ.1 hb.pre) hb.ko hb.b hb.kt f1 f2 f3
  refine⟨u,cs',sK e.q2.A3 C,AC,b7,b8,ZV ev nx dc hC (λc w hw=>?_) (λc hw=>?_),.inl ⟨_,_,_,q3,hH,k3,by rw[c2,hro],by rw[c3,b6,hro],?_⟩⟩
  .obtain⟨v,hv⟩:=JA.1 hw.2<;>grind [sK]
  .unfold sK;cases hm:e.q2.A3 c with
   |none=>rfl
   |some v=>
    cases KT:e.w with
    |none=>rw[f3 KT c] at hm;cases hm
    |some w=>exact Jk ⟨KT,by rw[hm];rfl⟩ (hw w)
  grind
 .obtain⟨u,c1,c2,c3,c4⟩:=Adh hn a1 a4 a3 a2 hl hc FE.big hkt f1;have hH:G9 e.t (s0 e.t) (FT E (e.τ+1)) (o++e.q.o) x:=by
   rw[L7,xA];exact .CR rfl (IQ.1 hb.pre) hb.ko hb.b hb.kt f1 fw
  refine⟨u,cs,C,c1,hl,hc,ZV ev nx dc hC (λc w hw=>?_) AC,.inr ⟨x,by rw[c3,hro];exact hH,by rw[c4,c3],c2⟩⟩;exact Jk hw.1 (by rw[fw];grind)
structure FR where
 An:List Int
 Au:Int
def RR.Aip (r:RR) (s:FR):Bool:=
 decide (r.Ck<=J s.An) && decide (J s.An<=J r.An) && decide (s.An=r.An.take (J s.An)) && (decide (s.Au=0) || (decide (s.Au=r.Au) && decide (J s.An=J r.An)))
theorem pX {α:Type} {P:α->Prop} (f:α->Nat) (h:∃a,P a):∃a,P a/\∀b,P b->f a<=f b:=by
 obtain⟨a,ha⟩:=h;induction hn:f a using Nat.strongRecOn generalizing a<;>grind
theorem AdV {l:List Nd} {a b:Nat} {r:RR} (hg:TF t (FT E a)=TF t (FT E b)) (h:M5 l cells s0 E t a r):M5 l cells s0 E t b r:=by
 rcases h with⟨q,o,sl,q',h1,h2⟩|⟨x,h1,h2⟩
 .exact .inl ⟨q,o,sl,q',by rw[IQ,<-hg,<-IQ];exact h1,h2⟩
 .exact .inr ⟨x,by rw[L7,<-hg,<-L7];exact h1,h2⟩
theorem vg {l:List Nd} {r:RR} (h0:s0.k.Db=I) (h:M5 l cells s0 E t τ r) (k:Wx s0 E t τ out st):r.Aip ⟨out,st⟩=V:=by
 unfold RR.Aip;rcases h with⟨q,o,sl,q',h1,h2,h3,h4,h5⟩|⟨x,h1,h2,h3⟩
 .rcases k with⟨q2,o2,sl2,q2',k1,k2,k3,k4,⟨z,k5⟩,k6⟩|⟨x,k1,_⟩
  .obtain⟨e1,e2,e3⟩:=h1.ie k1;subst e1;subst e2;subst e3;have hq:q'=q2':=h2.ie k2 AC k3 (h1.Db h0);subst hq;have ho:r.An=out++z:=AC;simp only[JD,QP,JB];refine⟨AC,?_⟩;by_cases Aw:st=0;grind
   .obtain⟨k7,k8⟩:=k6 Aw;refine .inr ⟨?_,by rw[k7,h3]⟩;rcases k8 with⟨k8,k9⟩|k8
    .rcases h5 with⟨_,h5⟩|⟨y,h5,_⟩|⟨⟨b,s,h5⟩,_⟩;grind
     .unfold Bz at h5;rw[k9.1] at h5;cases h5
     .rw[k9.1] at h5;cases h5
    .rcases h5 with⟨h5,_⟩|⟨y,h5,h6⟩|⟨⟨b,s,h5⟩,_⟩
     .unfold Bz at k8;rw[h5.1] at k8;cases k8
     grind;grind [Bz]
  grind [h1.vH]
 .rcases k with⟨q2,o2,sl2,q2',k1,_⟩|⟨y,k1,k2⟩;grind [k1.vH];grind [h1.ie]
theorem zQ {t τ:Nat}:∀{F:List Ev},(∀e,e∈F->e.t=t->e.τ<τ)->TF t (FT F τ)=TF t F
 |[],_=>rfl
 |b::F,h=>by
  have ih:=zQ (F:=F) λe he=>h e (.tail _ he)
  rw[Hy];grind [Vt]
section
variable {T n:Nat} {cells:Int} {s0:Nat->KS} {σ:Int->Nat} {N:Int} {E:List Ev} (ev:Evs T n cells s0 σ N E)
include ev
end
theorem dR {α:Type} {p q:α->Bool}:∀{l:List α},(∀x,x∈l->q x=V->p x=V)->(∃x,x∈l/\p x=V/\q x=I)->l.countP q<l.countP p
 |[],_,⟨_,h,_⟩=>by cases h
 |a::l,hs,⟨x,hx,h1,h2⟩=>by
  rw[List.countP_cons,List.countP_cons];have hle:l.countP q<=l.countP p:=List.countP_mono_left AC;have ha:=hs a (.head _);cases hx with
  |head=>rw[h1,h2];simp;omega
  |tail _ hx=>
   have:=dR AC ⟨x,hx,h1,h2⟩;grind
def left (E:List Ev) (κ:Nat->Nat):Nat:=E.countP λe=> !decide (e.τ<κ e.t)
def AgT (T:Nat) (m:yW):List FR:=(List.range T).map λt=>⟨m.out t,m.st t⟩
def Anm (P:List (List Nd)) (cells:Int) (s0:Nat->KS) (T:Nat) (E:List Ev) (ah:List (List Bool)):Prop:=
 ∀t u,t<T->u<T->(ah.getD t []).getD u I=V->(∀e e',e∈E->e'∈E->e.t=u->e'.t=t->e.τ<e'.τ)/\∀τ r,(∀e,e∈E->e.t=u->e.τ<τ)->M5 (P.getD u []) cells (s0 u) E u τ r->r.Au≠0
structure SI (P:List (List Nd)) (T n:Nat) (cells:Int) (s0:Nat->KS) (E:List Ev) (κ:Nat->Nat) (rs:List RR) (cs:List Int) (ms:List yW):Prop where
 rl:J rs=T
 Uh:∀t,t<T->M5 (P.getD t []) cells (s0 t) E t (κ t) (rs.getD t .start)
 cl:J cs=n
 cv:∃C:Nat->Int,(∀c,c<n->cs.getD c 0=C c)/\∀c,∃w,DW (HK E κ) c (C c) w
 dc:DC E κ
 so:ms.Pairwise λa b=>a.τ<=b.τ
 ok:∀m,m∈ms->∀t,t<T->Wx (s0 t) E t m.τ (m.out t) (m.st t)
 lt:∀m,m∈ms->∀e,e∈E->e.τ<κ e.t->e.τ<m.τ
theorem zO (h:Mr s0 E t g out):(∃q o l,CO t s0 E q o l)\/∃o r,G9 t s0 E o r:=by
 unfold Mr at h;cases hp:g.ph<;>rw[hp] at h<;>dsimp only at h<;>first
  |(obtain⟨_,q,o,l,h1,_⟩|⟨_,r,h1,_⟩:=h<;>first|exact AC|exact AC;done)
  |(obtain⟨o,h1,_⟩:=h;exact AC)
  |(obtain⟨_,q,o,l,h1,_⟩:=h;exact .inl ⟨_,_,_,h1⟩)
structure im (T:Nat) (A:AM) (G:Nat->Gt) (h:GH) (bg:List Bool) (ah:List (List Bool)):Prop where
 ZI:∀t,t<T->bg.getD t I=I->(∀e,e∈h.E->e.t≠t)/\Dw (G t)=I/\(A.th t).st=0
 ord:∀t u,t<T->u<T->(ah.getD t []).getD u I=V->bg.getD t I=V/\∃α,α<=h.Gy/\(A.th u).st≠0/\(∀e,e∈h.E->e.t=u->e.τ<α)/\(∀e,e∈h.E->e.t=t->α<=e.τ)/\(Dw (G t)=V->α<=h.pc t)
section
variable {T:Nat} {A A':AM} {G G':Nat->Gt} {h h':GH} {bg:List Bool} {ah:List (List Bool)} (a:im T A G h bg ah)
include a
theorem im.step {k:Nat} (s:eF k A G h A' G' h') (hb:bg.getD k I=V):im T A' G' h' bg ah:=by
 have hE:∀e,e∈h'.E->e∈h.E\/(e.t=k/\(h.Gy<=e.τ\/(Dw (G k)=V/\h.pc k<=e.τ))/\¬(A.th k).st≠0):=λe he=>by
  grind [eF]
 have Aw:∀u,(A.th u).st≠0->(A'.th u).st≠0:=λu hu=>by
  grind [eF]
 refine⟨λt ht hbt=>?_,λt u ht hu ZB=>?_⟩;grind [im,eF]
 .obtain⟨b0,α,b1,b2,b3,b4,b5⟩:=a.ord t u ht hu ZB;have:=s.Gy;refine⟨b0,α,Y,Aw u b2,λe he Rs=>?_,λe he Rs=>?_,λha=>?_⟩<;>grind [eF]
theorem im.C7 (hs:∀u,(A'.th u).st=(A.th u).st):im T A' G h bg ah:=
 ⟨λt ht hb=>(let ⟨b1,b2,b3⟩:=a.ZI t ht hb;AC),λt u ht hu ZB=>(let ⟨b0,α,b1,b2,b3⟩:=a.ord t u ht hu ZB;⟨b0,α,b1,by rw[hs];exact b2,b3⟩)⟩
theorem im.begin (ht:t<T) (Fb:J bg=T) (xz:J ah=T) (Amd:∀e,e∈h.E->e.τ<h.Gy) (hb:bg.getD t I=I) {l:List Bool} (hl:∀u,u<T->l.getD u I=V->(A.th u).st≠0):im T A G h (bg.set t V) (ah.set t l):=by
 obtain⟨f1,f2,f3⟩:=a.ZI t ht hb;refine⟨λu hu hbu=>?_,λv u hv hu ZB=>?_⟩;grind [im]
 .rw[B6 _ _ _ _ _ Y] at ZB;rw[B6 _ _ _ _ _ Y];split at ZB
  .rename_i e;subst e;exact⟨AC,h.Gy,AC,AC,AC,AC,AC⟩
  grind [im]
end
theorem Ait {s0:Nat->KS} {h:GH} {ms:List yW} (w:WM X T n M s0 K R A G h ms) (h0:∀t,t<T->(s0 t).k.Db=I/\Om cells (s0 t).R (.rest (s0 t).s (s0 t).k)):Evs T n cells s0 h.σ (A.sm 16) h.E where
 s2:=w.wa.wi.s2
 Po:=w.wa.wi.Po
 de:=w.de
 kp:=λe he=>⟨(w.wa.wi.ev e he).2.2.1,(w.wa.wi.ev e he).2.2.2.2⟩
 rd:=λe he c v hv=>((w.wa.wi.ev e he).2.2.2.1 c v hv).1
 tt:=w.tt
 bok:=λe he=>Acu w.de (zO (w.wa.th e.t (w.tt e he))) e he rfl
 nb:=h0
theorem AkZ {s0:Nat->KS} {h:GH} {ms:List yW} (w:WM X T n M s0 K R A G h ms) (h0:∀t,t<T->(s0 t).k.Db=I) {bg:List Bool} {ah:List (List Bool)} (a:im T A G h bg ah) (P:List (List Nd)):Anm P cells s0 T h.E ah:=λt u ht hu ZB=>by
 obtain⟨_,α,b1,b2,b3,b4,b5⟩:=a.ord t u ht hu ZB;refine⟨AC,λτ r DT hr=>?_⟩;have htf:TF u (FT h.E τ)=TF u h.E:=zQ DT;have BJ:=w.wa.l1.D1 u hu b2;have Ex:=w.wa.th u hu;have hkt:∀{q:KS} {x:Int},Bz q=U x->x≠0:=λhx e0=>by rcases U5 hx with e'|e'<;>rw[e'] at e0<;>cases e0
 unfold Mr at Ex;rw[BJ] at Ex;rcases Ex with⟨hi,q,o,l,h1,h2,h3⟩|⟨hi,x,h1,h2⟩
 .have AjU:=w.wa.sp u hu b2;rcases hr with⟨q2,o2,sl2,q',k1,k2,k3,k4,k5⟩|⟨x,k1,_⟩
  .rw[IQ,htf,<-IQ] at k1;obtain⟨e1,_,_⟩:=k1.ie h1;subst e1;have hq:q'=(G u).q:=k2.ie h2 AC AC (k1.Db AC);subst hq;rcases k5 with⟨_,k5⟩|⟨x,k5,k6⟩|⟨⟨b,s,k5⟩,_⟩;grind;grind
   .rcases AjU with⟨_,h5⟩|h5
    .rw[h5.1] at k5;cases k5
    grind [Bz]
  .rw[L7,htf,<-L7] at k1;grind [h1.vH]
 .rcases hr with⟨q2,o2,sl2,q',k1,_⟩|⟨y,k1,k2,k3⟩
  .rw[IQ,htf,<-IQ] at k1;grind [k1.vH]
  .rw[L7,htf,<-L7] at k1;grind [k1.ie]
