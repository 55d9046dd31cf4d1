/- Part 24 of the proof. -/
import Derived.Test.YtpdfifdlhpmofaaGreatDoorA23
import Derived.Test.YtpdfifdlhpmofaaGreatDoorA22
set_option linter.unusedVariables false
set_option linter.unusedSimpArgs false
set_option maxHeartbeats 0
set_option maxRecDepth 99999
namespace Go.Proofs.YtpdfifdlhpmofaaGreatDoor
open Go.RowKit
open Value renaming slice->qD,string->qE,bool->qF,tuple->qG,agg->qH,pointer->qI
open Ending renaming returned->qJ
open Obj renaming cells->qK
open Option renaming none->Z,some->U
open Bool renaming true->V,false->I
open Go.Lib renaming hid->D
open List renaming length->J
variable {k n t j:Nat} {G:Nat->Gt} {P:List (List Nd)} {a b:List Int} {p:Nat->Bool} {ms:List (List Cq)}
section
variable {y:qL} {p:RP} (h:PS y p) {f z:List Int} (hp:PT p f z)
include h
theorem sW:(R0 y).ts.length=J y.Aa:=by
 have:=(fA h).tl;exact this
theorem Af2:iQ (VI y) (J y.Aa):=by
 have hC:=T7 h;obtain⟨h1,_⟩:=I0 h;refine⟨λk hk=>hC.ok k hk,λk hk=>?_⟩;have:=(h1 _ (Qe.2 ⟨k,J6.2 hk,rfl⟩)).1;show(Gi y.cells k (y.Aa.getD k .nil)).length<=4000;omega
theorem wM:IB (VI y) (R0 y) 0:=λk hk=>by
 rw[sW h] at hk;rw[Ag2 h hk];exact⟨rfl,Jf _⟩
theorem xE {gs:List H9} (hg:J gs=(R0 y).ts.length):cF gs (R0 y):=by
 refine⟨hg,by rw[sW h];exact(I0 h).2.2.2,J1 ..,λt ht=>?_⟩;obtain⟨c,_,rfl⟩:=Qe.1 ht;exact⟨rfl,by show([]:List (Int×Int)).length<=4;decide,λq hq=>by cases (show q∈([]:List (Int×Int)) from hq)⟩
include hp
end
section
variable {y:qL} {p:RP} (h:PS y p) {f z:List Int} (hp:PT p f z)
include h hp
omit h hp in
end
structure fB where
 R:Am
 bg:List Bool
 ms:List (List Cq)
 ah:List (List Bool)
def DX (T:Nat) (R:Am):List Cq:=(List.range T).map λt=>⟨(R.th t).out,(R.th t).An⟩
def Gg (T:Nat) (R:Am):List Bool:=(List.range T).map λt=> !decide ((R.th t).An=0) && decide ((R.th t).waits.length=0)
def vh (T:Nat) (t n:Nat) (s:fB):fB:=if 0<n/\s.bg.getD t I=I then {s with bg:=s.bg.set t V,ah:=s.ah.set t (Gg T s.R)} else s
def mvP (Ab:Nat->List GI) (T:Nat) (t n:Nat) (s:fB):fB:=
 {s with R:=s.R.IV Ab t n,ms:=if (s.R.th t).out.length<((s.R.IV Ab t n).th t).out.length\/((s.R.IV Ab t n).th t).An≠(s.R.th t).An then s.ms++[DX T (s.R.IV Ab t n)] else s.ms}
def V2 (Ab:Nat->List GI) (T:Nat) (p:Int) (s:fB):fB:=if (Li p).1<T then mvP Ab T (Li p).1 (Li p).2 (vh T (Li p).1 (Li p).2 s) else s
def Ny (Ab:Nat->List GI) (T:Nat):List Int->fB->fB
 |[],s=>s
 |p::r,s=>Ny Ab T r (V2 Ab T p s)
structure WW (X:Nat->Cx) (T n M:Nat) (s0:Nat->KS) (K:Int) (s:fB) (A:AM) (G:Nat->Gt) (h:GH) (ms:List ti):Prop where
 wm:WM X T n M s0 K s.R A G h ms
 ai:vN T A G h s.bg s.ah
 sm:s.ms=ms.map (F3 T)
 so:ms.Pairwise λa b=>a.τ<=b.τ
 bl:J s.bg=T
 al:J s.ah=T
section
variable {X:Nat->Cx} {T n M:Nat} {s0:Nat->KS} {Ab:Nat->List GI} (hC:MCx X T n Ab) {K:Int} {A:AM} {G:Nat->Gt} {h:GH} {ms:List ti}
include hC
theorem WW.Ajz (hk:k<T):∀(n':Nat) {K:Int} {s:fB} {A:AM} {G:Nat->Gt} {h:GH},WW X T n M s0 K s A G h ms->s.bg.getD k I=V->K+n'<1000000000000000000->∃A' G' h',WW X T n M s0 (K+n') {s with R:=Am.YU Ab k n' s.R} A' G' h' ms:=by
 intro n';induction n' with
 |zero=>intro K s A G h w _ _;exact⟨A,G,h,by rw[show K+(0:Nat)=K by omega];exact w⟩
 |succ n' ih=>
  intro K s A G h w hb hK;obtain⟨A1,G1,h1,w1,s1⟩:=w.wm.step hC Y hk;have w2:WW X T n M s0 (K+1) {s with R:=s.R.step Ab k} A1 G1 h1 ms:=⟨w1,w.ai.step s1 hb,w.sm,w.so,w.bl,w.al⟩;obtain⟨A',G',h',w3⟩:=ih w2 hb Y;exact⟨A',G',h',by rw[show K+(n'+1:Nat)=K+1+n' by omega];exact w3⟩
theorem dh {K:Int} {R:Am} {A:AM} {h:GH} {ms:List ti} (w:WM X T n M s0 K R A G h ms):DX T R=F3 T ⟨h.Du,λt=>(A.th t).out,λt=>(A.th t).st⟩:=by
 have:=hC;unfold DX F3;refine List.map_congr_left λt ht=>?_
 rw[J6] at ht;have:=w.abs.th t ht;rw[this.out,this.st]
theorem WW.IV {n':Nat} (hk:k<T) {s:fB} (w:WW X T n M s0 K s A G h ms) (hb:n'=0\/s.bg.getD k I=V) (hK:K+n'<1000000000000000000):∃A' G' h' ms',WW X T n M s0 (K+n') (mvP Ab T k n' s) A' G' h' ms':=by
 have h1:∃A' G' h',WW X T n M s0 (K+n') {s with R:=s.R.IV Ab k n'} A' G' h' ms:=by
  unfold Am.IV;by_cases h0:n'=0
  .subst h0;rw[Jd rfl];obtain⟨A',w1,e1⟩:=w.wm.Ck hC Y hk;exact⟨A',G,h,by rw[show K+(0:Nat)=K by omega];exact⟨w1,w.ai.Ck e1,w.sm,w.so,w.bl,w.al⟩⟩
  .rw[In h0];exact w.Ajz hC hk n' (hb.resolve_left h0) hK
 obtain⟨A',G',h',w1⟩:=h1;unfold mvP;by_cases hx:(s.R.th k).out.length<((s.R.IV Ab k n').th k).out.length\/((s.R.IV Ab k n').th k).An≠(s.R.th k).An
 .rw[Jd hx];refine⟨A',G',h',_,w1.wm.Ab0 hC,w1.ai,?_,?_,w1.bl,w1.al⟩
  .show s.ms++[DX T (s.R.IV Ab k n')]=_;rw[JH,<-w1.sm,List.map_singleton,<-dh hC w1.wm]
  .refine QV.2 ⟨w1.so,List.pairwise_singleton _ _,λa ha b hb=>?_⟩;rw[GE] at hb;rw[hb];exact(w1.wm.mo a ha).1
 .rw[In hx];exact⟨A',G',h',ms,w1⟩
theorem WW.AjH {s:fB} (w:WW X T n M s0 K s A G h ms) (p:Int) (hp:(Li p).2<=40) (hK:K+40<1000000000000000000):∃K' A' G' h' ms',K'<=K+40/\WW X T n M s0 K' (V2 Ab T p s) A' G' h' ms':=by
 unfold V2;by_cases ht:(Li p).1<T
 .rw[Jd ht];have h1:WW X T n M s0 K (vh T (Li p).1 (Li p).2 s) A G h ms/\((Li p).2=0\/(vh T (Li p).1 (Li p).2 s).bg.getD (Li p).1 I=V):=by
   unfold vh;by_cases hb:0<(Li p).2/\s.bg.getD (Li p).1 I=I
   .rw[Jd hb];refine⟨⟨w.wm,w.ai.begin ht w.bl w.al (λe he=>(w.wm.wa.wi.ev e he).1) hb.2 (λu hu hl=>?_),w.sm,w.so,by show(s.bg.set _ _).length=T;rw[Jp];exact w.bl,by show(s.ah.set _ _).length=T;rw[Jp];exact w.al⟩,.inr (by show(s.bg.set _ _).getD _ _=_;rw[B4 _ _ _ _ _ (by rw[w.bl];exact ht),Jd rfl])⟩;unfold Gg at hl;rw[Ja,JR,List.getElem?_range hu] at hl;have rU:(!decide ((s.R.th u).An=0) && decide ((s.R.th u).waits.length=0))=V:=hl;rw[JB] at rU;rw[<-(w.wm.abs.th u hu).st];simpa using rU.1
   .rw[In hb];refine⟨w,?_⟩;by_cases h0:(Li p).2=0
    .exact .inl h0
    .right;cases hbb:s.bg.getD (Li p).1 I with
     |true=>rfl
     |false=>exact Jk ⟨Y,hbb⟩ hb
  obtain⟨A',G',h',ms',w2⟩:=h1.1.IV hC ht h1.2 Y;exact⟨_,A',G',h',ms',Y,w2⟩
 .rw[In ht];exact⟨K,A,G,h,ms,Y,w⟩
theorem WW.watch:∀(l:List Int) {K:Int} {s:fB} {A:AM} {G:Nat->Gt} {h:GH} {ms:List ti},WW X T n M s0 K s A G h ms->(∀p,(Li p).2<=40)->K+40*J l<1000000000000000000->∃K' A' G' h' ms',WW X T n M s0 K' (Ny Ab T l s) A' G' h' ms':=by
 intro l;induction l with
 |nil=>intro K s A G h ms w _ _;exact⟨K,A,G,h,ms,w⟩
 |cons p l ih=>
  intro K s A G h ms w hp hK;rw[Jg] at hK;obtain⟨K1,A1,G1,h1,ms1,e1,w1⟩:=w.AjH hC p (hp p) Y;exact ih w1 hp Y
end
section
theorem gi {ah:List (List Bool)}:∀{F F':Nat} {rs:List RR} {cs:List Int} {ms:List (List Cq)},F<=F'->DL P ah F rs cs ms=V->DL P ah F' rs cs ms=V:=by
 intro F;induction F with
 |zero=>intro F' rs cs ms _ h;cases h
 |succ F ih=>
  intro F' rs cs ms hle h;obtain⟨F'',rfl⟩:∃k,F'=k+1:=⟨F'-1,Y⟩;unfold DL at h⊢;split at h
  .rfl
  .rename_i Du rest hd;split at h
   .cases h
   .rename_i hb;rw[In hb];rw[Qp] at h⊢;obtain⟨t,ht,h1⟩:=h;refine⟨t,ht,?_⟩;rw[JB] at h1⊢;exact⟨h1.1,ih Y h1.2⟩
theorem PZ {α:Type} (x d:α) (ht:t<n):(List.replicate n x).getD t d=x:=by
 rw[Ja,QF,Jd ht];rfl
variable {y:qL} {p:RP} (h:PS y p)
include h
theorem AgA (ht:t<J y.Aa):(IQ y t).k.C7=I/\NP y.cells (IQ y t).R (.rest (IQ y t).s (IQ y t).k):=⟨rfl,(Sx h _ (Vl ht)).1,trivial⟩
theorem Aap:∃G,WM (Oy y) (J y.Aa) y.cells.toNat 54790 (IQ y) 0 (R0 y) A0 G ⟨[],λ_=>0,λ_=>0,0⟩ []/\∀t,t<J y.Aa->∃q',G t=DN q'/\IC D9 (IQ y t) q':=by
 obtain⟨G,hi,hG⟩:=start h;have hC:=T7 h;have hpd:∀t,t<J y.Aa->Dt (G t)=I/\ET (G t)=I:=λt ht=>by
  obtain⟨q',e,_⟩:=hG t ht;rw[e];exact⟨Sg q',P7 q'⟩
 have hh:∀t,t<J y.Aa->B6 (G t)=D9/\AL y.cells.toNat (G t)=[]:=λt ht=>by
  obtain⟨q',e,_⟩:=hG t ht;have:=EK y.cells.toNat q';rw[e];exact⟨this.1,this.2.1⟩
 have wm:WM (Oy y) (J y.Aa) y.cells.toNat 54790 (IQ y) 0 (R0 y) A0 G ⟨[],λ_=>0,λ_=>0,0⟩ []:=by
  refine⟨hi.abs,⟨hi.l1,⟨⟨λc hc _=>⟨0,0,.inr ⟨rfl,rfl,λe he=>by cases he⟩,rfl,rfl⟩,λt c lv ht hc hv=>?_,λt c u ht hc hu=>?_,λt ht=>?_⟩,λw h1 h2=>?_,λw w' h1 h2 h3=>?_,λe e' he=>(by cases he),λe he=>(by cases he),λt ht hp=>(by rw[(hpd t ht).1] at hp;cases hp),λt ht ha=>(by rw[(hpd t ht).2] at ha;cases ha)⟩,λt ht=>?_,λt ht hx=>Jk rfl hx⟩,λm hm=>(by cases hm),.nil,λe he=>(by cases he)⟩
  .have Xu:B6 (G t) c=U lv:=hv;rw[(hh t ht).1] at Xu;cases Xu
  .unfold Ke at hu;rw[(hh t ht).2] at hu;cases hu
  .unfold Ke;rw[(hh t ht).2];exact DOk.nil _
  .have h2':w<=0:=h2;omega
  .have h3':w'<=0:=h3;omega
  .obtain⟨q',e,k⟩:=hG t ht;rw[e];have:=U9 (t:=t) (s0:=IQ y t) (E:=[]) (o:=[]) .nil k.Afp (k.C7.trans rfl);rw[k.AeQ rfl] at this;exact this
 exact⟨G,wm,hG⟩
omit h in
theorem AdX (hG:∀t,t<J y.Aa->∃q',G t=DN q'/\IC D9 (IQ y t) q'):vN (J y.Aa) A0 G ⟨[],λ_=>0,λ_=>0,0⟩ (List.replicate (J y.Aa) I) (List.replicate (J y.Aa) (List.replicate (J y.Aa) I)):=by
 refine⟨λt ht _=>⟨λe he=>(by cases he),?_,rfl⟩,λt u ht hu XR=>?_⟩
 .obtain⟨q',e,_⟩:=hG t ht;rw[e];exact P7 q'
 .rw[PZ _ _ ht,PZ _ _ hu] at XR;cases XR
theorem Aal:∃G h0 ms,WW (Oy y) (J y.Aa) y.cells.toNat 54790 (IQ y) 0 ⟨R0 y,List.replicate (J y.Aa) I,[DX (J y.Aa) (R0 y)],List.replicate (J y.Aa) (List.replicate (J y.Aa) I)⟩ A0 G h0 ms:=by
 obtain⟨G,wm,hG⟩:=Aap h;refine⟨G,_,_,wm.Ab0 (T7 h),AdX hG,?_,List.pairwise_singleton _ _,J1,J1⟩;show[DX (J y.Aa) (R0 y)]=_;rw[JF,List.map_singleton,<-dh (T7 h) wm]
theorem vZ (ht:t<J y.Aa) {m:Nat} {r:RR} {E:List Ev} (hr:Fl (p.Aa.getD t []) m .start r):Tw (p.Aa.getD t []) y.cells (IQ y t) E t 0 r:=by
 have e:p.Aa.getD t []=Ca (y.Aa.getD t .nil) 0 0:=by
  rw[h.Aa,Ja,JR,Ja,Jb ht];rfl
 rw[e] at hr⊢;have hF:FT E 0=[]:=by unfold FT;rw[List.filter_eq_nil_iff];intro e _;simp
 have h0:FI (Ca (y.Aa.getD t .nil) 0 0) 0 (λ_=>0) [] (IQ y t) .start []:=
  ⟨⟨λj x hx=>by show(Ca _ 0 0)[0+j]?=_;rw[JU];exact hx,by show 0+Dh _=_;rw[CX,JU];rfl⟩,rfl,λi hi=>by match i,hi with|0,_=>rfl|1,_=>rfl|2,_=>rfl|3,_=>rfl,rfl,trivial,rfl,rfl,rfl,λc hc=>Jk hc (NE c)⟩
 obtain⟨w1,w2⟩:=AgA h ht;obtain⟨q3,k3,e3⟩:=Ml _ (Jf _) w2 w1;obtain⟨m',u,b1,b2,b3,b4,b5,b6,_⟩:=Ym k3 h0 w2 w1 e3 (cY (Sx h _ (Vl ht)).2);obtain⟨rfl,_⟩:=hr.WK b1;refine .inl ⟨IQ y t,[],0,q3,by rw[hF];exact .nil,k3,b2,b3,?_⟩;rcases e3 with e3|e3|⟨x,e3⟩
 .exact .inl ⟨e3,b4 e3⟩
 .exact .inr (.inr ⟨e3,(b6 e3).1⟩)
 .exact .inr (.inl ⟨x,e3,b5 x e3⟩)
theorem ay (l:List Int) (hl:J l<=1000000) {rs:List RR} (FQ:J rs=J y.Aa) (bT:∀t,t<J y.Aa->∃m,Fl (p.Aa.getD t []) m .start (rs.getD t .start)):
  ∃F0,∀F,F0<=F->DL p.Aa (Ny (VI y) (J y.Aa) l ⟨R0 y,List.replicate (J y.Aa) I,[DX (J y.Aa) (R0 y)],List.replicate (J y.Aa) (List.replicate (J y.Aa) I)⟩).ah F rs (List.replicate y.cells.toNat 0)
   (Ny (VI y) (J y.Aa) l ⟨R0 y,List.replicate (J y.Aa) I,[DX (J y.Aa) (R0 y)],List.replicate (J y.Aa) (List.replicate (J y.Aa) I)⟩).ms=V:=by
 obtain⟨G,h0,ms,w0⟩:=Aal h;have hC:MCx (Oy y) (J y.Aa) y.cells.toNat (VI y):=T7 h;obtain⟨K',A',G',h',ms',w⟩:=WW.watch hC l w0 (λp=>(vr p).2) Y;have Tj:∀t,t<J y.Aa->(IQ y t).k.C7=I/\NP y.cells (IQ y t).R (.rest (IQ y t).s (IQ y t).k):=λt ht=>AgA h ht
 have ev:=AiO (cells:=y.cells) w.wm Tj;refine⟨left h'.E (λ_=>0)+1,λF hF=>gi hF ?_⟩;rw[w.sm];refine kZ ev rfl (Alu w.wm (λt ht=>(Tj t ht).1) w.ai p.Aa) _ (JG _) ⟨FQ,λt ht=>?_,J1,⟨λ_=>0,λc hc=>?_,λc=>⟨0,.inr ⟨rfl,rfl,λe he=>?_⟩⟩⟩,λe e' _ _ h1=>Jk h1 (NE _),w.so,λm hm t ht=>((w.wm.mo m hm).2 t ht).ok,λm hm e he h1=>Jk h1 (NE _)⟩
 .obtain⟨m,hm⟩:=bT t ht;exact vZ h ht hm
 .exact PZ _ _ hc
 .exact Jk (GJ.1 he).2 (NE _)
end
section
section
variable {X:Nat->Cx} {T n M:Nat} {s0:Nat->KS} {Ab:Nat->List GI} (hC:MCx X T n Ab) {ms:List ti} {bg:List Bool} {ah:List (List Bool)} {k:Nat} (hk:k<T) (hb:bg.getD k I=V)
include hC hk hb
end
structure AoA (y:qL) (dn todo:List Nat) (K:Int) (R:Am) (A:AM) (G:Nat->Gt) (h:GH) (bg:List Bool) (ah:List (List Bool)):Prop where
 wm:WM (Oy y) (J y.Aa) y.cells.toNat 54790 (IQ y) K R A G h []
 ai:vN (J y.Aa) A G h bg ah
 bl:J bg=J y.Aa
 al:J ah=J y.Aa
 sw:∀t,t<J y.Aa->(R.th t).waits=[]
 new:∀t,t<J y.Aa->t∈todo->bg.getD t I=I/\∃q',G t=DN q'/\IC D9 (IQ y t) q'
 old:∀t,t<J y.Aa->t∉todo->(A.th t).st≠0/\bg.getD t I=V
 dm:∀t,t∈dn->t<J y.Aa/\t∉todo
 ord:dn.Pairwise λa b=>(ah.getD b []).getD a I=V
variable {y:qL} {p:RP} (hp:PS y p)
include hp
end
inductive vt (l:List Nd):RR->List Int->RR->List Int->Prop
 |done {r:RR} {cs:List Int} (h:r.An≠0):vt l r cs r cs
 |step {r r1 r2:RR} {cs cs1 cs2:List Int} (h:r.An=0) (b:I2 l r cs r1 cs1) (k:vt l r1 cs1 r2 cs2):vt l r cs r2 cs2
inductive Ajb (P:List (List Nd)) (show_:Nat->List Int->Int->Prop):List Nat->List Int->Prop
 |nil (cs:List Int):Ajb P show_ [] cs
 |cons {t m:Nat} {o:List Nat} {r u:RR} {cs cs':List Int} (h:Fl (P.getD t []) m .start r) (k:vt (P.getD t []) r cs u cs') (s:show_ t u.Al u.An) (z:Ajb P show_ o cs'):Ajb P show_ (t::o) cs
section
variable {T n:Nat} {cells:Int} {s0:Nat->KS} {σ:Int->Nat} {N:Int} {E:List Ev} (ev:Evs T n cells s0 σ N E) (hn:n=cells.toNat)
include ev hn
end
section
variable {y:qL} {p:RP} (h:PS y p)
include h
end
section
theorem YK (h:∀j,j<J a->j<J b->a.getD j 0=b.getD j 0):a.take (J b)=b.take (J a):=by
 apply List.ext_getElem
 .rw[Qv,Qv,Nat.min_comm]
 .intro j h1 h2;rw[Qv] at h1 h2;rw[List.getElem_take,List.getElem_take];have:=h j Y Y;rwa[Ja,Ja,Jb Y,Jb Y] at this
theorem W6 (ha:j<J a) (hb:j<J b) (h:a.getD j 0≠b.getD j 0):a.take (J b)≠b.take (J a):=λe=>h (by
  have:=JM (λl=>l[j]?) e;simp only[jV] at this;rw[Jd hb,Jd ha] at this;rw[Ja,Ja,this])
variable {r:RR} {s:Cq}
theorem yV (h:¬(r.Bq<=J s.Al/\J s.Al<=J r.Al)):r.Ul s=I:=by
 unfold RR.Ul;by_cases h1:r.Bq<=J s.Al
 .rw[Ju (show¬J s.Al<=J r.Al from λh2=>h ⟨h1,h2⟩),UV];rfl
 .rw[Ju h1];rfl
theorem nf (hl:J s.Al<=J r.Al) (hj:j<J s.Al) (h:s.Al.getD j 0≠r.Al.getD j 0):r.Ul s=I:=by
 have:=W6 hj Y h;rw[JV hl] at this;unfold RR.Ul;rw[Ju this,UV];rfl
theorem yW (h1:r.Bq<=J s.Al) (hl:J s.Al<=J r.Al) (h:∀j,j<J s.Al->s.Al.getD j 0=r.Al.getD j 0):r.Ul s=(decide (s.An=0) || (decide (s.An=r.An) && decide (J s.Al=J r.Al))):=by
 have:=YK (a:=s.Al) (b:=r.Al) λj a _=>h j a
 rw[JV hl] at this;unfold RR.Ul;rw[JC h1,JC hl,JC this];rfl
theorem pM (h:J s.Al<r.Bq):r.parts s=V:=by unfold RR.parts;rw[JC h];rfl
theorem gy (h1:j<J r.Al) (h2:j<J s.Al) (h:s.Al.getD j 0≠r.Al.getD j 0):r.parts s=V:=by
 unfold RR.parts;rw[Ju (W6 h2 h1 h),Bool.or_comm];rfl
theorem pN (h1:¬J s.Al<r.Bq) (h:∀j,j<J r.Al->j<J s.Al->s.Al.getD j 0=r.Al.getD j 0):r.parts s=I:=by
 unfold RR.parts;rw[Ju h1,JC (YK λj a b=>h j b a)];rfl
theorem Alr (h:∀t,t<n->p t=V):(List.range n).all p=V:=J3.2 λt ht=>h t (J6.1 ht)
theorem vo (ht:t<n) (h:p t=I):(List.range n).all p=I:=List.all_eq_false.2 ⟨t,J6.2 ht,by rw[h];exact i5⟩
theorem Ai7 (ht:t<n) (h:p t=V):(List.range n).any p=V:=Qp.2 ⟨t,J6.2 ht,h⟩
theorem vm (h:∀t,t<n->p t=I):(List.range n).any p=I:=List.any_eq_false.2 λt ht=>by rw[h t (J6.1 ht)];exact i5
end
theorem YQ:∀{l:List Nat} {t v:Nat},t<J l->v<l.getD t 0->(l.set t v).sum<l.sum
 |[],_,_,h,_=>Jk h (NE _)
 |a::l,0,v,_,h=>by
  have h':v<a:=h;show v+l.sum<a+l.sum;omega
 |a::l,t+1,v,h,h2=>by
  have:=YQ (l:=l) (t:=t) (v:=v) (by simpa using h) (by simpa using h2);show a+(l.set t v).sum<a+l.sum;omega
def SrT (P:List (List Nd)) (n:Nat):Nat->List RR->Prop
 |0,_=>False
 |F+1,rs=>∀t,t<J rs->(rs.getD t .start).An=0->∀cs:List Int,J cs=n->∃u cs',I2 (P.getD t []) (rs.getD t .start) cs u cs'/\J cs'=n/\J u.Al<=60000/\SrT P n F (rs.set t u)
theorem Ahp {cells:Int} (hn:n=cells.toNat):∀(F:Nat) {rs:List RR} {f:List Nat},J f=J rs->(∀t,t<J rs->∃q,Thr (P.getD t []) cells q (rs.getD t .start)/\C9 q<=f.getD t 0)->f.sum<F->SrT P n F rs:=by
 intro F;induction F with
 |zero=>intro rs f _ _ h;omega
 |succ F ih=>
  intro rs f hfl hq hF t ht h0 cs Ns;obtain⟨q,⟨h1,_⟩,h3⟩:=hq t ht;obtain⟨u,cs',q',b1,b2,b3,b4⟩:=Ai2 hn (h1.resolve_left λh=>h h0) Ns;have:=YQ (l:=f) (t:=t) (v:=C9 q') Y Y;refine⟨u,cs',b1,b2,b3.2,ih (f:=f.set t (C9 q')) (by rw[Jp,Jp];exact hfl) (λs hs=>?_) Y⟩;rw[Jp] at hs;rw[B4 _ _ _ _ _ ht,B4 _ _ _ _ _ Y];by_cases e:s=t
  .subst e;rw[Jd rfl,Jd rfl];exact⟨q',b3,Jf _⟩
  .rw[In e,In e];exact hq s hs
noncomputable def aK (P:List (List Nd)) (ah:List (List Bool)) (F:Nat) (rs:List RR) (cs:List Int) (Du:List Cq) (rest:List (List Cq)) (t:Nat):Bool:=
 U8 rs (ah.getD t []) && decide ((rs.getD t .start).An=0) && decide ((rs.getD t .start).Al.length<=(Du.getD t ⟨[],0⟩).Al.length) &&
  DL P ah F (rs.set t (zw (P.getD t []) (rs.getD t .start) cs).1) (zw (P.getD t []) (rs.getD t .start) cs).2 (Du::rest)
section
variable {P:List (List Nd)} {ah:List (List Bool)} {F:Nat} {rs:List RR} {cs:List Int} {ms:List (List Cq)} {Du:List Cq} {rest:List (List Cq)}
theorem pC (hd:ms.dropWhile (F4 rs)=[]):DL P ah (F+1) rs cs ms=V:=by unfold DL;rw[hd]
theorem Y0 (hd:ms.dropWhile (F4 rs)=Du::rest) {CF:List Cq} (hl:(Du::rest).getLast (j6 _ _)=CF) (hb:iA rs Du CF=V):DL P ah (F+1) rs cs ms=I:=by
 unfold DL;rw[hd];simp only[];rw[hl,Jd hb]
theorem wJ (hd:ms.dropWhile (F4 rs)=Du::rest) {CF:List Cq} (hl:(Du::rest).getLast (j6 _ _)=CF) (hb:iA rs Du CF=I):DL P ah (F+1) rs cs ms=(List.range (J rs)).any (aK P ah F rs cs Du rest):=by
 unfold DL;rw[hd];simp only[];rw[hl,In (by rw[hb];exact i5)];rfl
end
section
variable {P:List (List Nd)} {ah:List (List Bool)} {F:Nat} {rs:List RR} {cs:List Int} {Du:List Cq} {rest:List (List Cq)} {t:Nat}
theorem iy (h:U8 rs (ah.getD t [])=I\/(rs.getD t .start).An≠0\/(Du.getD t ⟨[],0⟩).Al.length<(rs.getD t .start).Al.length):aK P ah F rs cs Du rest t=I:=by
 unfold aK;rcases h with h|h|h
 .rw[h];rfl
 .rw[Ju h,UV];rfl
 .rw[Ju (show¬(rs.getD t .start).Al.length<=(Du.getD t ⟨[],0⟩).Al.length by omega),UV];rfl
theorem Af7 {u:RR} {cs':List Int} (h1:U8 rs (ah.getD t [])=V) (h2:(rs.getD t .start).An=0) (h3:¬(Du.getD t ⟨[],0⟩).Al.length<(rs.getD t .start).Al.length) (hb:I2 (P.getD t []) (rs.getD t .start) cs u cs'):aK P ah F rs cs Du rest t=DL P ah F (rs.set t u) cs' (Du::rest):=by
 unfold aK;rw[vg hb,h1,JC h2,JC (show(rs.getD t .start).Al.length<=(Du.getD t ⟨[],0⟩).Al.length by omega)];rfl
end
theorem eS {m:Nat} (h:k+m=J ms) (hm:0<m):ms.drop k=ms.getD k []::ms.drop (k+1):=by
 rw[JS Y,Ja,Jb Y];rfl
theorem zg {z:Nat} (h:k+(z+1)=J ms):(ms.getD k []::ms.drop (k+1)).getLast (j6 _ _)=ms.getD (k+z) []:=by
 have h1:∀(l:List (List Cq)) (h0:l≠[]),l=ms.drop k->l.getLast h0=ms.getD (k+z) []:=λl h0 e=>by
  subst e;have hl:(ms.drop k).length=z+1:=by rw[WP];omega
  rw[List.getLast_eq_getElem,List.getElem_drop,Ja,Jb Y];simp only[hl,f8,Qq]
 exact h1 _ _ (eS h (Nat.succ_pos _)).symm
inductive Aja (l:List Nd):Nat->RR->List Int->RR->List Int->Prop
 |done {r:RR} {cs:List Int} (h:r.An≠0):Aja l 0 r cs r cs
 |step {k:Nat} {r r1 r2:RR} {cs cs1 cs2:List Int} (h:r.An=0) (b:I2 l r cs r1 cs1) (z:Aja l k r1 cs1 r2 cs2):Aja l (k+1) r cs r2 cs2
theorem Mh:∀(s:Bj) {cells:Int} {d:Nat} {i:Bool},WF cells s d i->Dh s<=AW s
 |.nil,_,_,_,_=>Jf _
 |.set _ _ _ _ r,_,_,_,h=>by have:=Mh r h.2.2.2.2;simp only[Dh,AW];omega
 |.get _ _ _ _ r,_,_,_,h=>by have:=Mh r h.2.2.2.2;simp only[Dh,AW];omega
 |.put _ _ _ _ r,_,_,_,h=>by have:=Mh r h.2.2.2.2;simp only[Dh,AW];omega
 |.out _ r,_,_,_,h=>by have:=Mh r h.2;simp only[Dh,AW];omega
 |.atomic b r,_,_,_,h=>by have:=Mh b h.2.2.1;have:=Mh r h.2.2.2;simp only[Dh,AW];omega
 |.Ew _ b r,_,_,_,h=>by have:=Mh b h.2.2.1;have:=Mh r h.2.2.2;simp only[Dh,AW];omega
 |.loop n b r,_,_,_,h=>by
  have h1:=Mh b h.2.2.1;have h2:=Mh r h.2.2.2;have h3:=h.1;obtain⟨m,hm⟩:∃m,n.toNat=m+1:=⟨n.toNat-1,Y⟩;simp only[Dh,AW];rw[hm,jC];omega
