/-
  Part 40 of the proof.
-/
import Derived.Test.YtpdfifdlhpmofaaGreatDoorZ39
import Derived.Test.YtpdfifdlhpmofaaGreatDoorZ35
set_option linter.unusedVariables false
set_option linter.unusedSimpArgs false
set_option maxHeartbeats 3200000
set_option maxRecDepth 100000
namespace Go.Proofs.YtpdfifdlhpmofaaGreatDoor
open Go.RowKit
open Go.Lib (hid)
theorem nac {p:Prop} (h:p:=by
 intro d i n b o hw hn h;obtain⟨h0,h1,h2⟩:=ih d i n b o hw.2.2.2.2 hn h;refine⟨h0,fun hi=>by simp only[B9,Lb,h1 hi],fun hi=> ?_⟩;have:=h2 hi;simp only[B9,Lb];push_cast;rw[Qa7,Qa7];omega):p:=h
theorem nah {p:Prop} (h:p:=by
 refine⟨A,_,.nil A,.ev AD hi rfl rfl (fun h=>by cases h),?_⟩;unfold Al.Di;rw[set_set];refine h.set hB hT hk ?_;obtain⟨a1,a2,a3,a4,a5,a6,a7,a8,a9⟩:=hK;exact⟨by show(M.th k).pc+1=(A.th k).lt.pc+1;rw[a1],a2,a3,a4,a5,a6,a7,rfl,a9⟩):p:=h
theorem nai {p:Prop} (h:p:=by
 have h3:=p1 d hd;have h4:=p4 d hw.2.1;have h5:60*((4 ^ (3 - (d+1)):Nat):Int)*Iw b<=60*((4 ^ (3 - d):Nat):Int)*Iw b:=Int.mul_le_mul_of_nonneg_right Y (Qj b);simp only[Lb,Iw];rw[Qa7,Qa7];omega):p:=h
theorem naj {p:Prop} (h:p:=by
 exact⟨j+1,B,Y,by rw[show i+(j+1)=i+1+j by omega];exact hb,h⟩):p:=h
theorem nam {p:Prop} (h:p:=by
 split at he
 ·obtain⟨h1,_,_,h2,_⟩:=aP _ _ _ he;exact⟨h1,no (by rw[h2];show(115:Nat)≠103;decide) (by rw[h2];show(115:Nat)≠112;decide)⟩
 ·cases he):p:=h
theorem nar {p:Prop} (h:p:=by
 rw[h] at Ca;cases Ca;refine⟨rfl,⟨fun _=>Db.YQ (by unfold NV;rw[h]),fun c lv h2=> ?_⟩,.inl QF⟩;cases h2;exact(hvw _).symm):p:=h
theorem naw {p:Prop} (h:p:=by
 show(M.th k).pc+1=(A0.th k).lt.pc+1;rw[iO]):p:=h
theorem nax {p:Prop} (h:p:=by
 unfold Al.Pv;rw[aY,hp];show Al.wv ((M.CG k).th k).waits ((M.CG k).mem.getD _ 0) _=_;rw[e1];exact h0.sm n hc):p:=h
theorem naF {p:Prop} (h:p:=by
 rw[h] at Ca;cases Ca;exact⟨rfl,Cl.kp (Db.YQ (by unfold NV;rw[h])) r.kp,.inl QF⟩):p:=h
theorem naG {p:Prop} (h:p:=by
 exact⟨cD (gm hg hi hT) _,by trivial,by trivial,fun _=>⟨⟨_,hf,hz⟩,ht⟩⟩):p:=h
variable {c T t k q n:Nat} {Tk mv:Nat->Prop} {sm:Nat->Int} {A A' B:AM} {G:Nat->Gt} {X:Nat->Cx} {M R:Al} {K Ac a cells:Int} {α:Type} {mem f z:List Int} {rt:C9} {s:AT} {p:RP} {r:RS}
section
def NV (g:Gt):Bool:=match g.ph with
 | .JF _=>true
 | .JE .. =>true
 | .JS .. =>true
 | .SS _=>true
 | .QY .. =>true
 | .xa=>true
 | .lo _=>true
 | _=>false
def iw (g:Gt):Option (Nat×Int):=match g.ph with
 | .JE c lv=>some (c,lv)
 | .JS c lv _=>some (c,lv)
 | .QY c lv=>some (c,lv)
 | _=>none
variable {n:Nat} {g g':Gt}
theorem V6 (q:KS):NV (EV q)=false:=by
 have:EV q=⟨.Pm,q,q,GP,GP,0,0⟩\/EV q=⟨.node,q,q,GP,GP,0,0⟩:=by
  unfold EV;split
  ·exact .inl rfl
  ·exact .inr rfl
 rcases this with e | e <;>rw[e] <;>rfl
theorem Ls.NV {i:Nat} (h:Ls g i g'):NV g'=false:=by
 cases h with
 | te _=>rfl
 | out q' _ _=>exact V6 q'
theorem Mq.NV (h:Mq n g c g'):NV g'=false:=by
 cases h with
 | fr _ _ _ _ _=>rfl
 | stop g' _ k=>exact k.NV
theorem Tw.NV (h:Tw n g c g'):NV g'=false:=by
 cases h with
 | pu _ _ _ _ _=>rfl
 | stop g' _ k=>exact k.NV
theorem GB.NV (h:GB n g c g'):NV g'=false:=by cases h <;>rfl
def Kp (g g':Gt):Prop:=NV g'=false\/(g'.rv=g.rv/\g'.Bp=g.Bp/\iw g'=none)
theorem Lt.kp (h:Lt n g c g'):Kp g g':=by
 cases h with
 | lo _ _ _ _ _=>exact .inr ⟨rfl,rfl,rfl⟩
 | stop g' _ k=>exact .inl k.NV
theorem Mp.kp (h:Mp n g c g'):Kp g g':=by cases h <;>exact .inr ⟨rfl,rfl,rfl⟩
theorem jK.kp {b:Bt} (h:jK n b g g'):Kp g g':=by
 cases h with
 | EF _ _ _=>exact .inl rfl
 | get _ _ _=>exact .inr ⟨rfl,rfl,rfl⟩
 | UA q' g' _ _ _ h=>exact h.kp
 | GD q' g' _ _ _ h=>exact .inl h.NV
structure Cl (n:Nat) (Tk:Nat->Prop) (sm:Nat->Int) (g:Gt):Prop where
 YQ:NV g=true->∀c,c < n->Tk c->g.Bp c=none->∃w,sm (8+c)=2*w/\0<=w/\w<=g.rv
 AW:∀c lv,iw g=some (c,lv)->sm (8+c)=lv
theorem Cl.ina (h:NV g=false):Cl n Tk sm g:=by
 refine⟨fun h2=>(by rw[h] at h2;cases h2),fun c lv h2=> ?_⟩;unfold iw at h2;unfold NV at h;split at h2 <;>rename_i hp <;>simp[hp] at h;cases h2
theorem Cl.kp (h:∀c,c < n->Tk c->g.Bp c=none->∃w,sm (8+c)=2*w/\0<=w/\w<=g.rv) (hk:Kp g g'):Cl n Tk sm g':=by
 rcases hk with hk | ⟨h1,h2,h3⟩
 ·exact Cl.ina hk
 ·exact⟨fun _ c hc ht hl=>by rw[h1];exact h c hc ht (by rw[<-h2];exact hl),fun c lv h4=>by rw[h3] at h4;cases h4⟩
theorem z8 {x:Cx} (h6:n<=6) (hxn:x.n=n) (ht:t < T) (hl:LK T n A.sm (A.sm 16) (fun u=>DK (G u)) fun u=>(A.th u).sw++Ba n (G u)) (QF:(A.th t).sw=[])
  (ho:∀u,u < T->u≠t->∀c,c < n->Tk c->DK (G u) c=none/\∀v,(8+c,v)∉(A.th u).sw++Ba n (G u)) (hg:TG Tk Tk (G t)) (Db:Cl n Tk A.sm (G t)) {lt:LT} (ha:Sw x (G t) lt) {e:Ek} {bad:Bool} (he:UL (G t)=some e) (hn:Nx n (G t) (vE A.sm (A.th t).sw e) bad g'):
  bad=false/\Cl n Tk (mE A.sm e) g'/\((tE A.sm (A.th t) e).sw=[]\/NV g'=false):=by
 obtain⟨c1,c2,c3⟩:=Xe ha hg;obtain⟨k1,k2,k3,k4,k5,k6⟩:=jC ha;have Ca:=he;unfold UL at Ca;have UG:∀c,(G t).ph= .JF c\/(G t).ph= .SS c\/(G t).ph= .lo c->c < n:=fun c hc=>by
  have u6:=ha;unfold Sw at u6;rw[<-hxn];rcases hc with hc | hc | hc <;>rw[hc] at u6
  ·obtain⟨b,s,ab,p0,v,r,hg,_⟩:=u6;exact hg.NX.lt
  ·exact u6.1
  ·exact u6.1
 have IU:∀c,((G t).ph= .JF c\/(G t).ph= .SS c\/(G t).ph= .lo c)->(G t).Bp c=none:=fun c hc=>by
  have AX:=UG c hc;have u6:=ha;unfold Sw at u6;rcases hc with hc | hc | hc <;>rw[hc] at u6
  ·obtain⟨b,s,ab,p0,v,r,hg,_⟩:=u6;rw[hg.Bp];rfl
  ·have:=u6.2.2.1 c (by rw[hxn];exact AX);rw[Qal Y] at this;cases h:(G t).Bp c with
   | none=>rfl
   | some v=>rw[h] at this;cases this
  ·have:=u6.2.2.1;cases h:(G t).Bp c with
   | none=>rfl
   | some v=>rw[h] at this;cases this
 have hvw:∀a,vw (A.th t).sw (A.sm a) a=A.sm a:=fun a=>by rw[QF];rfl
 cases hn with
 | out h q' k=>
  refine⟨rfl,Cl.ina (V6 q'),.inr (V6 q')⟩
 | Pm h h0 _ r=>
  rw[h] at Ca;cases Ca;refine⟨rfl,Cl.kp (fun c hc PB _=> ?_) r.kp,.inl QF⟩;have hv:vE A.sm (A.th t).sw (.ld 1 16)=A.sm 16:=hvw 16;show∃w,A.sm (8+c)=2*w/\0<=w/\w<=vE A.sm (A.th t).sw (.ld 1 16);rw[hv];refine hl.free c hc fun u hu=> ?_
  by_cases fN:u=t
  ·subst fN;refine⟨by show DK (G u) c=none;rw[Hh (by unfold Eh;rw[h])];rfl,fun v hv=> ?_⟩;have:(8+c,v)∈(A.th u).sw++Ba n (G u):=hv;rw[QF,show Ba n (G u)=[] by unfold Ba;rw[h]] at this;cases this
  ·exact ho u hu fN c hc PB
 | JF h hv=>
  exact nar
 | Zl h hv _ r=>
  rename_i c;rw[h] at Ca;cases Ca;refine UV ?_ hv;have:=Db.YQ (by unfold NV;rw[h]) c (UG c (.inl h)) (c1 c (.inl h)) (IU c (.inl h));rw[<-hvw] at this;exact this
 | JE h=>
  rw[h] at Ca;cases Ca;refine⟨rfl,⟨fun _=>Db.YQ (by unfold NV;rw[h]),fun c lv h2=> ?_⟩,.inl QF⟩;cases h2;exact Db.AW _ _ (by unfold iw;rw[h])
 | JS h hv h0 _ r=>
  exact naF
 | Zk h hv _ r=>
  rename_i c lv y;rw[h] at Ca;cases Ca;exact UV ((hvw _).trans (Db.AW c lv (by unfold iw;rw[h]))) hv
 | SS h hv=>
  exact nar
 | nZ h hv _ r=>
  rename_i c;rw[h] at Ca;cases Ca;refine UV ?_ hv;have:=Db.YQ (by unfold NV;rw[h]) c (UG c (.inr (.inl h))) (c2 c (.inl h)) (IU c (.inr (.inl h)));rw[<-hvw] at this;exact this
 | QY h hv _ r=>
  rename_i c lv;rw[h] at Ca;cases Ca;have Vd:A.sm (8+c)=lv:=Db.AW c lv (by unfold iw;rw[h]);have hm:mE A.sm (.JL 3 (8+c) lv (lv+1))=C5 A.sm (8+c) (lv+1):=by show(if _ then _ else _)=_;rw[In Vd]
  refine⟨rfl,Cl.kp (g:={G t with Bp:=F2 (G t).Bp c lv}) (fun d hd PB ek=> ?_) r.kp,.inl QF⟩;have bu:F2 (G t).Bp c lv d=none:=ek;unfold F2 at bu;split at bu
  ·cases bu
  ·rename_i QG;rw[hm,BN _ _ Y];exact Db.YQ (by unfold NV;rw[h]) d hd PB bu
 | nY h hv _ r=>
  rename_i c lv;rw[h] at Ca;cases Ca;have Vd:A.sm (8+c)=lv:=Db.AW c lv (by unfold iw;rw[h]);have Wy:(if A.sm (8+c)=lv then (1:Int) else 0)=0:=hv;rw[In Vd] at Wy;cases Wy
 | xa h _ r=>
  rw[h] at Ca;cases Ca;refine⟨rfl,Cl.kp (g:={G t with wv:=_}) (fun d hd PB ek=> ?_) r.kp,.inl QF⟩;show∃w,C5 A.sm 16 (A.sm 16+1) (8+d)=2*w/\_;rw[BN _ _ Y];exact Db.YQ (by unfold NV;rw[h]) d hd PB ek
 | lo h hv _ r=>
  exact naF
 | lob h hv _ r=>
  rename_i c;rw[h] at Ca;cases Ca;refine UV ?_ hv;have:=Db.YQ (by unfold NV;rw[h]) c (UG c (.inr (.inr h))) (c3 c h) (IU c (.inr (.inr h)));rw[<-hvw] at this;exact this
 | pu h _ r=>exact⟨rfl,Cl.ina r.NV,.inr r.NV⟩
 | fr h _ r=>exact⟨rfl,Cl.ina r.NV,.inr r.NV⟩
 | te h _ r=>exact⟨rfl,Cl.ina r.NV,.inr r.NV⟩
 | ba h _ r=>exact⟨rfl,Cl.ina r.NV,.inr r.NV⟩
inductive UX (X:Nat->Cx) (k:Nat):AM->AM->Prop
 | nil (A:AM):UX X k A A
 | cons {A B C:AM} (h:AS X A k true B) (r:UX X k B C):UX X k A C
structure pP (X:Nat->Cx) (T n M:Nat) (K:Int) (Tk:Nat->Prop) (A:AM) (G:Nat->Gt) (k:Nat):Prop where
 l1:L1 X T n M K A G
 tg:TG Tk Tk (G k)
 oth:∀u,u < T->u≠k->∀c,c < n->Tk c->DK (G u) c=none/\∀v,(8+c,v)∉(A.th u).sw++Ba n (G u)
def It (X:Nat->Cx) (k:Nat) (A A':AM):Prop:=∃A0 A1,UX X k A A0/\AS X A0 k false A1/\UX X k A1 A'/\(A'.th k).sw=[]
theorem L1.Aau {M:Nat} {K':Int} (h:L1 X T n M K A G) (hk:A.sm 16<=K'):L1 X T n M K' A G:=⟨h.th,h.pt,⟨h.c0.1,hk⟩,h.rv,h.lk,h.FB⟩
theorem Pp {fl:Bool} (h:AS X A k fl A'):∀u,u≠k->A'.th u=A.th u:=fun u hu=>by cases h <;>exact Ds _ _ hu
section
variable {X:Nat->Cx} {T M:Nat} {K:Int} {Tk:Nat->Prop} {k:Nat} (h6:n<=6) (hX:∀t,t < T->Ny (X t)/\(X t).n=n) (hk:k < T)
include h6 hX hk
theorem UX.l1 (f:UX X k A A'):L1 X T n M K A G->K < 1000000000000000000->L1 X T n M K A' G/\(A'.th k).lt=(A.th k).lt/\(A'.th k).st=(A.th k).st/\(A'.th k).out=(A.th k).out/\((A.th k).sw=[]->A'=A)/\∀u,u≠k->A'.th u=A.th u:=by
 induction f with
 | nil A=>intro h _;exact⟨h,rfl,rfl,rfl,fun _=>rfl,fun _ _=>rfl⟩
 | cons h r ih=>
  rename_i A B C;intro hs hK;obtain⟨g',hg,hl,vd⟩:=hs.step h6 hX hK hk h;have AbS:=Pp h;have KJ:g'=G k/\(B.th k).lt=(A.th k).lt/\(B.th k).st=(A.th k).st/\(B.th k).out=(A.th k).out/\(A.th k).sw≠[]:=by
   cases hg with
   | Cy QF=>refine⟨rfl,?_,?_,?_,by rw[QF];simp⟩ <;>simp only[BU]
  rw[KJ.1,FL] at hl;obtain⟨h2,h3,h4,h5,_,h7⟩:=ih (hl.Aau (by rw[vd rfl];exact hs.c0.2)) hK;exact⟨h2,h3.trans KJ.2.1,h4.trans KJ.2.2.1,h5.trans KJ.2.2.2.1,fun he=>UV he KJ.2.2.2.2,fun u hu=>(h7 u hu).trans (AbS u hu)⟩
theorem UX.sol (f:UX X k A A') (h:pP X T n M K Tk A G k) (hK:K < 1000000000000000000):pP X T n M K Tk A' G k/\(A'.th k).lt=(A.th k).lt/\(A'.th k).st=(A.th k).st/\((A.th k).sw=[]->A'=A):=by
 obtain⟨h1,h2,h3,_,h4,h5⟩:=f.l1 h6 hX hk h.l1 hK;exact⟨⟨h1,h.tg,fun u hu Bi c hc ht=>by rw[h5 u Bi];exact h.oth u hu Bi c hc ht⟩,h2,h3,h4⟩
theorem pP.go {A1:AM} (hs:pP X T n M K Tk A G k) (hK:K < 1000000000000000000) (h:AS X A k false A1) (h0:(A.th k).st=0):∃g',Us (X k) n A (G k) k false A1 g'/\pP X T n M (K+1) Tk A1 (Cv G k g') k:=by
 obtain⟨g',hg,hl,_⟩:=hs.l1.step h6 hX hK hk h;obtain⟨j,lt',_,ha,_⟩:=hs.l1.th k hk h0;have AbS:=Pp h;refine⟨g',hg,hl,?_,fun u hu Bi c hc ht=> ?_⟩
 ·rw[BU];cases hg with
  | Od _=>exact hs.tg
  | stop _ _=>exact hs.tg
  | ev he _ _ _ hn _ _ _=>
   obtain⟨c1,c2,c3⟩:=Xe ha hs.tg;exact hn.tg hs.tg (fun c lv y h=>c1 c (.inr (.inr ⟨lv,y,h⟩))) fun c lv h=>c2 c (.inr ⟨lv,h⟩)
 ·rw[AbS u Bi,Ds _ _ Bi];exact hs.oth u hu Bi c hc ht
theorem pP.it {m:Nat} (hs:pP X T n M K Tk A G k) (hK:K < 1000000000000000000 - 1) (h0:(A.th k).st=0) (hm:Tu (X k) m (A.th k).lt (G k)) (h:It X k A A'):
  (A'.th k).st≠0\/∃G',pP X T n M (K+1) Tk A' G' k/\(A'.th k).sw=[]/\((∃m',m=m'+1/\Tu (X k) m' (A'.th k).lt (G' k)/\((A.th k).sw=[]->Cl n Tk A.sm (G k)->Cl n Tk A'.sm (G' k)))\/
    (¬((A.th k).sw=[]/\Cl n Tk A.sm (G k))/\Cl n Tk A'.sm (G' k)/\Tu (X k) (M+67) (A'.th k).lt (G' k))):=by
 obtain⟨A0,A1,f0,AD,f1,QF⟩:=h;obtain⟨s0,e1,e2,e3⟩:=f0.sol h6 hX hk hs Y;rw[<-e1] at hm;have h00:=e2.trans h0;obtain⟨g',hg,s1⟩:=s0.go h6 hX hk Y AD h00;obtain⟨s2,e4,e5,e6⟩:=f1.sol h6 hX hk s1 Y;by_cases uU:(A1.th k).st=0
 ·right;refine⟨Cv G k g',s2,QF,?_⟩;rw[e4,BU];have zq:(A.th k).sw=[]->Cl n Tk A.sm (G k)->Cl n Tk A0.sm (G k)/\(A0.th k).sw=[]:=fun h1 h2=>by rw[e3 h1];exact⟨h2,h1⟩
  cases hg with
  | Od hp=>
   obtain⟨m',rfl,ep⟩:=hp m hm;refine .inl ⟨m',rfl,by simp only[BU];exact ep,fun h1 h2=> ?_⟩;obtain⟨h3,h4⟩:=zq h1 h2;rw[e6 (by simp only[BU];exact h4)];exact h3
  | stop he _=>
   simp only[BU] at uU;exact UV uU (Z6 he).2.1
  | ev he qp uF hd hn hr ha hp=>
   rename_i e bad j lt';obtain⟨j0,lt0,yX,ha0,AgO⟩:=hm;simp only[BU];have Db:(A.th k).sw=[]->Cl n Tk A.sm (G k)->bad=false/\Cl n Tk A'.sm g':=fun h1 h2=>by
    obtain⟨h3,h4⟩:=zq h1 h2;obtain⟨b1,b2,b3⟩:=z8 h6 (hX k hk).2 hk s0.l1.lk h4 s0.oth s0.tg h3 ha0 he hn;refine⟨b1,?_⟩;rcases b3 with b3 | b3
    ·rw[e6 (by simp only[BU];exact b3)];exact b2
    ·exact Cl.ina b3
   cases bad with
   | false=>
    have Ze:j+1+KB (X k) g'<=KB (X k) (G k):=hp;refine .inl ⟨m - 1,Y,⟨j,lt',hr,ha,Y⟩,fun h1 h2=>(Db h1 h2).2⟩
   | true=>
    have Ze:j+KB (X k) g'<=EH (G k).q0+40:=hp;have hq:=(s0.l1.pt k hk).q0;obtain⟨c,hb⟩:=hn.Gg (.inl rfl);exact .inr ⟨fun ⟨h1,h2⟩=>(by have:=(Db h1 h2).1;cases this),Cl.ina hb.NV,j,lt',hr,ha,Y⟩
 ·left;rw[e5];exact uU
end
theorem rm {M:Nat} (h6:n<=6) (hX:∀t,t < T->Ny (X t)/\(X t).n=n) (hk:k < T) {A:AM} {G:Nat->Gt} (hs:pP X T n M K Tk A G k) (hK:K < 100000000000000000) (hM:M < 1000000000) (P:Nat->AM->Prop) (h0:P 0 A)
  (hf:∀i A G (K:Int),P i A->K < 1000000000000000000 - 1->pP X T n M K Tk A G k->(A.th k).st=0->∃A',It X k A A'/\P (i+1) A'):∃i A',i<=2*M+140/\P i A'/\(A'.th k).st≠0:=by
 have Mh:∀(m i:Nat) (A:AM) (G:Nat->Gt) (K:Int),P i A->K < 1000000000000000000 - (m:Int) - 2->pP X T n M K Tk A G k->(A.th k).sw=[]->Cl n Tk A.sm (G k)->Tu (X k) m (A.th k).lt (G k)->∃j A',j<=m+1/\P (i+j) A'/\(A'.th k).st≠0:=by
  intro m;induction m with
  | zero=>
   intro i A G K hp hK hs QF hc hm;by_cases h0:(A.th k).st=0
   ·obtain⟨A',hi,Ze⟩:=hf i A G K hp Y hs h0;rcases hs.it h6 hX hk Y h0 hm hi with h | ⟨G',_,_,⟨m',h,_⟩ | ⟨h,_⟩⟩
    ·exact⟨1,A',Y,Ze,h⟩
    ·omega
    ·exact UV ⟨QF,hc⟩ h
   ·exact⟨0,A,Y,hp,h0⟩
  | succ m ih=>
   intro i A G K hp hK hs QF hc hm;by_cases h0:(A.th k).st=0
   ·obtain⟨A',hi,Ze⟩:=hf i A G K hp Y hs h0;rcases hs.it h6 hX hk Y h0 hm hi with h | ⟨G',RO,uo,⟨m',h,ep,UH⟩ | ⟨h,_⟩⟩
    ·exact⟨1,A',Y,Ze,h⟩
    ·obtain rfl:m'=m:=Y
     obtain⟨j,B,hj,hb,h⟩:=ih (i+1) A' G' (K+1) Ze Y RO uo (UH QF hc) ep;exact naj
    ·exact UV ⟨QF,hc⟩ h
   ·exact⟨0,A,Y,hp,h0⟩
 have old:∀(m i:Nat) (A:AM) (G:Nat->Gt) (K:Int),P i A->K < 1000000000000000000 - (m:Int) - (M:Int) - 100->pP X T n M K Tk A G k->Tu (X k) m (A.th k).lt (G k)->∃j A',j<=m+M+70/\P (i+j) A'/\(A'.th k).st≠0:=by
  intro m;induction m with
  | zero=>
   intro i A G K hp hK hs hm;by_cases h0:(A.th k).st=0
   ·obtain⟨A',hi,Ze⟩:=hf i A G K hp Y hs h0;rcases hs.it h6 hX hk Y h0 hm hi with h | ⟨G',RO,uo,⟨m',h,_⟩ | ⟨_,UH,ep⟩⟩
    ·exact⟨1,A',Y,Ze,h⟩
    ·omega
    ·obtain⟨j,B,hj,hb,h⟩:=Mh (M+67) (i+1) A' G' (K+1) Ze Y RO uo UH ep;exact naj
   ·exact⟨0,A,Y,hp,h0⟩
  | succ m ih=>
   intro i A G K hp hK hs hm;by_cases h0:(A.th k).st=0
   ·obtain⟨A',hi,Ze⟩:=hf i A G K hp Y hs h0;rcases hs.it h6 hX hk Y h0 hm hi with h | ⟨G',RO,uo,⟨m',h,ep,_⟩ | ⟨_,UH,ep⟩⟩
    ·exact⟨1,A',Y,Ze,h⟩
    ·obtain rfl:m'=m:=Y
     obtain⟨j,B,hj,hb,h⟩:=ih (i+1) A' G' (K+1) Ze Y RO ep;exact naj
    ·obtain⟨j,B,hj,hb,h⟩:=Mh (M+67) (i+1) A' G' (K+1) Ze Y RO uo UH ep;exact naj
   ·exact⟨0,A,Y,hp,h0⟩
 by_cases hz:(A.th k).st=0
 ·obtain⟨j,B,hj,hb,h⟩:=old (M+67) 0 A G K h0 Y hs (hs.l1.th k hk hz);exact⟨j,B,Y,by rwa[Qaw] at hb,h⟩
 ·exact⟨0,A,Y,h0,hz⟩
end
namespace Al
def th (M:Al) (k:Nat):C9:=M.ts.getD k C9.new
def Dh (M:Al) (k:Nat) (t:C9):Al:={M with ts:=M.ts.set k t}
def Cy (M:Al) (k:Nat):Al:=match (M.th k).waits with
 | []=>M
 | p::r=>{mem:=M.mem.set p.1.toNat p.2,ts:=M.ts.set k {M.th k with waits:=r}}
def Dt:Nat->Al->Nat->Al
 | 0,M,_=>M
 | n+1,M,k=>Dt n (M.Cy k) k
def CG (M:Al) (k:Nat):Al:=Dt (M.th k).waits.length M k
def wv (l:List (Int×Int)) (v a:Int):Int:=l.foldl (fun v p=>if p.1=a then p.2 else v) v
def Pv (M:Al) (k:Nat) (a:Int):Int:=wv (M.th k).waits (M.mem.getD a.toNat 0) a
end Al
def C9.ev (t:C9) (a:Ag):Int:=if a.B0 then t.DA.getD a.v.toNat 0 else a.v
def C9.DM (t:C9) (d v:Int):C9:={t with DA:=t.DA.set d.toNat v}
namespace Al
def QM (M:Al) (k:Nat) (i:GI):Al:=
 let t:=M.th k
 match i with
 | .Sq d a=>M.Dh k (t.DM d (t.ev a))
 | .op n d a b=>match Co n (t.ev a) (t.ev b) with
  | none=>M.Dh k {t with BG:=1}
  | some v=>M.Dh k (t.DM d v)
 | .load d a j=>
  let p:=wrap64 (t.ev a+j)
  if p < 0\/256<=p then M.Dh k {t with BG:=9} else M.Dh k (t.DM d (M.Pv k p))
 | .store a j b=>
  let p:=wrap64 (t.ev a+j)
  if p < 0\/256<=p then M.Dh k {t with BG:=9} else
   let M:=if t.waits.length=4 then M.Cy k else M
   M.Dh k {M.th k with waits:=(M.th k).waits++[(p,t.ev b)]}
 | .JL d a j b c=>
  let p:=wrap64 (t.ev a+j)
  let M:=M.CG k
  if p < 0\/256<=p then M.Dh k {M.th k with BG:=9} else
   if M.Pv k p=t.ev b then {mem:=M.mem.set p.toNat (t.ev c),ts:=M.ts.set k ((M.th k).DM d 1)} else M.Dh k ((M.th k).DM d 0)
 | .DL d a j b=>
  let p:=wrap64 (t.ev a+j)
  let M:=M.CG k
  if p < 0\/256<=p then M.Dh k {M.th k with BG:=9} else {mem:=M.mem.set p.toNat (wrap64 (M.Pv k p+t.ev b)),ts:=M.ts.set k ((M.th k).DM d (M.Pv k p))}
 | .IV=>M.CG k
 | .out a=>M.Dh k {t with out:=t.out++[t.ev a]}
 | .Gb q=>M.Dh k {t with pc:=q.toNat}
 | .jz a q=>if t.ev a=0 then M.Dh k {t with pc:=q.toNat} else M
 | .EF s=>M.Dh k {t with BG:=s}
 | .halt=>M.Dh k {t with BG:=10}
def step (Ab:Nat->List GI) (M:Al) (k:Nat):Al:=
 if M.ts.length<=k\/(M.th k).BG≠0 then M else match (Ab k)[(M.th k).pc]? with
  | none=>M.Dh k {M.th k with BG:=10}
  | some i=>(M.Dh k {M.th k with pc:=(M.th k).pc+1}).QM k i
end Al
namespace Al
section
variable (M:Al) (k:Nat)
theorem vB (d:Int) (a:Ag):M.QM k (.Sq d a)=M.Dh k ((M.th k).DM d ((M.th k).ev a)):=rfl
theorem lq (n:ByteArray) (d:Int) (a b:Ag):M.QM k (.op n d a b)=match Co n ((M.th k).ev a) ((M.th k).ev b) with | none=>M.Dh k {M.th k with BG:=1} | some v=>M.Dh k ((M.th k).DM d v):=rfl
theorem Zu (d:Int) (a:Ag) (j:Int):M.QM k (.load d a j)=if wrap64 ((M.th k).ev a+j) < 0\/256<=wrap64 ((M.th k).ev a+j) then M.Dh k {M.th k with BG:=9} else M.Dh k ((M.th k).DM d (M.Pv k (wrap64 ((M.th k).ev a+j)))):=rfl
theorem W2 (a:Ag) (j:Int) (b:Ag):M.QM k (.store a j b)=if wrap64 ((M.th k).ev a+j) < 0\/256<=wrap64 ((M.th k).ev a+j) then M.Dh k {M.th k with BG:=9} else
  (if (M.th k).waits.length=4 then M.Cy k else M).Dh k {(if (M.th k).waits.length=4 then M.Cy k else M).th k with waits:=((if (M.th k).waits.length=4 then M.Cy k else M).th k).waits++[(wrap64 ((M.th k).ev a+j),(M.th k).ev b)]}:=rfl
theorem eR (d:Int) (a:Ag) (j:Int) (b c:Ag):M.QM k (.JL d a j b c)=if wrap64 ((M.th k).ev a+j) < 0\/256<=wrap64 ((M.th k).ev a+j) then (M.CG k).Dh k {(M.CG k).th k with BG:=9} else
  if (M.CG k).Pv k (wrap64 ((M.th k).ev a+j))=(M.th k).ev b then {mem:=(M.CG k).mem.set (wrap64 ((M.th k).ev a+j)).toNat ((M.th k).ev c),ts:=(M.CG k).ts.set k (((M.CG k).th k).DM d 1)} else (M.CG k).Dh k (((M.CG k).th k).DM d 0):=rfl
theorem Zt (d:Int) (a:Ag) (j:Int) (b:Ag):M.QM k (.DL d a j b)=if wrap64 ((M.th k).ev a+j) < 0\/256<=wrap64 ((M.th k).ev a+j) then (M.CG k).Dh k {(M.CG k).th k with BG:=9} else
  {mem:=(M.CG k).mem.set (wrap64 ((M.th k).ev a+j)).toNat (wrap64 ((M.CG k).Pv k (wrap64 ((M.th k).ev a+j))+(M.th k).ev b)),ts:=(M.CG k).ts.set k (((M.CG k).th k).DM d ((M.CG k).Pv k (wrap64 ((M.th k).ev a+j))))}:=rfl
theorem vA (a:Ag):M.QM k (.out a)=M.Dh k {M.th k with out:=(M.th k).out++[(M.th k).ev a]}:=rfl
theorem vC (q:Int):M.QM k (.Gb q)=M.Dh k {M.th k with pc:=q.toNat}:=rfl
theorem lr (a:Ag) (q:Int):M.QM k (.jz a q)=if (M.th k).ev a=0 then M.Dh k {M.th k with pc:=q.toNat} else M:=rfl
theorem o6 (s:Int):M.QM k (.EF s)=M.Dh k {M.th k with BG:=s}:=rfl
theorem o7:M.QM k .halt=M.Dh k {M.th k with BG:=10}:=rfl
end
end Al
def mz (l:List (Int×Int)):List (Nat×Int):=l.filterMap fun p=>if p.1 < 32 then some (p.1.toNat,p.2) else none
structure Xs (Ac:Int) (rt:C9) (mem:List Int) (s:AT):Prop where
 pc:rt.pc=s.lt.pc
 rl:rt.DA.length=8
 DA:∀r,r < 8->rt.DA.getD r 0=s.lt.x.R r
 Od:∀o:Nat,o < 64->Al.wv rt.waits (mem.getD (Ac+o).toNat 0) (Ac+o)=s.lt.x.m.get o
 sw:s.sw=mz rt.waits
 wa:∀p,p∈rt.waits->0<=p.1/\(p.1 < 32\/(Ac<=p.1/\p.1 < Ac+64))
 wl:rt.waits.length<=4
 st:rt.BG=s.st
 out:rt.out=s.out
structure Q3 (X:Nat->Cx) (T:Nat) (M:Al) (A:AM):Prop where
 ml:M.mem.length=256
 tl:M.ts.length=T
 sm:∀a,a < 32->M.mem.getD a 0=A.sm a
 th:∀t,t < T->Xs (X t).Ac (M.th t) M.mem (A.th t)
theorem EO (l:List α) (i j:Nat) (v d:α) (h:i < l.length):(l.set i v).getD j d=if j=i then v else l.getD j d:=by
 rw[GE,Qb3];by_cases he:i=j
 ·rw[In he,In Y,In he.symm];rfl
 ·rw[I he,I (fun e=>he e.symm),GE]
theorem Qf {t:Nat} {v:C9} (h:k < M.ts.length):Al.th {mem:=mem,ts:=M.ts.set k v} t=if t=k then v else M.th t:=EO _ _ _ _ _ h
theorem xB {l:List (Int×Int)} (h:∀p,p∈l->0<=p.1) {a:Nat} (ha:a < 32) (v:Int):Al.wv l v a=vw (mz l) v a:=by
 induction l generalizing v with
 | nil=>rfl
 | cons p r ih=>
  show Al.wv r (if p.1=(a:Int) then p.2 else v) a=_;rw[ih fun q hq=>h q (U _ hq)];have h0:=h p (J ..);unfold mz;rw[Qcw];by_cases h32:p.1 < 32
  ·rw[In h32];show _=vw (mz r) (if p.1.toNat=a then p.2 else v) a;by_cases he:p.1=(a:Int)
   ·rw[In he,In Y];rfl
   ·rw[I he,I Y];rfl
  ·rw[I h32,I Y]
section
variable {X:Nat->Cx} {T:Nat} (hB:∀t,t < T->(X t).Ac=32+64*(t:Int)) (hT:T<=3)
include hB hT
theorem Q3.Cy (h:Q3 X T M A) (hk:k < T):∃A',UX X k A A'/\Q3 X T (M.Cy k) A'/\((M.Cy k).th k).waits=(M.th k).waits.tail/\(A'.th k).lt=(A.th k).lt/\(A'.th k).st=(A.th k).st/\(A'.th k).out=(A.th k).out/\A'.sm 16=(M.Cy k).mem.getD 16 0:=by
 have hb:=hB k hk;obtain⟨ml,tl,sm,Ms⟩:=h;unfold Al.Cy;cases hw:(M.th k).waits with
 | nil=>exact⟨A,.nil A,⟨ml,tl,sm,Ms⟩,by rw[hw];rfl,rfl,rfl,rfl,(sm 16 AC).symm⟩
 | cons p r=>
  have Jc:k < M.ts.length:=by rw[tl];exact hk
  have hK:=Ms k hk;obtain⟨fQ,cu⟩:=hK.wa p (by rw[hw];exact J ..);have Cq:p.1.toNat < M.mem.length:=by rw[ml];omega
  have La:∀t,t < T->∀o:Nat,o < 64->t≠k->(M.mem.set p.1.toNat p.2).getD ((X t).Ac+o).toNat 0=M.mem.getD ((X t).Ac+o).toNat 0:=fun t ht o ho Bi=>by
   have:=hB t ht;rw[EO _ _ _ _ _ Cq,I Y]
  have WE:∀t,t < T->t≠k->Xs (X t).Ac (M.th t) (M.mem.set p.1.toNat p.2) (A.th t):=fun t ht Bi=>by
   obtain⟨a1,a2,a3,a4,a5,a6,a7,a8,a9⟩:=Ms t ht;exact⟨a1,a2,a3,fun o ho=>by rw[La t ht o ho Bi];exact a4 o ho,a5,a6,a7,a8,a9⟩
  obtain⟨a1,a2,a3,a4,a5,a6,a7,a8,a9⟩:=hK;have Ct:∀o:Nat,o < 64->Al.wv r ((M.mem.set p.1.toNat p.2).getD ((X k).Ac+o).toNat 0) ((X k).Ac+o)=(A.th k).lt.x.m.get o:=fun o ho=>by
   rw[<-a4 o ho,hw,EO _ _ _ _ _ Cq];show _=Al.wv r (if p.1=(X k).Ac+o then p.2 else _) _;by_cases he:p.1=(X k).Ac+o
   ·rw[In Y,In he]
   ·rw[I Y,I he]
  have p5:r.length<=4:=by rw[hw] at a7;simp only[IR] at a7;omega
  have ue:∀q,q∈r->0<=q.1/\(q.1 < 32\/((X k).Ac<=q.1/\q.1 < (X k).Ac+64)):=fun q hq=>a6 q (by rw[hw];exact U _ hq)
  by_cases h32:p.1 < 32
  ·have QF:(A.th k).sw=(p.1.toNat,p.2)::mz r:=by rw[a5,hw];unfold mz;rw[Qcw,In h32]
   refine⟨⟨C5 A.sm p.1.toNat p.2,Cv A.th k {A.th k with sw:=mz r}⟩,.cons (.Cy QF) (.nil _),⟨by show(M.mem.set _ _).length=256;rw[Qaa,ml],by show(M.ts.set _ _).length=T;rw[Qaa,tl],fun a ha=> ?_,fun t ht=> ?_⟩,?_,?_,?_,?_,?_⟩
   ·show(M.mem.set p.1.toNat p.2).getD a 0=C5 A.sm p.1.toNat p.2 a;rw[EO _ _ _ _ _ Cq];unfold C5;split
    ·rfl
    ·exact sm a ha
   ·rw[Qf Jc];by_cases Bi:t=k
    ·subst Bi;rw[In rfl];show Xs _ _ _ (Cv A.th t _ t);rw[BU];exact⟨a1,a2,a3,Ct,rfl,ue,p5,a8,a9⟩
    ·rw[I Bi];show Xs _ _ _ (Cv A.th k _ t);rw[Ds _ _ Bi];exact WE t ht Bi
   ·rw[Qf Jc,In rfl];rfl
   ·simp only[BU]
   ·simp only[BU]
   ·simp only[BU]
   ·show C5 A.sm p.1.toNat p.2 16=(M.mem.set p.1.toNat p.2).getD 16 0;rw[EO _ _ _ _ _ Cq];unfold C5;split
    ·rfl
    ·exact(sm 16 AC).symm
  ·refine⟨A,.nil A,⟨by show(M.mem.set _ _).length=256;rw[Qaa,ml],by show(M.ts.set _ _).length=T;rw[Qaa,tl],fun a ha=> ?_,fun t ht=> ?_⟩,?_,rfl,rfl,rfl,?_⟩
   ·show(M.mem.set p.1.toNat p.2).getD a 0=_;rw[EO _ _ _ _ _ Cq,I Y];exact sm a ha
   ·rw[Qf Jc];by_cases Bi:t=k
    ·subst Bi;rw[In rfl];exact⟨a1,a2,a3,Ct,by rw[a5,hw];unfold mz;rw[Qcw,I h32],ue,p5,a8,a9⟩
    ·rw[I Bi];exact WE t ht Bi
   ·rw[Qf Jc,In rfl];rfl
   ·show _=(M.mem.set p.1.toNat p.2).getD 16 0;rw[EO _ _ _ _ _ Cq,I Y];exact(sm 16 AC).symm
theorem UX.trans {C:AM} (h:UX X k A B) (r:UX X k B C):UX X k A C:=by
 have _:=hB;have _:=hT;induction h with
 | nil A=>exact r
 | cons h _ ih=>exact .cons h (ih r)
theorem Q3.Dt (hk:k < T):∀(n:Nat) {M:Al} {A:AM},Q3 X T M A->(M.th k).waits.length<=n->∃A',UX X k A A'/\Q3 X T (Al.Dt n M k) A'/\((Al.Dt n M k).th k).waits=[]/\(A'.th k).sw=[]/\(A'.th k).lt=(A.th k).lt/\(A'.th k).st=(A.th k).st/\(A'.th k).out=(A.th k).out:=by
 intro n;induction n with
 | zero=>
  intro M A h hl;have e:(M.th k).waits=[]:=List.length_eq_zero_iff.1 Y;exact⟨A,.nil A,h,e,by rw[(h.th k hk).sw,e];rfl,rfl,rfl,rfl⟩
 | succ n ih=>
  intro M A h hl;obtain⟨A1,f1,h1,e1,e2,e3,e4,_⟩:=h.Cy hB hT hk;obtain⟨A2,f2,h2,e5,e6,e7,e8,e9⟩:=ih h1 (by rw[e1,Qb8];omega);exact⟨A2,UX.trans hB hT f1 f2,h2,e5,e6,e7.trans e2,e8.trans e3,e9.trans e4⟩
theorem Q3.CG (h:Q3 X T M A) (hk:k < T):∃A',UX X k A A'/\Q3 X T (M.CG k) A'/\((M.CG k).th k).waits=[]/\(A'.th k).sw=[]/\(A'.th k).lt=(A.th k).lt/\(A'.th k).st=(A.th k).st/\(A'.th k).out=(A.th k).out:=Q3.Dt hB hT hk _ h (LE _)
omit hB hT in
theorem Aej (h:Xs Ac rt mem s) {a:Ag} (ha:Ed a):rt.ev a=EJ s.lt.x.R a:=by
 unfold Ed at ha;unfold C9.ev EJ;split
 ·rename_i hr;rw[In hr] at ha;unfold Jp at ha;exact h.DA _ Y
 ·rfl
omit hB hT in
theorem SD (h:Xs Ac rt mem s) {d:Int} (hd:Jp d) (v:Int):(rt.DM d v).DA.length=8/\∀r,r < 8->(rt.DM d v).DA.getD r 0=C5 s.lt.x.R d.toNat v r:=by
 unfold Jp at hd;refine⟨by show(rt.DA.set _ _).length=8;rw[Qaa];exact h.rl,fun r hr=> ?_⟩;show(rt.DA.set d.toNat v).getD r 0=_;rw[EO _ _ _ _ _ (by rw[h.rl];omega)];unfold C5;split
 ·rfl
 ·exact h.DA r hr
theorem Q3.set (h:Q3 X T M A) (hk:k < T) {rt:C9} {s:AT} (hs:Xs (X k).Ac rt M.mem s):Q3 X T (M.Dh k rt) ⟨A.sm,Cv A.th k s⟩:=by
 have _:=hB;have _:=hT;have Jc:k < M.ts.length:=by rw[h.tl];exact hk
 refine⟨h.ml,by show(M.ts.set _ _).length=T;rw[Qaa,h.tl],h.sm,fun t ht=> ?_⟩;show Xs _ ((M.ts.set k rt).getD t C9.new) M.mem (Cv A.th k s t);rw[EO _ _ _ _ _ Jc];unfold Cv;by_cases Bi:t=k
 ·subst Bi;rw[In rfl,In rfl];exact hs
 ·rw[I Bi,I Bi];exact h.th t ht
omit hT in
theorem Q3.put (h:Q3 X T M A) (hk:k < T) {a:Nat} (ha:a < 32) {v:Int} {rt:C9} {s:AT} (hs:∀mem,(∀o:Nat,o < 64->mem.getD ((X k).Ac+o).toNat 0=M.mem.getD ((X k).Ac+o).toNat 0)->Xs (X k).Ac rt mem s):
  Q3 X T {mem:=M.mem.set a v,ts:=M.ts.set k rt} ⟨C5 A.sm a v,Cv A.th k s⟩:=by
 have Jc:k < M.ts.length:=by rw[h.tl];exact hk
 have kU:a < M.mem.length:=by rw[h.ml];omega
 have La:∀t,t < T->∀o:Nat,o < 64->(M.mem.set a v).getD ((X t).Ac+o).toNat 0=M.mem.getD ((X t).Ac+o).toNat 0:=fun t ht o ho=>by
  have:=hB t ht;rw[EO _ _ _ _ _ kU,I Y]
 refine⟨by show(M.mem.set _ _).length=256;rw[Qaa,h.ml],by show(M.ts.set _ _).length=T;rw[Qaa,h.tl],fun b hb=> ?_,fun t ht=> ?_⟩
 ·show(M.mem.set a v).getD b 0=C5 A.sm a v b;rw[EO _ _ _ _ _ kU];unfold C5;split
  ·rfl
  ·exact h.sm b hb
 ·show Xs _ ((M.ts.set k rt).getD t C9.new) (M.mem.set a v) (Cv A.th k s t);rw[EO _ _ _ _ _ Jc];unfold Cv;by_cases Bi:t=k
  ·subst Bi;rw[In rfl,In rfl];exact hs _ (La t ht)
  ·rw[I Bi,I Bi];obtain⟨a1,a2,a3,a4,a5,a6,a7,a8,a9⟩:=h.th t ht;exact⟨a1,a2,a3,fun o ho=>by rw[La t ht o ho];exact a4 o ho,a5,a6,a7,a8,a9⟩
def AeL (x:Cx) (lt:LT) (i:GI):Prop:=(∃r,XF x.Ac i lt.x=some r)\/(XF x.Ac i lt.x=none/\∃e,evk i lt.x=some e)
def Al.Di (M:Al) (k q:Nat):Al:=M.Dh k {M.th k with pc:=q}
omit hB hT in
theorem set_set {a b:C9}:(M.Dh k a).Dh k b=M.Dh k b:=by unfold Al.Dh;simp
omit hB hT in
theorem LP {v:C9} (h:k < M.ts.length):(M.Dh k v).th k=v:=by
 show(M.ts.set k v).getD k C9.new=v;rw[EO _ _ _ _ _ h,In rfl]
omit hB hT in
theorem Zo (M:Al) (k:Nat):(M.Cy k).ts.length=M.ts.length:=by
 unfold Al.Cy;split
 ·rfl
 ·exact Qaa ..
omit hB hT in
theorem eM (h:k < M.ts.length):(M.Di k q).Cy k=(M.Cy k).Di k q:=by
 have e:(M.Di k q).th k={M.th k with pc:=q}:=LP h;unfold Al.Cy;rw[e];show(match (M.th k).waits with | []=>M.Di k q | p::r=>_)=_;cases hw:(M.th k).waits with
 | nil=>rfl
 | cons p r=>
  show Al.mk _ _=Al.Di _ _ _;unfold Al.Di;rw[Qf h,In rfl];unfold Al.Dh;simp
omit hB hT in
theorem eU (h:k < M.ts.length):(M.Di k q).CG k=(M.CG k).Di k q:=by
 have key:∀(n:Nat) (M:Al),k < M.ts.length->Al.Dt n (M.Di k q) k=(Al.Dt n M k).Di k q:=by
  intro n;induction n with
  | zero=>intro M _;rfl
  | succ n ih=>intro M h;show Al.Dt n ((M.Di k q).Cy k) k=_;rw[eM h];exact ih _ (by rw[Zo];exact h)
 unfold Al.CG;rw[show(M.Di k q).th k={M.th k with pc:=q} from LP h];exact key _ _ h
omit hB hT in
theorem ZW (l:List (Int×Int)) (p:Int×Int) (v a:Int):Al.wv (l++[p]) v a=if p.1=a then p.2 else Al.wv l v a:=by unfold Al.wv;rw[Qby];rfl
omit hB hT in
theorem cT (l:List (Int×Int)) (p:Int×Int):mz (l++[p])=mz l++if p.1 < 32 then [(p.1.toNat,p.2)] else []:=by
 unfold mz;rw[List.filterMap_append];congr 1;rw[Qcw];split <;>rename_i h <;>split at h <;>simp_all
omit hB hT in
theorem YT {o:Nat} (h:NQ Ac a=some o):a=Ac+o/\o < 64:=by
 unfold NQ at h;split at h
 ·cases h;omega
 ·cases h
omit hB hT in
theorem Rj (h:Xv a=some n):a=n/\n < 32:=by
 unfold Xv at h;split at h
 ·cases h;omega
 ·cases h
theorem ru {Ab:Nat->List GI} (h:Q3 X T M A) (hk:k < T) (Zh:Ab k=(X k).Ab) (AD:(A.th k).st=0) {i:GI} (hi:(X k).Ab[(A.th k).lt.pc]?=some i) (ho:Px 4000 i) (hf:AeL (X k) (A.th k).lt i) (kJ:∀A0 d a j,UX X k A A0->evk i (A.th k).lt.x=some (.DL d a j)->wrap64 (A0.sm a+j)=A0.sm a+j):
  ∃A0 A1,UX X k A A0/\AS X A0 k false A1/\Q3 X T (M.step Ab k) A1:=by
 have hb:=hB k hk;have Jc:k < M.ts.length:=by rw[h.tl];exact hk
 have hK:=h.th k hk;have e0:M.step Ab k=(M.Di k ((M.th k).pc+1)).QM k i:=by
  unfold Al.step;rw[I (by rw[hK.st,h.tl];omega),Zh,hK.pc,hi];rfl
 rw[e0];have Ms:(M.Di k ((M.th k).pc+1)).th k={M.th k with pc:=(M.th k).pc+1}:=LP Jc;have Kk:∀{a:Ag},Ed a->({M.th k with pc:=(M.th k).pc+1}:C9).ev a=EJ (A.th k).lt.x.R a:=fun ha=>Aej hK ha
 have B0:∀{d v:Int},Jp d->Xs (X k).Ac (({M.th k with pc:=(M.th k).pc+1}:C9).DM d v) M.mem {A.th k with lt:=⟨(A.th k).lt.pc+1,⟨C5 (A.th k).lt.x.R d.toNat v,(A.th k).lt.x.m⟩⟩}:=fun {d v} hd=>by
  obtain⟨r1,r2⟩:=SD hK hd v;obtain⟨a1,a2,a3,a4,a5,a6,a7,a8,a9⟩:=hK;exact⟨by show(M.th k).pc+1=_;rw[a1],r1,r2,a4,a5,a6,a7,a8,a9⟩
 have regA:∀{d v:Int},Jp d->Q3 X T ((M.Di k ((M.th k).pc+1)).Dh k (({M.th k with pc:=(M.th k).pc+1}:C9).DM d v)) ⟨A.sm,Cv A.th k {A.th k with lt:=⟨(A.th k).lt.pc+1,⟨C5 (A.th k).lt.x.R d.toNat v,(A.th k).lt.x.m⟩⟩}⟩:=fun hd=>by
  unfold Al.Di;rw[set_set];exact h.set hB hT hk (B0 hd)
 have Od:∀{r:XS×Option Nat},XF (X k).Ac i (A.th k).lt.x=some r->AS X A k false ⟨A.sm,Cv A.th k {A.th k with lt:=⟨r.2.getD ((A.th k).lt.pc+1),r.1⟩}⟩:=fun {r} hr=> .Od AD (by unfold r9;rw[hi];show(XF _ i _).map _=_;rw[hr];rfl)
 cases i with
 | Sq d a=>
  refine⟨A,_,.nil A,Od rfl,?_⟩;rw[Al.vB,Ms,Kk ho.2];exact regA ho.1
 | op n d a b=>
  obtain⟨RR,SY,uE,ho4⟩:=ho;rw[Al.lq,Ms,Kk uE,Kk ho4];cases hm:Co n (EJ (A.th k).lt.x.R a) (EJ (A.th k).lt.x.R b) with
  | none=>
   have hx:XF (X k).Ac (.op n d a b) (A.th k).lt.x=none:=by show(Co _ _ _).map _=none;rw[hm];rfl
   refine⟨A,_,.nil A,.ev AD hi hx rfl (fun h=>by cases h),?_⟩;unfold Al.Di;rw[set_set];refine h.set hB hT hk ?_;obtain⟨a1,a2,a3,a4,a5,a6,a7,a8,a9⟩:=hK;exact⟨by show(M.th k).pc+1=(A.th k).lt.pc+1;rw[a1],a2,a3,a4,a5,a6,a7,rfl,a9⟩
  | some v=>exact⟨A,_,.nil A,Od (by show(Co _ _ _).map _=_;rw[hm];rfl),regA SY⟩
 | load d a j=>
  obtain⟨RR,SY,uE⟩:=ho;rw[Al.Zu,Ms,Kk SY];have yW:∀p,(M.Di k ((M.th k).pc+1)).Pv k p=Al.wv (M.th k).waits (M.mem.getD p.toNat 0) p:=fun p=>by unfold Al.Pv;rw[Ms];rfl
  rcases hf with⟨r,hr⟩ | ⟨hx,e,he⟩
  ·have KX:(NQ (X k).Ac (wrap64 (EJ (A.th k).lt.x.R a+j))).map (fun o=>((⟨C5 (A.th k).lt.x.R d.toNat ((A.th k).lt.x.m.get o),(A.th k).lt.x.m⟩:XS),(none:Option Nat)))=some r:=hr;cases hof:NQ (X k).Ac (wrap64 (EJ (A.th k).lt.x.R a+j)) with
   | none=>rw[hof] at KX;cases KX
   | some o=>
    obtain⟨hp,AdO⟩:=YT hof;refine⟨A,_,.nil A,Od hr,?_⟩;rw[hof] at KX;cases KX;rw[I (by rw[hp];omega),yW,hp,hK.Od o AdO];exact regA RR
  ·have Ca:(Xv (wrap64 (EJ (A.th k).lt.x.R a+j))).map (Ek.ld d.toNat ·)=some e:=he;cases IT:Xv (wrap64 (EJ (A.th k).lt.x.R a+j)) with
   | none=>rw[IT] at Ca;cases Ca
   | some c=>
    obtain⟨hp,hc⟩:=Rj IT;rw[IT] at Ca;cases Ca;refine⟨A,_,.nil A,.ev AD hi hx he (fun h=>by cases h),?_⟩;rw[I (by rw[hp];omega),yW,hp,xB (fun p hp=>(hK.wa p hp).1) hc];have e1:M.mem.getD ((c:Int)).toNat 0=A.sm c:=h.sm c hc;rw[e1,<-hK.sw];exact regA RR
 | store a j b=>
  obtain⟨RR,SY,uE⟩:=ho;rw[Al.W2,Ms,Kk RR,Kk uE];obtain⟨M',A0,f0,h0,e1,e2,e3,e4,hlen,hM'⟩:∃M' A0,UX X k A A0/\Q3 X T M' A0/\(A0.th k).lt=(A.th k).lt/\(A0.th k).st=(A.th k).st/\(A0.th k).out=(A.th k).out/\k < M'.ts.length/\(M'.th k).waits.length < 4/\
    (if (M.th k).waits.length=4 then (M.Di k ((M.th k).pc+1)).Cy k else M.Di k ((M.th k).pc+1))=M'.Di k ((M.th k).pc+1):=by
   by_cases h4:(M.th k).waits.length=4
   ·obtain⟨A',g1,g2,g3,g4,g5,g6,_⟩:=h.Cy hB hT hk;exact⟨M.Cy k,A',g1,g2,g4,g5,g6,by rw[Zo];exact Jc,by rw[g3,Qb8];omega,by rw[In h4,eM Jc]⟩
   ·exact⟨M,A,.nil A,h,rfl,rfl,rfl,Jc,by have:=hK.wl;omega,by rw[I h4]⟩
  have hK':=h0.th k hk;have aY:(M'.Di k ((M.th k).pc+1)).th k={M'.th k with pc:=(M.th k).pc+1}:=LP e4;have Adz:=e2.trans AD;have iO:(A0.th k).lt.pc=(M.th k).pc:=by rw[e1];exact hK.pc.symm
  have hi0:(X k).Ab[(A0.th k).lt.pc]?=some (.store a j b):=by rw[e1];exact hi
  obtain⟨a1,a2,a3,a4,a5,a6,a7,a8,a9⟩:=hK';rcases hf with⟨r,hr⟩ | ⟨hx,e,he⟩
  ·have KX:(NQ (X k).Ac (wrap64 (EJ (A.th k).lt.x.R a+j))).map (fun o=>((⟨(A.th k).lt.x.R,(A.th k).lt.x.m.set o (EJ (A.th k).lt.x.R b)⟩:XS),(none:Option Nat)))=some r:=hr;cases hof:NQ (X k).Ac (wrap64 (EJ (A.th k).lt.x.R a+j)) with
   | none=>rw[hof] at KX;cases KX
   | some o=>
    obtain⟨hp,AdO⟩:=YT hof;refine⟨A0,_,f0,.Od Adz (lt':=⟨r.2.getD ((A0.th k).lt.pc+1),r.1⟩) (by unfold r9;rw[hi0,e1];show(XF _ _ _).map _=_;rw[hr];rfl),?_⟩;rw[hof] at KX;cases KX;rw[I (by rw[hp];omega)];rw[hM',aY];unfold Al.Di;rw[set_set];refine h0.set hB hT hk ⟨?_,a2,by rw[<-e1];exact a3,fun o' Oz=> ?_,?_,?_,?_,a8,a9⟩
    ·exact naw
    ·show Al.wv ((M'.th k).waits++[_]) _ _=((A.th k).lt.x.m.set o _).get o';rw[ZW,Du.zF,a4 o' Oz,e1,hp];by_cases he:o'=o
     ·rw[In (by rw[he]),In he]
     ·rw[I (by intro hx;apply he;have:(X k).Ac+(o:Int)=(X k).Ac+o':=hx;omega),I he]
    ·show(A0.th k).sw=mz ((M'.th k).waits++[_]);rw[cT,a5,hp,I (by show¬(X k).Ac+(o:Int) < 32;omega),i7]
    ·intro q hq;rcases Nm.1 hq with hq | hq
     ·exact a6 q hq
     ·simp only[Z] at hq;subst hq;rw[hp];exact⟨by show 0<=(X k).Ac+(o:Int);omega,.inr ⟨by show(X k).Ac<=(X k).Ac+(o:Int);omega,by show(X k).Ac+(o:Int) < _;omega⟩⟩
    ·show((M'.th k).waits++[_]).length<=4;rw[V];exact hlen
  ·have Ca:(Xv (wrap64 (EJ (A.th k).lt.x.R a+j))).map (Ek.st · (EJ (A.th k).lt.x.R b))=some e:=he;cases IT:Xv (wrap64 (EJ (A.th k).lt.x.R a+j)) with
   | none=>rw[IT] at Ca;cases Ca
   | some c=>
    obtain⟨hp,hc⟩:=Rj IT;rw[IT] at Ca;cases Ca;refine⟨A0,_,f0,.ev Adz hi0 (by rw[e1];exact hx) (by rw[e1];exact he) (fun h=>by cases h),?_⟩;rw[I (by rw[hp];omega)];rw[hM',aY];unfold Al.Di;rw[set_set];refine h0.set hB hT hk ⟨?_,a2,a3,fun o' Oz=> ?_,?_,?_,?_,a8,a9⟩
    ·exact naw
    ·show Al.wv ((M'.th k).waits++[_]) _ _=(A0.th k).lt.x.m.get o';rw[ZW,a4 o' Oz,hp,I (by show¬(c:Int)=(X k).Ac+o';omega)]
    ·show(A0.th k).sw++[(c,EJ (A.th k).lt.x.R b)]=mz ((M'.th k).waits++[_]);rw[cT,a5,hp,In (by show(c:Int) < 32;omega)];rfl
    ·intro q hq;rcases Nm.1 hq with hq | hq
     ·exact a6 q hq
     ·simp only[Z] at hq;subst hq;rw[hp];exact⟨by show 0<=(c:Int);omega,.inl (by show(c:Int) < 32;omega)⟩
    ·show((M'.th k).waits++[_]).length<=4;rw[V];exact hlen
 | JL d a j b c=>
  obtain⟨RR,SY,uE,ho4,eh⟩:=ho;rw[Al.eR,Ms,Kk SY,Kk ho4,Kk eh,eU Jc];obtain⟨A0,f0,h0,e1,e2,e3,e4,e5⟩:=h.CG hB hT hk;have S9:k < (M.CG k).ts.length:=by rw[h0.tl];exact hk
  have aY:((M.CG k).Di k ((M.th k).pc+1)).th k={(M.CG k).th k with pc:=(M.th k).pc+1}:=LP S9;have hK':=h0.th k hk;have iO:(A0.th k).lt.pc=(M.th k).pc:=by rw[e3];exact hK.pc.symm
  rcases hf with⟨r,hr⟩ | ⟨hx,e,he⟩
  ·cases hr
  have Ca:(Xv (wrap64 (EJ (A.th k).lt.x.R a+j))).map (Ek.JL d.toNat · (EJ (A.th k).lt.x.R b) (EJ (A.th k).lt.x.R c))=some e:=he;cases IT:Xv (wrap64 (EJ (A.th k).lt.x.R a+j)) with
  | none=>rw[IT] at Ca;cases Ca
  | some n=>
   obtain⟨hp,hc⟩:=Rj IT;rw[IT] at Ca;cases Ca;refine⟨A0,_,f0,.ev (e4.trans AD) (by rw[e3];exact hi) rfl (by rw[e3];exact he) (fun _=>e2),?_⟩;rw[I (by rw[hp];omega)];have yW:((M.CG k).Di k ((M.th k).pc+1)).Pv k (wrap64 (EJ (A.th k).lt.x.R a+j))=A0.sm n:=by
    exact nax
   rw[yW];obtain⟨a1,a2,a3,a4,a5,a6,a7,a8,a9⟩:=hK';have iN:∀v,((({(M.CG k).th k with pc:=(M.th k).pc+1}:C9).DM d v).DA.length=8/\∀r,r < 8->(({(M.CG k).th k with pc:=(M.th k).pc+1}:C9).DM d v).DA.getD r 0=C5 (A0.th k).lt.x.R d.toNat v r):=fun v=>SD (h0.th k hk) RR v
   by_cases hq:A0.sm n=EJ (A.th k).lt.x.R b
   ·rw[In hq];have hm:mE A0.sm (.JL d.toNat n (EJ (A.th k).lt.x.R b) (EJ (A.th k).lt.x.R c))=C5 A0.sm n (EJ (A.th k).lt.x.R c):=by show(if _ then _ else _)=_;rw[In hq]
    have hv:vE A0.sm (A0.th k).sw (.JL d.toNat n (EJ (A.th k).lt.x.R b) (EJ (A.th k).lt.x.R c))=1:=by show(if _ then _ else _)=_;rw[In hq]
    rw[hm,aY,hp];show Q3 X T {mem:=(M.CG k).mem.set ((n:Int)).toNat _,ts:=(((M.CG k).ts.set k _).set k _)} _;rw[List.set_set];refine h0.put hB hk hc fun mem La=>⟨?_,(iN 1).1,?_,fun o ho=>by rw[La o ho];exact a4 o ho,a5,a6,a7,a8,a9⟩
    ·exact naw
    ·show∀r,r < 8->_=C5 (A0.th k).lt.x.R d.toNat (vE _ _ _) r;rw[hv];exact(iN 1).2
   ·rw[I hq];have hm:mE A0.sm (.JL d.toNat n (EJ (A.th k).lt.x.R b) (EJ (A.th k).lt.x.R c))=A0.sm:=by show(if _ then _ else _)=_;rw[I hq]
    have hv:vE A0.sm (A0.th k).sw (.JL d.toNat n (EJ (A.th k).lt.x.R b) (EJ (A.th k).lt.x.R c))=0:=by show(if _ then _ else _)=_;rw[I hq]
    rw[hm,aY];unfold Al.Di;rw[set_set];refine h0.set hB hT hk ⟨?_,(iN 0).1,?_,a4,a5,a6,a7,a8,a9⟩
    ·exact naw
    ·show∀r,r < 8->_=C5 (A0.th k).lt.x.R d.toNat (vE _ _ _) r;rw[hv];exact(iN 0).2
 | DL d a j b=>
  obtain⟨RR,SY,uE,ho4⟩:=ho;rw[Al.Zt,Ms,Kk SY,Kk ho4,eU Jc];obtain⟨A0,f0,h0,e1,e2,e3,e4,e5⟩:=h.CG hB hT hk;have S9:k < (M.CG k).ts.length:=by rw[h0.tl];exact hk
  have aY:((M.CG k).Di k ((M.th k).pc+1)).th k={(M.CG k).th k with pc:=(M.th k).pc+1}:=LP S9;have iO:(A0.th k).lt.pc=(M.th k).pc:=by rw[e3];exact hK.pc.symm
  rcases hf with⟨r,hr⟩ | ⟨hx,e,he⟩
  ·cases hr
  have Ca:(Xv (wrap64 (EJ (A.th k).lt.x.R a+j))).map (Ek.DL d.toNat · (EJ (A.th k).lt.x.R b))=some e:=he;cases IT:Xv (wrap64 (EJ (A.th k).lt.x.R a+j)) with
  | none=>rw[IT] at Ca;cases Ca
  | some n=>
   obtain⟨hp,hc⟩:=Rj IT;rw[IT] at Ca;cases Ca;refine⟨A0,_,f0,.ev (e4.trans AD) (by rw[e3];exact hi) rfl (by rw[e3];exact he) (fun _=>e2),?_⟩;rw[I (by rw[hp];omega)];have yW:((M.CG k).Di k ((M.th k).pc+1)).Pv k (wrap64 (EJ (A.th k).lt.x.R a+j))=A0.sm n:=by
    exact nax
   rw[yW,aY,hp,kJ A0 _ _ _ f0 he];have hK':=h0.th k hk;obtain⟨a1,a2,a3,a4,a5,a6,a7,a8,a9⟩:=hK';have iN:∀v,((({(M.CG k).th k with pc:=(M.th k).pc+1}:C9).DM d v).DA.length=8/\∀r,r < 8->(({(M.CG k).th k with pc:=(M.th k).pc+1}:C9).DM d v).DA.getD r 0=C5 (A0.th k).lt.x.R d.toNat v r):=fun v=>SD (h0.th k hk) RR v
   show Q3 X T {mem:=(M.CG k).mem.set ((n:Int)).toNat _,ts:=(((M.CG k).ts.set k _).set k _)} _;rw[List.set_set];refine h0.put hB hk hc fun mem La=>⟨?_,(iN _).1,(iN _).2,fun o ho=>by rw[La o ho];exact a4 o ho,a5,a6,a7,a8,a9⟩
   show(M.th k).pc+1=(A0.th k).lt.pc+1;rw[iO]
 | IV=>exact ho.elim
 | out a=>
  rw[Al.vA,Ms,Kk ho];refine⟨A,_,.nil A,.ev AD hi rfl rfl (fun h=>by cases h),?_⟩;unfold Al.Di;rw[set_set];refine h.set hB hT hk ?_;obtain⟨a1,a2,a3,a4,a5,a6,a7,a8,a9⟩:=hK;exact⟨by show(M.th k).pc+1=(A.th k).lt.pc+1;rw[a1],a2,a3,a4,a5,a6,a7,a8,by show(M.th k).out++_=(A.th k).out++_;rw[a9]⟩
 | Gb q=>
  rw[Al.vC,Ms];refine⟨A,_,.nil A,Od rfl,?_⟩;unfold Al.Di;rw[set_set];refine h.set hB hT hk ?_;obtain⟨a1,a2,a3,a4,a5,a6,a7,a8,a9⟩:=hK;exact⟨rfl,a2,a3,a4,a5,a6,a7,a8,a9⟩
 | jz a q=>
  rw[Al.lr,Ms,Kk ho.1];refine⟨A,_,.nil A,Od rfl,?_⟩;obtain⟨a1,a2,a3,a4,a5,a6,a7,a8,a9⟩:=hK;by_cases h0:EJ (A.th k).lt.x.R a=0
  ·rw[In h0];unfold Al.Di;rw[set_set];refine h.set hB hT hk ⟨?_,a2,a3,a4,a5,a6,a7,a8,a9⟩;show q.toNat=Option.getD (if EJ (A.th k).lt.x.R a=0 then some q.toNat else none) _;rw[In h0];rfl
  ·rw[I h0];refine h.set hB hT hk ⟨?_,a2,a3,a4,a5,a6,a7,a8,a9⟩;show(M.th k).pc+1=Option.getD (if EJ (A.th k).lt.x.R a=0 then some q.toNat else none) _;rw[I h0,a1];rfl
 | EF s=>
  rw[Al.o6,Ms];exact nah
 | halt=>
  rw[Al.o7,Ms];exact nah
end
section
namespace Al
def Xh (Ab:Nat->List GI) (M:Al) (k:Nat):Al:=(M.step Ab k).CG k
def Df (Ab:Nat->List GI) (k:Nat):Nat->Al->Al
 | 0,M=>M
 | n+1,M=>if (M.th k).BG=0 then Df Ab k n (M.Xh Ab k) else M
end Al
structure Xl (X:Nat->Cx) (T n M:Nat) (K:Int) (R:Al) (A:AM) (G:Nat->Gt):Prop where
 abs:Q3 X T R A
 l1:L1 X T n M K A G
structure MCx (X:Nat->Cx) (T n:Nat) (Ab:Nat->List GI):Prop where
 hB:∀t,t < T->(X t).Ac=32+64*(t:Int)
 hT:T<=3
 h6:n<=6
 hX:∀t,t < T->Ny (X t)/\(X t).n=n
 hc:∀t,t < T->Ab t=(X t).Ab
 ok:∀t,t < T->∀i,i∈(X t).Ab->Px 4000 i
variable {X:Nat->Cx} {T n M:Nat} {Ab:Nat->List GI} (hC:MCx X T n Ab)
include hC
theorem zM (h:L1 X T n M K A G) {k:Nat} (hk:k < T) (h0:(A.th k).st=0):∃i,(X k).Ab[(A.th k).lt.pc]?=some i/\AeL (X k) (A.th k).lt i/\∀e,XF (X k).Ac i (A.th k).lt.x=none->evk i (A.th k).lt.x=some e->UL (G k)=some e:=by
 obtain⟨j,lt',hr,ha,_⟩:=h.th k hk h0;cases hr with
 | nil=>
  obtain⟨i,e,h1,h2,h3,h4⟩:=bV (hC.hX k hk).1 ha;exact⟨i,h1,.inr ⟨h2,e,h3⟩,fun e' _ h5=>by rw[h3] at h5;cases h5;exact h4⟩
 | cons h1 _=>
  unfold r9 at h1;cases hi:(X k).Ab[(A.th k).lt.pc]? with
  | none=>rw[hi] at h1;cases h1
  | some i=>
   rw[hi] at h1;have h2:(XF (X k).Ac i (A.th k).lt.x).map (fun r=>(⟨r.2.getD ((A.th k).lt.pc+1),r.1⟩:LT))=some _:=h1;cases he:XF (X k).Ac i (A.th k).lt.x with
   | none=>rw[he] at h2;cases h2
   | some r=>exact⟨i,rfl,.inl ⟨r,he⟩,fun e h3=>(by rw[he] at h3;cases h3)⟩
theorem zQ {g:Gt} {d a:Nat} {j:Int} (h:UL g=some (.DL d a j)):a=16/\j=1:=by
 have _:=hC;unfold UL at h;split at h
 ·have:=bL (g:=g) (e:= .DL d a j) (by assumption) (by unfold UL;simp only[*]);rcases this with⟨u,hu⟩ | ⟨s,hs⟩
  ·cases hu
  ·cases hs
 all_goals first | cases h;done | skip
 all_goals first | (cases h;exact⟨rfl,rfl⟩) | skip
 all_goals (simp only[Qam] at h;obtain⟨_,_,h⟩:=h;cases h)
theorem Xl.fs (h:Xl X T n M K R A G) (hK:K < 1000000000000000000) {k:Nat} (hk:k < T) (h0:(A.th k).st=0):∃A0 A1,UX X k A A0/\AS X A0 k false A1/\Q3 X T (R.step Ab k) A1:=by
 obtain⟨i,hi,hf,he⟩:=zM hC h.l1 hk h0;refine ru hC.hB hC.hT h.abs hk (hC.hc k hk) h0 hi (hC.ok k hk i (Qai hi)) hf fun A0 d a j f hx=> ?_
 have ek:XF (X k).Ac i (A.th k).lt.x=none:=by
  rcases hf with⟨r,hr⟩ | ⟨h1,_⟩
  ·cases i with
   | DL _ _ _ _=>rfl
   | op _ _ _ _=>cases hx
   | load d a k=>have EB:(Xv _).map _=some (Ek.DL _ _ _):=hx;simp only[Qam] at EB;obtain⟨_,_,EB⟩:=EB;cases EB
   | store a k b=>have EB:(Xv _).map _=some (Ek.DL _ _ _):=hx;simp only[Qam] at EB;obtain⟨_,_,EB⟩:=EB;cases EB
   | JL d a k b c=>rfl
   | _=>cases hx
  ·exact h1
 obtain⟨rfl,rfl⟩:=zQ hC (he _ ek hx);obtain⟨h2,_⟩:=f.l1 hC.h6 hC.hX hk h.l1 hK;have:=h2.c0;exact Fu Y Y
theorem Xl.step (h:Xl X T n M K R A G) (hK:K < 1000000000000000000) {k:Nat} (hk:k < T):∃A0 A' g',UX X k A A0/\((A.th k).st=0->AS X A0 k false A'/\Us (X k) n A0 (G k) k false A' g')/\((A.th k).st≠0->A'=A/\g'=G k)/\Xl X T n M (K+1) (R.step Ab k) A' (Cv G k g'):=by
 by_cases h0:(A.th k).st=0
 ·obtain⟨A0,A1,f,hs,ha⟩:=h.fs hC hK hk h0;obtain⟨h2,_⟩:=f.l1 hC.h6 hC.hX hk h.l1 hK;obtain⟨g',hg,hl,_⟩:=h2.step hC.h6 hC.hX hK hk hs;exact⟨A0,A1,g',f,fun _=>⟨hs,hg⟩,fun h=>UV h0 h,ha,hl⟩
 ·have e:R.step Ab k=R:=by
   unfold Al.step;rw[In (.inr (by rw[(h.abs.th k hk).st];exact h0))]
  refine⟨A,A,G k,.nil A,fun h=>UV h h0,fun _=>⟨rfl,rfl⟩,?_,?_⟩
  ·rw[e];exact h.abs
  ·rw[FL];exact h.l1.Aau (by have:=h.l1.c0;omega)
theorem Xl.Cy (h:Xl X T n M K R A G) (hK:K < 1000000000000000000) {k:Nat} (hk:k < T):∃A',UX X k A A'/\Xl X T n M K (R.Cy k) A' G:=by
 obtain⟨A',f,ha,_⟩:=h.abs.Cy hC.hB hC.hT hk;exact⟨A',f,ha,(f.l1 hC.h6 hC.hX hk h.l1 hK).1⟩
theorem zW (h:Xl X T n M K R A G) (hK:K < 1000000000000000000) {k:Nat} (hk:k < T) (h0:(A.th k).st=0):∃A',It X k A A'/\Q3 X T (R.Xh Ab k) A':=by
 obtain⟨A0,A1,f,hs,ha⟩:=h.fs hC hK hk h0;obtain⟨A2,f2,h2,_,QF,_⟩:=ha.CG hC.hB hC.hT hk;exact⟨A2,⟨A0,A1,f,hs,f2,QF⟩,h2⟩
theorem jq (ha:Q3 X T R A) (hs:pP X T n M K Tk A G k) (hk:k < T) (hK:K < 100000000000000000) (hM:2*M+140<=200000):((R.Df Ab k 200000).th k).BG≠0:=by
 have split:∀i j R,Al.Df Ab k (i+j) R=Al.Df Ab k j (Al.Df Ab k i R):=by
  intro i;induction i with
  | zero=>intro j R;rw[Qaw];rfl
  | succ i ih=>
   intro j R;rw[Nat.succ_add];by_cases h0:(R.th k).BG=0
   ·show(if _ then _ else _)=Al.Df Ab k j (if _ then _ else _);rw[In h0,In h0,ih]
   ·show(if _ then _ else _)=Al.Df Ab k j (if _ then _ else _);rw[I h0,I h0];cases j with
    | zero=>rfl
    | succ j=>show _=if _ then _ else _;rw[I h0]
 have stay:∀j R,(R.th k).BG≠0->Al.Df Ab k j R=R:=by
  intro j R h0;cases j with
  | zero=>rfl
  | succ j=>show(if _ then _ else _)=_;rw[I h0]
 obtain⟨i,B,hi,hp,uU⟩:=rm hC.h6 hC.hX hk hs hK Y (fun i A=>Q3 X T (Al.Df Ab k i R) A) ha (fun i A G K hp hK' RO h0=>by
   obtain⟨A',h1,h2⟩:=zW hC ⟨hp,RO.l1⟩ Y hk h0;refine⟨A',h1,?_⟩;show Q3 X T (Al.Df Ab k (i+1) R) A';rw[split];show Q3 X T (if _ then _ else _) A';rw[In (by rw[(hp.th k hk).st];exact h0)];exact h2)
 have AD:((Al.Df Ab k i R).th k).BG≠0:=by rw[(hp.th k hk).st];exact uU
 rw[show(200000:Nat)=i+(200000 - i) by omega,split,stay _ _ AD];exact AD
end
theorem wF (s:Bt):∀(d:Nat) (i:Bool) (n b o:Int),WF cells s d i->1<=n->Aq s n=some (b,o)->AB s/\(i=true->o=n*ob s):=by
 induction s with
 | nil=>intro d i n b o _ _ h;cases h;exact⟨trivial,fun _=>by simp[ob]⟩
 | set v op x y r ih=>intro d i n b o hw hn h;exact ih d i n b o hw.2.2.2.2 hn h
 | get v f z x r ih=>intro d i n b o hw hn h;exact ih d i n b o hw.2.2.2.2 hn h
 | put f z x y r ih=>intro d i n b o hw hn h;exact ih d i n b o hw.2.2.2.2 hn h
 | out x r ih=>
  intro d i n b o hw hn h;rw[Aq] at h;cases hc:Aq r n with
  | none=>rw[hc] at h;cases h
  | some q=>
   rw[hc] at h;cases h;obtain⟨h1,h2⟩:=ih d i n q.1 q.2 hw.2 hn hc;refine⟨h1,fun hi=> ?_⟩;rw[h2 hi,ob];push_cast;rw[Qa7];omega
 | EA x b r ihb ih=>
  intro d i n b' o hw hn h;rw[Aq] at h;cases hb:Aq b n with
  | none=>rw[hb] at h;cases h
  | some p=>
   rw[hb] at h;cases hc:Aq r n with
   | none=>rw[hc] at h;cases h
   | some q=>
    rw[hc] at h;cases h;obtain⟨h1,h2⟩:=ih d i n q.1 q.2 hw.2.2.2 hn hc;obtain⟨h3,h4⟩:=ihb (d+1) i n p.1 p.2 hw.2.2.1 hn hb;refine⟨⟨h3,h1⟩,fun hi=> ?_⟩;rw[h2 hi,h4 hi,ob];push_cast;rw[Qa7]
 | loop k b r ihb ih=>
  intro d i n b' o hw hn h;rw[Aq] at h;have hk:=hw.1;have hnk:1<=n*k:=by have:1*1<=n*k:=Qc5 hn hk.1 AC Y;omega
  cases hb:Aq b (n*k) with
  | none=>rw[hb] at h;cases h
  | some p=>
   rw[hb] at h;cases hc:Aq r n with
   | none=>rw[hc] at h;cases h
   | some q=>
    rw[hc] at h;cases h;obtain⟨h1,h2⟩:=ih d i n q.1 q.2 hw.2.2.2 hn hc;obtain⟨h3,h4⟩:=ihb (d+1) i (n*k) p.1 p.2 hw.2.2.1 hnk hb;refine⟨⟨h3,h1⟩,fun hi=> ?_⟩;rw[h2 hi,h4 hi,ob];push_cast;rw[Qa7,Int.toNat_of_nonneg Y,Qde]
 | atomic b r ihb ih=>
  intro d i n b' o hw hn h;rw[Aq] at h;cases hb:Aq b 1 with
  | none=>rw[hb] at h;cases h
  | some p=>
   rw[hb] at h;replace h:(if 8 < p.2 then none else match Aq r n with | none=>none | some (b2,o2)=>some (n+b2,o2))=some (b',o):=h;split at h
   ·cases h
   ·rename_i h8;cases hc:Aq r n with
    | none=>rw[hc] at h;cases h
    | some q=>
     rw[hc] at h;cases h;obtain⟨h1,_⟩:=ih d i n q.1 q.2 hw.2.2.2 hn hc;obtain⟨h3,h4⟩:=ihb (d+1) true 1 p.1 p.2 hw.2.2.1 AC hb;refine⟨⟨⟨h3,?_⟩,h1⟩,fun hi=> ?_⟩
     ·have:=h4 rfl;omega
     ·have:=hw.1;rw[hi] at this;cases this
def Lb:Bt->Nat
 | .nil=>0
 | .set _ _ _ _ r=>5+Lb r
 | .get _ _ _ _ r=>60+Lb r
 | .put _ _ _ _ r=>12+Lb r
 | .out _ r=>6+Lb r
 | .atomic b r=>60+Lb b+Lb r
 | .EA _ b r=>4+Lb b+Lb r
 | .loop n b r=>2+n.toNat*(6+Lb b)+Lb r
theorem Acq (s:Bt):∀(d:Nat) (i:Bool),WF cells s d i->d<=3->(Lb s:Int)<=60*((4 ^ (3 - d):Nat):Int)*Iw s:=by
 have p1:∀d,d<=3->(1:Int)<=((4 ^ (3 - d):Nat):Int):=fun d _=>by have:=Nat.one_le_pow (3 - d) 4 AC;omega
 have p4:∀d,d < 3->((4 ^ (3 - d):Nat):Int)=4*((4 ^ (3 - (d+1)):Nat):Int):=fun d hd=>by
  rw[show 3 - d=(3 - (d+1))+1 by omega,Nat.pow_succ];omega
 induction s with
 | nil=>intro d i _ _;simp[Lb,Iw]
 | set v op x y r ih=>intro d i hw hd;have:=ih d i hw.2.2.2.2 hd;have:=p1 d hd;simp only[Lb,Iw];rw[Qa7];omega
 | get v f z x r ih=>intro d i hw hd;have:=ih d i hw.2.2.2.2 hd;have:=p1 d hd;simp only[Lb,Iw];rw[Qa7];omega
 | put f z x y r ih=>intro d i hw hd;have:=ih d i hw.2.2.2.2 hd;have:=p1 d hd;simp only[Lb,Iw];rw[Qa7];omega
 | out x r ih=>intro d i hw hd;have:=ih d i hw.2 hd;have:=p1 d hd;simp only[Lb,Iw];rw[Qa7];omega
 | EA x b r ihb ih=>
  intro d i hw hd;have h1:=ih d i hw.2.2.2 hd;have h2:=ihb (d+1) i hw.2.2.1 hw.2.1;exact nai
 | atomic b r ihb ih=>
  intro d i hw hd;have h1:=ih d i hw.2.2.2 hd;have h2:=ihb (d+1) true hw.2.2.1 hw.2.1;exact nai
 | loop k b r ihb ih=>
  intro d i hw hd;have h1:=ih d i hw.2.2.2 hd;have h2:=ihb (d+1) i hw.2.2.1 hw.2.1;have h3:=p1 d hd;have h4:=p4 d hw.2.1;have hk:=hw.1;have h5:(k.toNat*(6+Lb b):Nat)<=4*(6+Lb b):=Qbw _ Y;have h6:60*((4 ^ (3 - d):Nat):Int)*Iw b=4*(60*((4 ^ (3 - (d+1)):Nat):Int)*Iw b):=by rw[h4,<-Qde,<-Qde,<-Qde,Int.mul_comm 60 4]
  simp only[Lb,Iw];rw[Qa7,Qa7];omega
theorem eY (s:Bt):∀(d:Nat) (i:Bool) (n b o:Int),WF cells s d i->1<=n->Aq s n=some (b,o)->0<=b/\(i=true->B9 s=Lb s)/\(i=false->n*B9 s<=n*Lb s+340*b):=by
 induction s with
 | nil=>intro d i n b o _ _ h;cases h;exact⟨AC,fun _=>rfl,fun _=>by simp[B9,Lb]⟩
 | set v op x y r ih=>
  exact nac
 | get v f z x r ih=>
  exact nac
 | put f z x y r ih=>
  exact nac
 | out x r ih=>
  intro d i n b o hw hn h;rw[Aq] at h;cases hc:Aq r n with
  | none=>rw[hc] at h;cases h
  | some q=>
   rw[hc] at h;cases h;obtain⟨h0,h1,h2⟩:=ih d i n q.1 q.2 hw.2 hn hc;refine⟨h0,fun hi=>by simp only[B9,Lb,h1 hi],fun hi=> ?_⟩;have:=h2 hi;simp only[B9,Lb];push_cast;rw[Qa7,Qa7];omega
 | EA x b r ihb ih=>
  intro d i n b' o hw hn h;rw[Aq] at h;cases hb:Aq b n with
  | none=>rw[hb] at h;cases h
  | some p=>
   rw[hb] at h;cases hc:Aq r n with
   | none=>rw[hc] at h;cases h
   | some q=>
    rw[hc] at h;cases h;obtain⟨h0,h1,h2⟩:=ih d i n q.1 q.2 hw.2.2.2 hn hc;obtain⟨g0,g1,g2⟩:=ihb (d+1) i n p.1 p.2 hw.2.2.1 hn hb;refine⟨Y,fun hi=>by simp only[B9,Lb,h1 hi,g1 hi],fun hi=> ?_⟩;have:=h2 hi;have:=g2 hi;simp only[B9,Lb];push_cast;simp only[Qa7];omega
 | loop k b r ihb ih=>
  intro d i n b' o hw hn h;rw[Aq] at h;have hk:=hw.1;have hnk:1<=n*k:=by have:1*1<=n*k:=Qc5 hn hk.1 AC Y;omega
  cases hb:Aq b (n*k) with
  | none=>rw[hb] at h;cases h
  | some p=>
   rw[hb] at h;cases hc:Aq r n with
   | none=>rw[hc] at h;cases h
   | some q=>
    rw[hc] at h;cases h;obtain⟨h0,h1,h2⟩:=ih d i n q.1 q.2 hw.2.2.2 hn hc;obtain⟨g0,g1,g2⟩:=ihb (d+1) i (n*k) p.1 p.2 hw.2.2.1 hnk hb;refine⟨Y,fun hi=>by simp only[B9,Lb,h1 hi,g1 hi],fun hi=> ?_⟩;have:=h2 hi;have:=g2 hi;simp only[B9,Lb];push_cast;rw[Int.toNat_of_nonneg Y];simp only[Qa7,<-Qde];omega
 | atomic b r ihb ih=>
  intro d i n b' o hw hn h;rw[Aq] at h;cases hb:Aq b 1 with
  | none=>rw[hb] at h;cases h
  | some p=>
   rw[hb] at h;replace h:(if 8 < p.2 then none else match Aq r n with | none=>none | some (b2,o2)=>some (n+b2,o2))=some (b',o):=h;split at h
   ·cases h
   ·cases hc:Aq r n with
    | none=>rw[hc] at h;cases h
    | some q=>
     rw[hc] at h;cases h;obtain⟨h0,_,h2⟩:=ih d i n q.1 q.2 hw.2.2.2 hn hc;obtain⟨g0,g1,_⟩:=ihb (d+1) true 1 p.1 p.2 hw.2.2.1 AC hb;refine⟨Y,fun hi=> ?_,fun hi=> ?_⟩
     ·have:=hw.1;rw[hi] at this;cases this
     ·have:=h2 hi;rw[show B9 (.atomic b r)=400+B9 b+B9 r from rfl,show Lb (.atomic b r)=60+Lb b+Lb r from rfl,g1 rfl,show((400+Lb b+B9 r:Nat):Int)=400+Lb b+B9 r by omega,show((60+Lb b+Lb r:Nat):Int)=60+Lb b+Lb r by omega];rw[Qa7,Qa7,Qa7,Qa7,Qa7];omega
theorem zU {y:qr} (h:PS y p):∀t,t∈y.Aa->(WF y.cells t 0 false/\AB t)/\B9 t<=54780:=by
 have D3:=h.Cc;unfold Ew at D3;simp only[Qaf,Qad,Qa4] at D3;obtain⟨fW,h3,Ie⟩:=D3;intro t ht;have hw:=h.fw.th t ht;have Nk:=Ie t ht;cases eF:Aq t 1 with
 | none=>rw[eF] at Nk;cases Nk
 | some q=>
  rw[eF] at Nk;have hb:q.1<=3:=by simpa using Nk
  refine⟨⟨hw,(wF t 0 false 1 q.1 q.2 hw AC eF).1⟩,?_⟩;have h1:=(eY t 0 false 1 q.1 q.2 hw AC eF).2.2 rfl;have h2:=Acq t 0 false hw AC;have h4:=h.fn.all t ht;have h5:(60:Int)*((4 ^ (3 - 0):Nat):Int)*Iw t<=60*((4 ^ (3 - 0):Nat):Int)*14:=Qco h4 AC;have h6:(60:Int)*((4 ^ (3 - 0):Nat):Int)*14=53760:=AC
  omega
section
def PL (y:qr) (t:Nat):Cx:=⟨32+64*(t:Int),y.cells.toNat,Gf y.cells t (y.Aa.getD t .nil),y.cells⟩
def zPM:Du:=⟨fun _=>0,fun _=>0,fun _=>0,fun _=>0,fun _=>0,fun _=>0,fun _=>0,0,0,fun _=>0,fun _=>0⟩
def VZ (y:qr) (t:Nat):KS:=⟨y.Aa.getD t .nil,.done,fun _=>0,fun _=>0,GP,[]⟩
def A0:AM:=⟨fun _=>0,fun _=>⟨⟨0,⟨fun _=>0,zPM⟩⟩,[],0,[]⟩⟩
def R0 (y:qr):Al:=⟨List.replicate 256 0,(CL y.cells y.Aa y.Aa.length).map fun t=>me (t.map GI.DR)⟩
theorem xx (o:Nat):zPM.get o=0:=by unfold Du.get;cases JM.Pl o <;>rfl
variable {y:qr} {p:RP} (h:PS y p)
include h
omit h in
theorem yC (ht:t < y.Aa.length):y.Aa.getD t .nil∈y.Aa:=by rw[GE,Id ht];exact Qab _
theorem Oj:MCx (PL y) y.Aa.length y.cells.toNat fun t=>Gf y.cells t (y.Aa.getD t .nil):=by
 obtain⟨h1,h2,h3,h4⟩:=JG h;have h0:=h.fw.c0;refine⟨fun _ _=>rfl,h4,Y,fun t ht=>⟨⟨⟨by show 32<=32+64*(t:Int);omega,by show 32+64*(t:Int)<=160;omega⟩,rfl,h3⟩,rfl⟩,fun _ _=>rfl,fun t ht i hi=> ?_⟩;exact(h1 _ (Qbg.2 ⟨t,Qbk.2 ht,rfl⟩)).2.1 i hi
theorem AaV (ht:t < y.Aa.length):(R0 y).th t=me ((Gf y.cells t (y.Aa.getD t .nil)).map GI.DR):=by
 have _:=h;unfold Al.th R0 CL;rw[GE,Qax,Qax,Qcx ht];rfl
theorem ZP:Q3 (PL y) y.Aa.length (R0 y) A0:=by
 refine⟨Qcs ..,by show(List.map _ (CL _ _ _)).length=_;rw[z9,Is],fun a ha=> ?_,fun t ht=> ?_⟩
 ·show(List.replicate 256 (0:Int)).getD a 0=0;rw[GE,Qcn];split <;>rfl
 ·rw[AaV h ht];refine⟨rfl,rfl,fun r hr=> ?_,fun o ho=> ?_,rfl,fun p hp=> ?_,by show([]:List (Int×Int)).length<=4;decide,rfl,rfl⟩
  ·show(List.replicate 8 (0:Int)).getD r 0=0;rw[GE,Qcn];split <;>rfl
  ·show(List.replicate 256 (0:Int)).getD _ 0=zPM.get o;rw[xx,GE,Qcn];split <;>rfl
  ·have:p∈([]:List (Int×Int)):=hp;cases this
theorem qW (ht:t < y.Aa.length):∃q',Sh GP (VZ y t) q'/\Tu (PL y t) 54790 (A0.th t).lt (EV q'):=by
 have hx:=((Oj h).hX t ht).1;obtain⟨⟨hw,Su⟩,hd⟩:=zU h _ (yC ht);have Zh:=W8 y.cells t (y.Aa.getD t .nil) (PO.of _ 0 false hw);have hp:NP (PL y t).Ac (PL y t).n (PL y t).Ab 0 (.rest (VZ y t).s (VZ y t).k) 0:=by
  have e:(PL y t).Ab=rz 0 (Gx (32+64*t) y.cells.toNat false 0 0 (y.Aa.getD t .nil))++[.halt]:=Zh;refine⟨fun j x hj=> ?_,?_⟩
  ·rw[e,Qaw];exact(m9 (d9.1 hj).1).trans hj
  ·show(PL y t).Ab[0+(Gx _ _ _ _ _ _).length]?=_;rw[e,Qaw,Qag (by rw[CX];exact LE _),CX];show[GI.halt][(Gx (32+64*(t:Int)) y.cells.toNat false 0 0 (y.Aa.getD t .nil)).length - _]?=_;rw[Qbt];rfl
 have hm:Mt (PL y t).n (PL y t).cells ⟨fun _=>0,0⟩ GP GP (VZ y t) zPM:=⟨fun _ _=>rfl,fun _ _=>rfl,⟨⟨hw,Su⟩,trivial⟩,fun hb=>by cases hb⟩;have Afi:EH (VZ y t)<=54790:=by
  show 1+B9 (y.Aa.getD t .nil)+1<=54790;omega
 obtain⟨j,lt',hr,g',ha,q',rfl,hk,hle⟩:=Rn.outside (x:=PL y t) (k:=0) (P:=fun j g'=>∃q',g'=EV q'/\Sh GP (VZ y t) q'/\j+KB (PL y t) (EV q')<=EH (VZ y t)) (lt:=(A0.th t).lt) hx hp rfl hm fun q' j hk hle=>⟨q',rfl,hk,Y⟩
 exact⟨q',hk,j,lt',hr,ha,Y⟩
theorem start:∃G,Xl (PL y) y.Aa.length y.cells.toNat 54790 0 (R0 y) A0 G/\∀t,t < y.Aa.length->∃q',G t=EV q'/\Sh GP (VZ y t) q':=by
 have hC:=Oj h;have key:∀t,∃g,t < y.Aa.length->∃q',g=EV q'/\Sh GP (VZ y t) q'/\Tu (PL y t) 54790 (A0.th t).lt (EV q'):=fun t=>by
  by_cases ht:t < y.Aa.length
  ·obtain⟨q',hk,ho⟩:=qW h ht;exact⟨EV q',fun _=>⟨q',rfl,hk,ho⟩⟩
  ·exact⟨EV (VZ y 0),fun h=>UV h ht⟩
 obtain⟨G,hG⟩:=Classical.axiomOfChoice key;refine⟨G,⟨ZP h,fun t ht _=> ?_,fun t ht=> ?_,by show(0:Int)<=0/\(0:Int)<=0;decide,fun t ht=> ?_,⟨fun t c v ht hc hv=> ?_,fun t a v ht hv=> ?_,fun t ht=> ?_,fun t t' c ht FI hc hx=> ?_,fun c hc _=>⟨0,rfl,AC,by show(0:Int)<=0;decide⟩⟩,fun t ht h0=>UV rfl h0⟩,fun t ht=> ?_⟩
 ·obtain⟨q',e,_,j,lt',h1,h2,h3⟩:=hG t ht;rw[e];exact⟨j,lt',h1,h2,Y⟩
 ·obtain⟨q',e,_,j,lt',h1,h2,h3⟩:=hG t ht;have:=ko (PL y t) q';rw[e];exact⟨by rw[this.2];omega,fun _=>Y⟩
 ·obtain⟨q',e,_⟩:=hG t ht;have:=Fw 0 q';rw[e,this.2.2.1,this.2.2.2];show(0<=(0:Int)/\(0:Int)<=0)/\(0:Int)<=0/\(0:Int)<=0;decide
 ·obtain⟨q',e,_⟩:=hG t ht;have Wy:DK (G t) c=some v:=hv;rw[e,(Fw 0 q').1] at Wy;cases Wy
 ·obtain⟨q',e,_⟩:=hG t ht;have Wy:(a,v)∈[]++Ba y.cells.toNat (G t):=hv;rw[e,(Fw _ q').2.1] at Wy;cases Wy
 ·obtain⟨q',e,_⟩:=hG t ht;show([]++Ba y.cells.toNat (G t)).Pairwise Xg;rw[e,(Fw _ q').2.1];exact .nil
 ·obtain⟨q',e,_⟩:=hG t ht;have EB:(DK (G t) c).isSome=true\/∃v,(8+c,v)∈[]++Ba y.cells.toNat (G t):=hx;rw[e,(Fw y.cells.toNat q').1,(Fw y.cells.toNat q').2.1] at EB;rcases EB with EB | ⟨v,hv⟩
  ·cases EB
  ·cases hv
 ·obtain⟨q',e,hk,_⟩:=hG t ht;exact⟨q',e,hk⟩
end
def ndT (f z:List Int) (u:List Bool) (b:Bool) (x:Nd):Prop:=
 (x.kind=103\/x.kind=112)->(∃i:Nat,f[i]?=some x.first/\z[i]?=some x.size)/\u[x.first.toNat]?=some true/\(x.kind=112->b=true)
structure VsT (f z:List Int) (c:Int):Prop where
 len:z.length=f.length
 lt:∀(i:Nat) (a s:Int),f[i]?=some a->z[i]?=some s->0<=a/\1<=s/\a+s<=c
 ap:∀(i j:Nat) (a s e:Int),i < j->f[i]?=some a->z[i]?=some s->f[j]?=some e->a+s<=e
structure TI (r:RS):Prop where
 vs:VsT r.first r.size r.p.cells
 pl:r.p.BJ.length=r.p.Aa.length
 all:∀(k:Nat) l u b,r.p.Aa[k]?=some l->r.p.Ao[k]?=some u->r.p.BJ[k]?=some b->∀x,x∈l->ndT r.first r.size u b x
theorem TI.Dl:TI .Dl:=⟨⟨rfl,fun i a s h _=>by simp[RS.Dl] at h,fun i j a s e _ h _ _=>by simp[RS.Dl] at h⟩,rfl,fun k l u b h _ _=>by simp[RS.Dl] at h⟩
structure NK (r q:RS):Prop where
 sh:q.As=r.As
 f:q.first=r.first
 z:q.size=r.size
 th:q.p.Aa=r.p.Aa
 c:q.p.cells=r.p.cells
 tl:q.p.Ao.length=r.p.Ao.length
 pl:q.p.BJ.length=r.p.BJ.length
 t1:∀(k:Nat) (u':List Bool),q.p.Ao[k]?=some u'->∃u:List Bool,r.p.Ao[k]?=some u/\u'.length=u.length/\∀i:Nat,u[i]?=some true->u'[i]?=some true
 p1:∀(k:Nat) (b':Bool),q.p.BJ[k]?=some b'->∃b:Bool,r.p.BJ[k]?=some b/\(b=true->b'=true)
theorem NK.refl (r:RS):NK r r:=⟨rfl,rfl,rfl,rfl,rfl,rfl,rfl,fun _ u h=>⟨u,h,rfl,fun _ h=>h⟩,fun _ b h=>⟨b,h,id⟩⟩
theorem NK.trans {a b c:RS} (h:NK a b) (k:NK b c):NK a c:=
 ⟨k.sh.trans h.sh,k.f.trans h.f,k.z.trans h.z,k.th.trans h.th,k.c.trans h.c,k.tl.trans h.tl,k.pl.trans h.pl,fun i u h1=>by
   obtain⟨u1,h2,h3,h4⟩:=k.t1 i u h1;obtain⟨u2,h5,h6,h7⟩:=h.t1 i u1 h2;exact⟨u2,h5,h3.trans h6,fun j hj=>h4 j (h7 j hj)⟩,fun i b h1=>by
   obtain⟨b1,h2,h3⟩:=k.p1 i b h1;obtain⟨b2,h4,h5⟩:=h.p1 i b1 h2;exact⟨b2,h4,fun h=>h3 (h5 h)⟩⟩
theorem Q4 {α:Type} {l:List α} (h:l≠[]):∃ts t,l=ts++[t]:=by
 rcases f5 l with h0 | ⟨ts,t,h0⟩
 ·exact UV h0 h
 ·exact⟨ts,t,by rw[h0,m8]⟩
theorem L9 (ts:List α) (t x:α) (k:Nat) (h:(ts++[t])[k]?=some x):(k < ts.length/\ts[k]?=some x)\/(k=ts.length/\x=t):=by
 by_cases hk:k < ts.length
 ·rw[m9 hk] at h;exact .inl ⟨hk,h⟩
 ·rw[Qag Y] at h;cases hj:k - ts.length with
  | zero=>rw[hj] at h;cases h;exact .inr ⟨Y,rfl⟩
  | succ j=>rw[hj] at h;simp at h
theorem cD (h:r.p.Ao≠[]) (c:Int):NK r (r.EY c):=by
 obtain⟨ts,t,h0⟩:=Q4 h;have e:(r.EY c).p.Ao=ts++[t.set c.toNat true]:=by unfold RS.EY;simp[h0]
 refine⟨rfl,rfl,rfl,rfl,rfl,by rw[e,h0];simp,rfl,fun k u hu=> ?_,fun _ b h=>⟨b,h,id⟩⟩;rw[e] at hu;rw[h0];rcases L9 _ _ _ _ hu with⟨hk,hx⟩ | ⟨hk,rfl⟩
 ·exact⟨u,by rw[m9 hk];exact hx,rfl,fun _ h=>h⟩
 ·refine⟨t,by rw[hk,Qag (LE _),Qbt];rfl,Qaa ..,fun i hi=> ?_⟩;rw[Qb3];split
  ·split
   ·rfl
   ·have:=(d9.1 hi).1;omega
  ·exact hi
theorem mS (h:r.p.BJ≠[]):NK r r.DG/\r.DG.p.BJ.getLast?=some true:=by
 obtain⟨ts,t,h0⟩:=Q4 h;have e:r.DG.p.BJ=ts++[true]:=by unfold RS.DG;simp[h0]
 refine⟨⟨rfl,rfl,rfl,rfl,rfl,rfl,by rw[e,h0];simp,fun _ u h=>⟨u,h,rfl,fun _ h=>h⟩,fun k b hb=> ?_⟩,by rw[e];simp⟩;rw[e] at hb;rw[h0];rcases L9 _ _ _ _ hb with⟨hk,hx⟩ | ⟨hk,rfl⟩
 ·exact⟨b,by rw[m9 hk];exact hx,id⟩
 ·exact⟨t,by rw[hk,Qag (LE _),Qbt];rfl,fun _=>rfl⟩
def XK (q:RS) (x:Nd):Prop:=(x.kind=103\/x.kind=112)->(∃i:Nat,q.first[i]?=some x.first/\q.size[i]?=some x.size)/\(∃u,q.p.Ao.getLast?=some u/\u[x.first.toNat]?=some true)/\(x.kind=112->q.p.BJ.getLast?=some true)
theorem aP (r:RS) (x:Nd) (s:ByteArray) {q:RS} {y:Nd} (he:r.JA x s= .ok (q,y)):NK r q/\q.p.Ao=r.p.Ao/\q.p.BJ=r.p.BJ/\y.kind=x.kind/\y.first=x.first/\y.size=x.size:=by
 unfold RS.JA at he;split at he
 ·cases he
 ·split at he
  ·cases he;exact⟨NK.refl _,rfl,rfl,rfl,rfl,rfl⟩
  ·split at he
   ·cases he
   ·cases he;exact⟨⟨rfl,rfl,rfl,rfl,rfl,rfl,rfl,fun _ u h=>⟨u,h,rfl,fun _ h=>h⟩,fun _ b h=>⟨b,h,id⟩⟩,rfl,rfl,rfl,rfl,rfl⟩
section
variable {R:RS} {n:Nat} (hg:IP R n) (hi:TI R) (hT:R.p.Aa≠[])
include hg hi hT
theorem gm:R.p.Ao≠[]:=fun h=>have _:=hi;hT (RK (by rw[<-hg.tl,h];rfl))
omit hg in
theorem yh:R.p.BJ≠[]:=fun h=>hT (RK (by rw[<-hi.pl,h];rfl))
theorem lB (x:Nd) (s:ByteArray) (w:Ws):NK R (R.cell x s w).1/\(R.cell x s w).1.p.BJ=R.p.BJ/\(R.cell x s w).2.1.kind=x.kind/\((R.cell x s w).2.2=true->(∃i:Nat,R.first[i]?=some (R.cell x s w).2.1.first/\R.size[i]?=some (R.cell x s w).2.1.size)/\
    ∃u,(R.cell x s w).1.p.Ao.getLast?=some u/\u[(R.cell x s w).2.1.first.toNat]?=some true):=by
 unfold RS.cell;simp only[];by_cases hk:A6 R.As s < 0
 ·simp only[hk,Qau];exact⟨NK.refl _,by trivial,by trivial,fun h=>by cases h⟩
 ·have Cq:=(Of R.As s).resolve_left Y;have xj:(A6 R.As s).toNat < R.first.length:=by rw[hg.fl];omega
  have hzl:(A6 R.As s).toNat < R.size.length:=by rw[hi.vs.len];exact xj
  have hf:R.first[(A6 R.As s).toNat]?=some (R.first.getD (A6 R.As s).toNat 0):=by rw[GE,Id xj];rfl
  have hz:R.size[(A6 R.As s).toNat]?=some (R.size.getD (A6 R.As s).toNat 0):=by rw[GE,Id hzl];rfl
  have hb:=hi.vs.lt _ _ _ hf hz;obtain⟨ts,t,h0⟩:=Q4 (gm hg hi hT);have ht:=hg.tP.tc t (by rw[h0];simp);have hu:(t.set (R.first.getD (A6 R.As s).toNat 0).toNat true)[(R.first.getD (A6 R.As s).toNat 0).toNat]?=some true:=by
   rw[List.getElem?_set_self];omega
  have ht:∃u,(R.EY (R.first.getD (A6 R.As s).toNat 0)).p.Ao.getLast?=some u/\u[(R.first.getD (A6 R.As s).toNat 0).toNat]?=some true:=⟨_,by unfold RS.EY;simp[h0],hu⟩;by_cases h5:w.length=5
  ·simp only[hk,y4,h5,Qau];exact naG
  ·simp only[hk,y4,h5];exact naG
theorem yr (w:Ws) {q:RS} {y:Nd} (he:R.node w= .ok (q,y)):NK R q/\XK q y:=by
 have no:∀{q:RS} {y:Nd},y.kind≠103->y.kind≠112->XK q y:=fun h1 h2 h=>by rcases h with h | h <;>contradiction
 unfold RS.node at he;simp only[] at he;split at he
 ·by_cases h5:w.length=5
  ·simp only[h5,Qau] at he;exact nam
  ·simp only[h5,y4] at he;exact nam
 split at he
 ·obtain⟨c1,c2,c3,c4⟩:=lB hg hi hT (.of 103) (wd w 2) w;split at he
  ·rename_i hok;obtain⟨h1,h2,h3,h4,h5,h6⟩:=aP _ _ _ he;obtain⟨⟨i,c5,c6⟩,c7⟩:=c4 hok;refine⟨c1.trans h1,fun _=>⟨⟨i,by rw[h1.f,c1.f,h5];exact c5,by rw[h1.z,c1.z,h6];exact c6⟩,by rw[h2,h5];exact c7,fun hk=> ?_⟩⟩;rw[h4,c3] at hk;cases hk
  ·cases he
 split at he
 ·obtain⟨c1,c2,c3,c4⟩:=lB hg hi hT (.of 112) (wd w 1) w;split at he
  ·rename_i hok;cases he;have Afk:(R.cell (.of 112) (wd w 1) w).2.2=true:=by simp only[Qaf] at hok;exact hok.1
   obtain⟨⟨i,c5,c6⟩,c7⟩:=c4 Afk;obtain⟨p1,p2⟩:=mS (r:=(R.cell (.of 112) (wd w 1) w).1) (by rw[c2];exact yh hi hT);exact⟨c1.trans p1,fun _=>⟨⟨i,by show(RS.cell _ _ _ _).1.first[i]?=_;rw[c1.f];exact c5,by show(RS.cell _ _ _ _).1.size[i]?=_;rw[c1.z];exact c6⟩,c7,fun _=>p2⟩⟩
  ·cases he
 split at he
 ·split at he
  ·cases he;exact⟨NK.refl _,no (by show(111:Nat)≠103;decide) (by show(111:Nat)≠112;decide)⟩
  ·cases he
 split at he
 ·split at he
  ·cases he;exact⟨NK.refl _,no (by show(122:Nat)≠103;decide) (by show(122:Nat)≠112;decide)⟩
  ·cases he
 split at he
 ·cases he;exact⟨NK.refl _,no (by show(108:Nat)≠103;decide) (by show(108:Nat)≠112;decide)⟩
 split at he
 ·cases he;exact⟨NK.refl _,no (by show(40:Nat)≠103;decide) (by show(40:Nat)≠112;decide)⟩
 ·cases he;exact⟨NK.refl _,no (by show(0:Nat)≠103;decide) (by show(0:Nat)≠112;decide)⟩
end
theorem ndT.dC {u u':List Bool} {b b':Bool} {x:Nd} (h:ndT f z u b x) (hu:∀i:Nat,u[i]?=some true->u'[i]?=some true) (hb:b=true->b'=true):ndT f z u' b' x:=fun hk=>by
 obtain⟨h1,h2,h3⟩:=h hk;exact⟨h1,hu _ h2,fun h4=>hb (h3 h4)⟩
theorem TI.Be {R q:RS} (hg:IP R n) (hi:TI R) (hT:R.p.Aa≠[]) (k:NK R q) (l:List Nd) (hl:∀x,x∈l->(∃y,y∈R.CM/\y.kind=x.kind/\y.first=x.first/\y.size=x.size)\/XK q x) (o:List Nat) (s:Int):TI ({q with Af:=o,Ah:=s}.Be l):=by
 obtain⟨ts,t,h0⟩:=Q4 hT;have e:({q with Af:=o,Ah:=s}.Be l).p.Aa=ts++[l]:=by unfold RS.Be;simp[k.th,h0]
 have FJ:R.CM=t:=by unfold RS.CM;simp[h0]
 refine⟨?_,?_,fun i l' u b h1 h2 h3 x hx=> ?_⟩
 ·show VsT q.first q.size q.p.cells
  rw[k.f,k.z,k.c];exact hi.vs
 ·rw[e];show q.p.BJ.length=_;rw[k.pl,hi.pl,h0];simp
 ·show ndT q.first q.size u b x
  rw[k.f,k.z];rw[e] at h1;obtain⟨u0,h4,h5,h6⟩:=k.t1 i u h2;obtain⟨b0,h7,h8⟩:=k.p1 i b h3;rcases L9 _ _ _ _ h1 with⟨AX,h9⟩ | ⟨oG,rfl⟩
  ·exact(hi.all i l' u0 b0 (by rw[h0,m9 AX];exact h9) h4 h7 x hx).dC h6 h8
  ·have hold:=hi.all i t u0 b0 (by rw[h0,oG,Qag (LE _),Qbt];rfl) h4 h7;rcases hl x hx with⟨y,hy,e1,e2,e3⟩ | IG
   ·have aW:=(hold y (by rw[<-FJ];exact hy)).dC h6 h8;intro hk;rw[<-e1,<-e2,<-e3] at*;have:=aW hk;exact this
   ·intro hk;obtain⟨h10,⟨u1,h11,h12⟩,h13⟩:=IG hk;have hul:u1=u:=by
     have:i=q.p.Ao.length - 1:=by rw[k.tl,hg.tl,h0,oG];simp
     rw[List.getLast?_eq_getElem?,<-this] at h11;have WS:q.p.Ao[i]?=some u:=h2;rw[WS] at h11;cases h11;rfl
    refine⟨by rw[<-k.f,<-k.z];exact h10,by rw[<-hul];exact h12,fun Ln=> ?_⟩;have:=h13 Ln;have xj:i=q.p.BJ.length - 1:=by rw[k.pl,hi.pl,h0,oG];simp
    rw[List.getLast?_eq_getElem?,<-xj] at this;have qo:q.p.BJ[i]?=some b:=h3;rw[qo] at this;cases this;rfl
theorem TI.row {R:RS} (hg:IP R n) (hi:TI R) {l:Ws} (hl:Br l=true) (Bi:l≠[]) {R':RS} (he:R.row l= .ok R'):TI R':=by
 have he0:=he;unfold RS.row at he;simp only[] at he;split at he
 ·rename_i hk;unfold RS.D6 at he;have hlen:l.length=2\/(l.length=3/\Fx (bs (wd l 2)) 6=true):=by
   obtain⟨w,r,rfl⟩:=Qbx Bi;have LH:bs w=AK:=hk;simp[Br,Fh,GC,Hj,LH,AK] at hl;rcases hl.2 with h | h
   ·left;simp;omega
   ·right;exact⟨by simp;omega,by rw[Hj];exact h.2⟩
  obtain⟨z,Fo,hz⟩:∃z:Int,1<=z/\(if 2 < l.length then (number (bs (wd l 2))).getD 0 else 1)=z:=by
   rcases hlen with h2 | ⟨h3,h4⟩
   ·exact⟨1,Y,by simp[h2]⟩
   ·unfold Fx at h4;cases p9:number (bs (wd l 2)) with
    | none=>rw[p9] at h4;cases h4
    | some v=>
     rw[p9] at h4;simp only[Qaf,Qad] at h4;exact⟨v,Y,by simp[h3]⟩
  rw[hz] at he;by_cases ht:R.p.Aa=[]
  ·rw[I (fun h=>h ht)] at he;split at he
   ·cases he
   ·cases he;have Ui:=hg.tP.c0;refine⟨⟨by simp[hi.vs.len],fun i a s h1 h2=> ?_,fun i j a s e oH h1 h2 h3=> ?_⟩,hi.pl,fun k l' u b h1 _ _=> ?_⟩
    ·show 0<=a/\1<=s/\a+s<=R.p.cells+z;rcases L9 _ _ _ _ h1 with⟨AX,h4⟩ | ⟨oG,rfl⟩
     ·have WS:(R.size++[z])[i]?=some s:=h2;rw[m9 (by rw[hi.vs.len];exact AX)] at WS;have:=hi.vs.lt i a s h4 WS;omega
     ·have WS:(R.size++[z])[i]?=some s:=h2;rw[oG,<-hi.vs.len,Qag (LE _),Qbt] at WS;cases WS;omega
    ·have hif:i < R.first.length:=by
      have:=(d9.1 h3).1;have:j < (R.first++[R.p.cells]).length:=this;rw[V] at this;simp at this;omega
     have kW:(R.first++[R.p.cells])[i]?=some a:=h1;have WS:(R.size++[z])[i]?=some s:=h2;rw[m9 hif] at kW;rw[m9 (by rw[hi.vs.len];exact hif)] at WS;rcases L9 _ _ _ _ h3 with⟨AX,h4⟩ | ⟨oG,rfl⟩
     ·exact hi.vs.ap i j a s e oH kW WS h4
     ·exact(hi.vs.lt i a s kW WS).2.2
    ·have kW:R.p.Aa[k]?=some l':=h1;rw[ht] at kW;simp at kW
  ·rw[In ht] at he;cases he
 split at he
 ·split at he
  ·cases he
  ·cases he;refine⟨hi.vs,by simp[hi.pl],fun k l' u b h1 h2 h3 x hx=> ?_⟩;rcases L9 _ _ _ _ h1 with⟨AX,h4⟩ | ⟨oG,rfl⟩
   ·refine hi.all k l' u b h4 ?_ ?_ x hx
    ·have WS:(R.p.Ao++[List.replicate R.p.cells.toNat false])[k]?=some u:=h2;rw[m9 (by rw[hg.tl];exact AX)] at WS;exact WS
    ·have qo:(R.p.BJ++[false])[k]?=some b:=h3;rw[m9 (by rw[hi.pl];exact AX)] at qo;exact qo
   ·cases hx
 split at he
 ·unfold RS.Np at he;rcases f5 R.Af with h0 | ⟨os,a,h0⟩
  ·rw[h0] at he;simp at he
  ·rw[m8] at h0;have hT:=hg.ne (by rw[h0];simp);have kU:=hg.lt a (by rw[h0];simp);rw[h0] at he;simp only[Qa3,Qav,Qbm,Qat,Except.ok.injEq] at he;generalize hl':(if (R.CM.getD a (.of 0)).kind=40 then R.CM++[Nd.of 41] else if (R.CM.getD a (.of 0)).kind=108 then R.CM++[{Nd.of 98 with Dg:=a+1,Aj:=(R.CM.getD a (.of 0)).Aj}] else R.CM)=l' at he;subst he;have bh:∀x,x∈l'->x∈R.CM\/x.kind=41\/x.kind=98:=fun x hx=>by
    subst hl';split at hx
    ·rcases Nm.1 hx with h | h
     ·exact .inl h
     ·simp only[Z] at h;subst h;exact .inr (.inl rfl)
    ·split at hx
     ·rcases Nm.1 hx with h | h
      ·exact .inl h
      ·simp only[Z] at h;subst h;exact .inr (.inr rfl)
     ·exact .inl hx
   have AfP:a < l'.length:=by
    subst hl';split
    ·rw[V];omega
    ·split
     ·rw[V];omega
     ·exact kU
   have key:∀x,x∈l'->(∃y,y∈R.CM/\y.kind=x.kind/\y.first=x.first/\y.size=x.size)\/XK R x:=fun x hx=>by
    rcases bh x hx with h | h | h
    ·exact .inl ⟨x,h,rfl,rfl,rfl⟩
    ·exact .inr fun hk=>by rw[h] at hk;rcases hk with hk | hk <;>cases hk
    ·exact .inr fun hk=>by rw[h] at hk;rcases hk with hk | hk <;>cases hk
   refine TI.Be hg hi hT (NK.refl R) _ (fun x hx=> ?_) os R.Ah;rcases List.mem_or_eq_of_mem_set hx with h | rfl
   ·exact key x h
   ·have hm:l'.getD a (.of 0)∈l':=by rw[GE,Id AfP];exact Qab _
    have:=key _ hm;exact this
 split at he
 ·cases he
 rename_i Nl;have hT:R.p.Aa≠[]:=fun h'=>Nl (.inl h')
 cases hr:R.node l with
 | error c=>rw[hr] at he;cases he
 | ok qx=>
  obtain⟨q,x⟩:=qx;rw[hr] at he;simp only[] at he;obtain⟨hk,hx⟩:=yr hg hi hT l hr;have hql:q.CM=R.CM:=by unfold RS.CM;rw[hk.th]
  have key:∀z:Nd,z.kind=x.kind->z.first=x.first->z.size=x.size->∀y,y∈q.CM++[z]->(∃w,w∈R.CM/\w.kind=y.kind/\w.first=y.first/\w.size=y.size)\/XK q y:=fun z e1 e2 e3 y hy=>by
   rcases Nm.1 hy with h | h
   ·exact .inl ⟨y,by rw[<-hql];exact h,rfl,rfl,rfl⟩
   ·simp only[Z] at h;subst h;refine .inr fun hky=> ?_
    have:=hx (by rw[<-e1];exact hky);rw[<-e1,<-e2,<-e3] at this;exact this
  split at he
  ·cases he
  ·split at he
   ·split at he
    ·cases he
    ·cases he;exact TI.Be hg hi hT hk _ (key {x with Aj:=(q.Af.length:Int)} rfl rfl rfl) (q.Af++[q.CM.length]) _
   ·cases he;exact TI.Be hg hi hT hk _ (key _ rfl rfl rfl) q.Af _
structure PT (p:RP) (f z:List Int):Prop where
 vs:VsT f z p.cells
 tl:p.Ao.length=p.Aa.length
 pl:p.BJ.length=p.Aa.length
 tc:∀t,t∈p.Ao->(t.length:Int)=p.cells
 all:∀(k:Nat) l u b,p.Aa[k]?=some l->p.Ao[k]?=some u->p.BJ[k]?=some b->∀x,x∈l->ndT f z u b x
theorem mN:∀(l:List By) (n:Nat) (r:RS) (p:RP),IP r n->TI r->n+l.length<=2400->I2 l n r= .ok p->∃f z,PT p f z:=by
 have FB:∀(n:Nat) (r:RS) (p:RP),IP r n->TI r->G9 n r= .ok p->∃f z,PT p f z:=fun n r p hg hi h=>by
  unfold G9 at h;split at h
  ·cases h
  split at h
  ·cases h
  ·cases h;exact⟨r.first,r.size,hi.vs,hg.tl,hi.pl,hg.tP.tc,hi.all⟩
 intro l;induction l with
 | nil=>intro n r p hg hi _ h;exact FB n r p hg hi h
 | cons a l ih=>
  intro n r p hg hi hn h;cases l with
  | nil=>
   unfold I2 at h;split at h
   ·exact FB n r p hg hi h
   ·cases h
  | cons b l=>
   unfold I2 at h;split at h
   ·rename_i NH;cases hr:r.row (Bn a) with
    | error c=>rw[hr] at h;cases h
    | ok r'=>
     rw[hr] at h;have Bi:Bn a≠[]:=fun h=>Cb 32 a (Qdl.1 h)
     exact ih (n+1) r' p (hg.row (by simp only[IR] at hn;omega) NH Bi hr) (hi.row hg NH Bi hr) (by simp only[IR] at hn⊢;omega) h
   ·cases h
theorem cP (c:UInt8) (s:By):(Ax c s).length<=s.length+1:=by
 induction s with
 | nil=>simp[Ax]
 | cons x r ih=>
  unfold Ax;split
  ·simp only[IR];omega
  ·split
   ·simp
   ·rename_i h;rw[h] at ih;simp only[IR] at ih⊢;omega
theorem rZ {s:By} (h:Fp s= .ok p):∃f z,PT p f z:=by
 unfold Fp at h;split at h
 ·cases h
 ·rename_i hl;refine mN _ 0 .Dl p IP.Dl TI.Dl ?_ h;have:=cP 10 s;omega
def PRt (f z:List Int) (u:List Bool) (c:Nat):Prop:=∃(i:Nat) (a s:Int),f[i]?=some a/\z[i]?=some s/\a<=c/\(c:Int) < a+s/\u[a.toNat]?=some true
def PWt (f z:List Int) (u:List Bool) (b:Bool) (c:Nat):Prop:=PRt f z u c/\b=true
theorem xF {cc:Int} (hv:VsT f z cc) {u:List Bool} {b:Bool} (s:Bt):∀(d i:Nat),(∀x,x∈BP s d i->ndT f z u b x)->TS (PRt f z u) (PWt f z u b) s:=by
 induction s with
 | nil=>intro d i _;trivial
 | set v op x y r ih=>intro d i h;exact ih d (i+1) fun x hx=>h x (by rw[BP];exact U _ hx)
 | get v a s x r ih=>
  intro d i h;obtain⟨⟨j,h1,h2⟩,h3,_⟩:=h _ (by rw[BP];exact J ..) (.inl rfl);exact⟨⟨(hv.lt j a s h1 h2).1,fun c KM JC=>⟨j,a,s,h1,h2,KM,JC,h3⟩⟩,ih d (i+1) fun x hx=>h x (by rw[BP];exact U _ hx)⟩
 | put a s x y r ih=>
  intro d i h;obtain⟨⟨j,h1,h2⟩,h3,h4⟩:=h _ (by rw[BP];exact J ..) (.inr rfl);exact⟨⟨(hv.lt j a s h1 h2).1,fun c KM JC=>⟨⟨j,a,s,h1,h2,KM,JC,h3⟩,h4 rfl⟩⟩,ih d (i+1) fun x hx=>h x (by rw[BP];exact U _ hx)⟩
 | out x r ih=>intro d i h;exact ih d (i+1) fun x hx=>h x (by rw[BP];exact U _ hx)
 | atomic b r ihb ih=>intro d i h;exact⟨ihb (d+1) (i+1) fun x hx=>h x (by rw[BP];exact U _ (D _ hx)),ih d _ fun x hx=>h x (by rw[BP];exact U _ (GT _ (U _ hx)))⟩
 | EA x b r ihb ih=>intro d i h;exact⟨ihb (d+1) (i+1) fun x hx=>h x (by rw[BP];exact U _ (D _ hx)),ih d _ fun x hx=>h x (by rw[BP];exact U _ (GT _ hx))⟩
 | loop n b r ihb ih=>intro d i h;exact⟨ihb (d+1) (i+1) fun x hx=>h x (by rw[BP];exact U _ (D _ hx)),ih d _ fun x hx=>h x (by rw[BP];exact U _ (GT _ (U _ hx)))⟩
def PR (p:RP) (f z:List Int) (t:Nat):Nat->Prop:=PRt f z (p.Ao.getD t [])
def PW (p:RP) (f z:List Int) (t:Nat):Nat->Prop:=PWt f z (p.Ao.getD t []) (p.BJ.getD t false)
def EZ (y:qr) (t:Nat):List GI:=Gf y.cells t (y.Aa.getD t .nil)
def MJ (y:qr) (p:RP) (f z:List Int) (mv:Nat->Prop) (K:Int) (R:Al):Prop:=∃A G,Xl (PL y) y.Aa.length y.cells.toNat 54790 K R A G/\
 (∀t,t < y.Aa.length->TG (PR p f z t) (PW p f z t) (G t)/\∀c v,c < y.cells.toNat->(8+c,v)∈(A.th t).sw->PW p f z t c)/\
 ∀t,t < y.Aa.length->¬mv t->(A.th t).sw=[]/\DK (G t)=GP/\Ba y.cells.toNat (G t)=[]
theorem vp (h:UX X k A B):∀q,q∈(B.th k).sw->q∈(A.th k).sw:=by
 induction h with
 | nil A=>exact fun _ h=>h
 | cons h _ ih=>
  intro q hq;have:=ih q hq;cases h with
  | Cy hs=>simp only[BU] at this;rw[hs];exact U _ this
theorem bG (h:UX X k A B):∀u,u≠k->B.th u=A.th u:=by
 induction h with
 | nil A=>exact fun _ _=>rfl
 | cons h _ ih=>exact fun u hu=>(ih u hu).trans (Pp h u hu)
section
variable {y:qr} {p:RP} (h:PS y p) {f z:List Int} (hp:PT p f z)
include h
theorem xK:p.Aa.length=y.Aa.length:=by rw[h.Aa,z9]
include hp
theorem qS (ht:t < y.Aa.length):TQ (PR p f z t) (PW p f z t) (VZ y t):=by
 have FI:t < p.Aa.length:=by rw[xK h];exact ht
 have h1:p.Aa[t]?=some (BP (y.Aa.getD t .nil) 0 0):=by rw[h.Aa,Qax,Id ht,GE,Id ht];rfl
 have h2:p.Ao[t]?=some (p.Ao.getD t []):=by rw[GE,Id (by rw[hp.tl];exact FI)];rfl
 have h3:p.BJ[t]?=some (p.BJ.getD t false):=by rw[GE,Id (by rw[hp.pl];exact FI)];rfl
 exact⟨xF hp.vs _ 0 0 (hp.all t _ _ _ h1 h2 h3),trivial,fun _ h=>by cases h⟩
theorem sU (mv:Nat->Prop):MJ y p f z mv 0 (R0 y):=by
 obtain⟨G,hi,hq⟩:=start h;refine⟨A0,G,hi,fun t ht=> ?_,fun t ht _=> ?_⟩
 ·obtain⟨q',e,hk⟩:=hq t ht;rw[e];exact⟨aD (hk.tq (qS h hp ht)),fun c v _ hv=>by cases hv⟩
 ·obtain⟨q',e,_⟩:=hq t ht;have:=Fw y.cells.toNat q';rw[e];exact⟨rfl,this.1,this.2.1⟩
theorem MJ.Cy (hj:MJ y p f z mv K R) (hK:K < 100000000000000000) {t:Nat} (ht:t < y.Aa.length) (hm:mv t):MJ y p f z mv K (R.Cy t):=by
 obtain⟨A,G,hi,kL,bg⟩:=hj;obtain⟨A',hf,XZ⟩:=hi.Cy (Oj h) Y ht;have _:=hp;refine⟨A',G,XZ,fun u hu=>⟨(kL u hu).1,fun c v hc hv=> ?_⟩,fun u hu hn=> ?_⟩
 ·by_cases fN:u=t
  ·subst fN;exact(kL u hu).2 c v hc (vp hf _ hv)
  ·rw[bG hf u fN] at hv;exact(kL u hu).2 c v hc hv
 ·rw[bG hf u (fun e=>hn (by rw[e];exact hm))];exact bg u hu hn
theorem MJ.step (hj:MJ y p f z mv K R) (hK:K < 100000000000000000) {t:Nat} (ht:t < y.Aa.length) (hm:mv t):MJ y p f z mv (K+1) (R.step (EZ y) t):=by
 have _:=hp;obtain⟨A,G,hi,kL,bg⟩:=hj;obtain⟨A0',A',g',hf,h0,h1,XZ⟩:=hi.step (Oj h) Y ht;have h6:=(Oj h).h6;have Bi:∀u,u≠t->A'.th u=A.th u:=fun u hu=>by
  by_cases hz:(A.th t).st=0
  ·exact(Pp (h0 hz).1 u hu).trans (bG hf u hu)
  ·rw[(h1 hz).1]
 refine⟨A',Cv G t g',XZ,fun u hu=> ?_,fun u hu hn=> ?_⟩
 ·by_cases fN:u=t
  ·subst fN;rw[BU];by_cases hz:(A.th u).st=0
   ·obtain⟨_,hg⟩:=h0 hz;obtain⟨j,lt',_,ha,_⟩:=hi.l1.th u hu hz;have htg:=(kL u hu).1;have QF:∀c v,c < y.cells.toNat->(8+c,v)∈(A0'.th u).sw->PW p f z u c:=fun c v hc hv=>(kL u hu).2 c v hc (vp hf _ hv)
    obtain⟨k1,k2,k3,k4,k5,k6⟩:=jC ha;cases hg with
    | Od _=>exact⟨htg,fun c v hc hv=>by simp only[BU] at hv;exact QF c v hc hv⟩
    | stop _ _=>exact⟨htg,fun c v hc hv=>by simp only[BU] at hv;exact QF c v hc hv⟩
    | ev he h0_ AgF hd_ hn hr_ ha_ hp_=>
     rename_i e bad j' lt'' _;obtain⟨c1,c2,c3⟩:=Xe ha htg;refine⟨hn.tg htg (fun c lv y h=>c1 c (.inr (.inr ⟨lv,y,h⟩))) fun c lv h=>c2 c (.inr ⟨lv,h⟩),fun c v hc hv=> ?_⟩;simp only[BU] at hv;rw[AcU] at hv;cases e with
     | st a w=>
      rcases Nm.1 hv with hv | hv
      ·exact QF c v hc hv
      ·simp only[Z] at hv;cases hv;unfold UL at he;cases DO:(G u).ph with
       | node=>have:=bL DO (by unfold UL;exact he);rcases this with⟨_,h⟩ | ⟨_,h⟩ <;>cases h
       | pu d=>
        rw[DO] at he;replace he:((G u).q.BW d).map (Ek.st d ·)=_:=he;have hd:d < y.cells.toNat:=(k4 d DO).1;cases oD:(G u).q.BW d with
        | none=>rw[oD] at he;cases he
        | some w'=>
         rw[oD] at he;have e1:=Option.some.inj he;have:d=8+c:=by injection e1
         omega
       | fr d=>
        rw[DO] at he;have e1:=Option.some.inj he;have:8+d=8+c:=by injection e1
        obtain rfl:d=c:=Y
        exact htg.q.m d (k5 d DO).2
       | ba d=>
        rw[DO] at he;replace he:((G u).Bp d).map (Ek.st (8+d) ·)=_:=he;cases oD:(G u).Bp d with
        | none=>rw[oD] at he;cases he
        | some w'=>
         rw[oD] at he;have e1:=Option.some.inj he;have:8+d=8+c:=by injection e1
         obtain rfl:d=c:=Y
         exact htg.Bp d (by rw[oD];rfl)
       | te i=>rw[DO] at he;replace he:((G u).q.o[i]?).map Ek.out=_:=he;cases oD:(G u).q.o[i]? with | none=>rw[oD] at he;cases he | some w'=>rw[oD] at he;cases he
       | _=>rw[DO] at he;cases he
     | _=>exact QF c v hc hv
   ·rw[(h1 hz).1,(h1 hz).2];exact kL u hu
  ·rw[Ds _ _ fN,Bi u fN];exact kL u hu
 ·have fN:u≠t:=fun e=>hn (by rw[e];exact hm)
  rw[Ds _ _ fN,Bi u fN];exact bg u hu hn
theorem sV (hj:MJ y p f z mv K R) (hK:K < 100000000000000000) {k:Nat} (hk:k < y.Aa.length) (ho:∀t,t < y.Aa.length->t≠k->mv t->∀c,c < y.cells.toNat->PR p f z k c->¬PW p f z t c):
  ((R.Df (EZ y) k 200000).th k).BG≠0:=by
 obtain⟨A,G,hi,kL,bg⟩:=hj;have h6:=(Oj h).h6;have _:=hp;refine jq (Oj h) (Tk:=PR p f z k) hi.abs ⟨hi.l1,?_,fun u hu Bi c hc hpr=> ?_⟩ hk hK AC
 ·have:=(kL k hk).1;have hq:∀{q:KS},TQ (PR p f z k) (PW p f z k) q->TQ (PR p f z k) (PR p f z k) q:=fun {q} hq=>by
   have key:∀s,TS (PR p f z k) (PW p f z k) s->TS (PR p f z k) (PR p f z k) s:=by
    intro s;induction s with
    | nil=>exact id
    | set _ _ _ _ _ ih=>exact ih
    | get _ _ _ _ _ ih=>exact fun h=>⟨h.1,ih h.2⟩
    | put _ _ _ _ _ ih=>exact fun h=>⟨⟨h.1.1,fun c h1 h2=>(h.1.2 c h1 h2).1⟩,ih h.2⟩
    | out _ _ ih=>exact ih
    | atomic _ _ ihb ih=>exact fun h=>⟨ihb h.1,ih h.2⟩
    | EA _ _ _ ihb ih=>exact fun h=>⟨ihb h.1,ih h.2⟩
    | loop _ _ _ ihb ih=>exact fun h=>⟨ihb h.1,ih h.2⟩
   have kk:∀k',TK (PR p f z k) (PW p f z k) k'->TK (PR p f z k) (PR p f z k) k':=by
    intro k';induction k' with
    | done=>exact id
    | rest _ _ ih=>exact fun h=>⟨key _ h.1,ih h.2⟩
    | loop _ _ _ ih=>exact fun h=>⟨key _ h.1,key _ h.2.1,ih h.2.2⟩
    | Au _ _ _ ih=>exact fun h=>⟨key _ h.1,key _ h.2.1,ih h.2.2⟩
   exact⟨key _ hq.s,kk _ hq.k,fun c hc=>(hq.m c hc).1⟩
  exact⟨hq this.q0,hq this.q,this.rd,fun c hc=>(this.Bp c hc).1⟩
 ·by_cases hm:mv u
  ·have RT:=ho u hu Bi hm c hc hpr;have hh:=zn (n:=y.cells.toNat) (kL u hu).1;refine⟨?_,fun v hv=> ?_⟩
   ·cases hx:DK (G u) c with
    | none=>rfl
    | some v=>exact UV (hh.1 c (by rw[hx];rfl)) RT
   ·rcases Nm.1 hv with hv | hv
    ·exact RT ((kL u hu).2 c v hc hv)
    ·exact RT (hh.2 c v hv h6)
  ·obtain⟨a1,a2,a3⟩:=bg u hu hm;rw[a1,a2,a3];exact⟨rfl,fun v hv=>by cases hv⟩
end
end Go.Proofs.YtpdfifdlhpmofaaGreatDoor
