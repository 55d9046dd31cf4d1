/-
  Part 39 of the proof.
-/
import Derived.Test.YtpdfifdlhpmofaaGreatDoorZ38
set_option linter.unusedVariables false
set_option linter.unusedSimpArgs false
set_option maxHeartbeats 3200000
set_option maxRecDepth 100000
namespace Go.Proofs.YtpdfifdlhpmofaaGreatDoor
open Go.RowKit
open Go.Lib (hid)
theorem nao {p:Prop} (h:p:=by
 obtain⟨d,_,hd,hf⟩:=IE.1 hp;unfold IY at hf;cases hm:g.q.BW d with
 | none=>rw[hm] at hf;cases hf
 | some w=>rw[hm] at hf;cases hf;have:8<=d:=h8;omega):p:=h
theorem naq {p:Prop} (h:p:=by
 rw[h] at Ca;cases Ca;refine UT.same hl rfl ?_ ?_ hrw
 ·rw[show Ba n (G t)=[] by unfold Ba;rw[h]];rfl
 ·rw[Hh (g:=G t) (by unfold Eh;rw[h])];rfl):p:=h
theorem nat {p:Prop} (h:p:=by
 rw[h] at Ca;cases Ca;exact UT.Gg h6 ht hl hrw rfl rfl (by unfold Ba;rw[h]) (.inr (by simpa[h] using k3 (by unfold Eh;rw[h]))) r):p:=h
theorem nav {p:Prop} (h:p:=by
 rw[i1,Hh (by unfold Eh;rw[h])]):p:=h
theorem nay {p:Prop} (h:p:=by
 rw[h] at Ca;cases Ca;exact UT.Gg h6 ht hl hrw rfl rfl (by unfold Ba;rw[h]) (.inl (by unfold Eh;rw[h])) r):p:=h
theorem naC {p:Prop} (h:p:=by
 exact⟨_,_,by rw[hp];exact hc,this.1,this.2,rfl⟩):p:=h
theorem naE {p:Prop} (h:p:=by
 obtain⟨f,z,a,hs,_⟩:=hg.stm;have RO:q.s=_:=hs;unfold EH;rw[RO];simp only[Sp,B9];omega):p:=h
theorem naJ {p:Prop} (h:p:=by
 rw[Lh f Y];constructor
 ·intro h;cases h
 ·rintro⟨d,h1,h2,_⟩;omega):p:=h
variable {g g':Gt} {b s:Bt} {m:Du} {ab p a d n c i t M T:Nat} {Ac k v lv N' K:Int} {Ab:List GI} {x:Cx} {r q:KS} {α:Type} {f:Nat->Option (Nat×Int)} {bad:Bool} {X:Nat->Cx} {lt:LT} {sw:List (Nat×Int)} {G:Nat->Gt} {rd:Nat->Option Int}
section
variable {x:Cx} {P:Nat->Gt->Prop} {k:Nat}
theorem UY.ph (h:UY x g b s) (ph:Ph) (Bp:Nat->Option Int) (wv:Int):UY x {g with ph:=ph,Bp:=Bp,wv:=wv} b s:=⟨h.wj,h.nb,h.wf,h.bo,h.rp⟩
theorem JI.ph (h:JI x g m b s ab p) (ph:Ph) (wv:Int):JI x {g with ph:=ph,wv:=wv} m b s ab p:=⟨h.Au.ph ph g.Bp wv,h.mt,h.s0,h.k0,h.NX⟩
theorem FY (h:JI x g m b s ab p) (hp:Cr b=true):CP x.Ac x.n x.Ab ab p/\F3 x.n p b=p+37*x.n+3/\D1 x.Ab (rz ab (Ku x.Ac (F3 x.n p b))) (F3 x.n p b):=by
 obtain⟨Vf,z,Dw,pe,e1,e2,e3,e4,e5,e6,e7,e8⟩:=h.NX;rw[CA,Bo] at e2;have:=e2.2;rw[CX,V,<-d7,<-e1] at this;unfold ON at this;rw[In hp,CA,Bo,CX,Ge] at this;have e:F3 x.n p b=p+(37*x.n+3):=by unfold F3;rw[In hp]
 exact⟨jr this.1,Y,by rw[e];exact this.2⟩
theorem JI.bi (h:JI x g m b s ab p):BI x.n g.B m g.q.BW g.rd g.Bp g.q.o/\g.q.o.length<=8:=by
 have:=h.mt.bi (by rw[h.k0];rfl);exact⟨this.1,Y⟩
theorem JI.start (h:JI x g m b s ab p):m.start=g.rv:=h.bi.1.start
def K6 (x:Cx) (g:Gt):Nat:=EH (Fl g.q0 g.q)+5+7*g.q.o.length
theorem Rn.kZ (hx:Ny x) {g:Gt} {m:Du} {b s:Bt} {ab p c:Nat} {R:Nat->Int} (hc:JI x g m b s ab p) (hp:Cr b=true) (hl:SR g x.n x.n) (UG:c<=x.n) (h5:R 5=2*g.wv)
  (h:∀j g',Mq x.n g c g'->j+KB x g'<=K6 x g+3*(x.n - c)+2->P (k+j) g'):Rn x.Ac x.Ab k ⟨p+34*x.n+3+3*c,⟨R,m⟩⟩ (Lq x P):=by
 obtain⟨oL,yT,ht⟩:=FY hc hp;refine Rn.Aed hx.hb hx.n6 hc.bi.1 oL c UG (fun c' j R' h1 h2 h3 h4 hj vc=> ?_) fun j R' h4 hj=> ?_
 ·refine⟨{g with ph:= .fr c'},⟨h2,h3,hl,b,s,ab,p,hc.ph _ _,hp,rfl,vc.trans h5⟩,h j _ (.fr c' h1 h2 h3 h4) ?_⟩;show j+(K6 x g+3*(x.n - c'))<=_;omega
 ·rw[show p+37*x.n+3=F3 x.n p b by omega];refine Rn.Aav ht fun R1 e1=>Rn.Z3 hx hc (d6 _) e1 fun j2 g' hr hle=> ?_
  rw[d7,d7];refine h (j+(1+j2)) g' (.stop g' h4 hr) ?_;unfold K6;omega
theorem Rn.kj (hx:Ny x) {g:Gt} {m:Du} {b s:Bt} {ab p c:Nat} {R:Nat->Int} (hc:JI x g m b s ab p) (hp:Cr b=true) (hl:SR g x.n x.n) (UG:c<=x.n) (h5:R 5=2*g.wv)
  (h:∀j g',Tw x.n g c g'->j+KB x g'<=K6 x g+3*x.n+2+4*(x.n - c)+3->P (k+j) g'):Rn x.Ac x.Ab k ⟨p+30*x.n+3+4*c,⟨R,m⟩⟩ (Lq x P):=by
 obtain⟨oL,_,_⟩:=FY hc hp;refine Rn.AeW hx.hb hx.n6 hc.bi.1 oL c UG (fun c' j R' v h1 h2 h3 h4 hj vc hv=> ?_) fun j R' h4 hj vc=> ?_
 ·have qo:(g.q.BW c').isSome=true:=by rw[h3];rfl
  refine⟨{g with ph:= .pu c'},⟨h2,qo,hl,b,s,ab,p,hc.ph _ _,hp,rfl,vc.trans h5,h3.trans (Qao some hv.symm)⟩,h j _ (.pu c' h1 h2 qo h4) ?_⟩;show j+(K6 x g+3*x.n+2+4*(x.n - c'))<=_;omega
 ·refine Rn.kZ hx hc hp hl (c:=0) (d6 _) (vc.trans h5) fun j2 g' hr hle=> ?_
  rw[d7];exact h (j+j2) g' (.stop g' h4 hr) Y
theorem Rn.kB (hx:Ny x) {g:Gt} {m:Du} {b s:Bt} {ab p c:Nat} {R:Nat->Int} (hc:JI x g m b s ab p) (hp:Cr b=true) (hl:SR g x.n x.n) (UG:c<=x.n) (h5:R 5=2*g.wv)
  (h:∀j g',Lt x.n g c g'->j+KB x g'<=K6 x g+7*x.n+5+14*(x.n - c)+4->P (k+j) g'):Rn x.Ac x.Ab k ⟨p+16*x.n+3+14*c,⟨R,m⟩⟩ (Lq x P):=by
 obtain⟨oL,_,_⟩:=FY hc hp;refine Rn.Adi hx.hb hx.n6 hc.bi.1 oL c UG (fun c' j R' h1 h2 h3 h4 hj vc=> ?_) fun j R' h4 hj vc=> ?_
 ·have h3a:(g.rd c').isSome=true:=by cases hx:(g.rd c').isSome <;>simp_all
  have h3b:(g.Bp c').isSome=false:=by cases hx:(g.Bp c').isSome <;>simp_all
  refine⟨{g with ph:= .lo c'},⟨h2,h3a,h3b,hl,b,s,ab,p,hc.ph _ _,hp,rfl,vc.trans h5⟩,h j _ (.lo c' h1 h2 h3 h4) ?_⟩;show j+(K6 x g+3*x.n+2+4*x.n+3+14*(x.n - c'))<=_;omega
 ·refine Rn.kj hx hc hp hl (c:=0) (d6 _) (vc.trans h5) fun j2 g' hr hle=> ?_
  rw[d7];exact h (j+j2) g' (.stop g' h4 hr) Y
theorem Rn.kD (hx:Ny x) {g:Gt} {m:Du} {b s:Bt} {ab p c:Nat} {R:Nat->Int} (hc:JI x g m b s ab p) (hp:Cr b=true) (hl:SR g x.n c) (UG:c<=x.n)
  (h:∀j g',Mp x.n g c g'->j+KB x g'<=K6 x g+21*x.n+12+16*(x.n - c)+2->P (k+j) g'):Rn x.Ac x.Ab k ⟨p+16*c,⟨R,m⟩⟩ (Lq x P):=by
 obtain⟨oL,_,_⟩:=FY hc hp;refine Rn.GA hx.hb hx.n6 hc.bi.1 oL c UG (fun c' j R' h1 h2 h3 h4 hj=> ?_) fun j R' h4 hj=> ?_
 ·refine⟨{g with ph:= .SS c'},⟨h2,h3,fun d hd=> ?_,b,s,ab,p,hc.ph _ _,hp,rfl⟩,h j _ (.lk c' h1 h2 h3 h4) ?_⟩
  ·show(g.Bp d).isSome=(decide (d < c') && (g.q.BW d).isSome);rw[hl d hd];by_cases QG:d < c
   ·rw[Qa0 QG,Qa0 (show d < c' by omega)]
   ·by_cases Ad3:d < c'
    ·rw[h4 d Y Ad3];simp
    ·rw[Qal QG,Qal Ad3]
  ·show j+(K6 x g+3*x.n+2+4*x.n+3+14*x.n+7+16*(x.n - c'))<=_;omega
 ·refine⟨{g with ph:= .xa},⟨fun d hd=> ?_,b,s,ab,p,hc.ph _ _,hp,rfl⟩,h j _ (.xa h4) ?_⟩
  ·show(g.Bp d).isSome=(decide (d < x.n) && (g.q.BW d).isSome);rw[hl d hd,Qa0 hd];by_cases QG:d < c
   ·rw[Qa0 QG]
   ·rw[h4 d Y hd];simp
  ·show j+(K6 x g+3*x.n+2+4*x.n+3+14*x.n+7)<=_;omega
structure Bak (x:Cx) (g:Gt) (m:Du) (b s:Bt) (ab z Dw:Nat):Prop where
 Au:UY x g b s
 mt:Mt x.n x.cells g.B g.rd g.Bp g.q m
 Gg:D1 x.Ab (rz z (FD x.Ac x.n Dw ab)) ab
 tp:D1 x.Ab (rz ab (JO x.Ac x.n Dw)) Dw
 NX:NP x.Ac x.n x.Ab ab (.rest b (.Au b s g.q0.k)) (Dw+(JO x.Ac x.n Dw).length)
theorem Acz (hb:UY x g b s) (hm:Mt x.n x.cells g.B g.rd g.Bp g.q m) (hp:NP x.Ac x.n x.Ab ab (.Au b s g.q0.k) p):∃z Dw,Bak x g m b s ab z Dw:=by
 have Ze:=hp;obtain⟨Vf,z,Dw,pe,e1,e2,e3,e4,e5,e6,e7,e8⟩:=Ze;rw[CA,CA,Bo,Bo,CX] at e2;refine⟨z,Dw,hb,hm,e6,e2.1.1,e2.1.2,?_⟩;rw[show(KK.Au b s g.q0.k).Aj=g.q0.k.Aj from rfl,show(KK.Au b s g.q0.k).IS=true from rfl,<-e1];exact hp
theorem Rn.lH (hx:Ny x) {g:Gt} {m:Du} {b s:Bt} {ab z Dw c:Nat} {R:Nat->Int} (hb:Bak x g m b s ab z Dw) (UG:c<=x.n)
  (h:∀j g',GB x.n g c g'->j+KB x g'<=EH g.q0+4*(x.n - c)+3->P (k+j) g'):Rn x.Ac x.Ab k ⟨ab+4*c,⟨R,m⟩⟩ (Lq x P):=by
 have hi:g.q.k.IS=true:=Vm hb.Au.bo;have Km:=(hb.mt.bi hi).1;have hk:=hb.Gg;unfold FD at hk;simp only[CA,Bo,CX,V,Ej (Tq x.Ac),Ej (f:=On x.Ac) (L:=2) (fun _ _=>rfl)] at hk;obtain⟨⟨k1,k2⟩,k3⟩:=hk;have k3':=(A9.1 k3).1;refine Rn.Lr hx.hb hx.n6 Km k1 c UG (fun c' j R' v h1 h2 h3 h4 hj hv=> ?_) fun j R' h4 hj=> ?_
 ·have qo:(g.Bp c').isSome=true:=by rw[h3];rfl
  refine⟨{g with ph:= .ba c'},⟨h2,h3.trans (Qao some hv.symm),b,s,ab,z,Dw,hb.Au.ph _ _ _,hb.mt,hb.Gg,hb.tp,hb.NX,rfl⟩,h j _ (.ba c' h1 h2 qo h4) ?_⟩;show j+(EH g.q0+4*(x.n - c'))<=_;omega
 ·refine Rn.AN hx.hb k2 fun R1=> ?_
  refine Rn.Gb (t:=(Dw:Int)) ?_ ?_
  ·rw[show ab+4*x.n+8=ab+(4*x.n+2*4) by omega];exact k3'
  refine Rn.Dw (b:=b) (s:=s) (k:=g.q0.k) (ab:=ab) hx.hb hx.n6 hb.tp hb.NX (fun i hi=>(Tp m.AR m.Gr hi).symm) fun lt' hc hl hr=> ?_
  have h0:=V2 g.q0;rw[hb.Au.wj] at h0;simp only[KZ] at h0;have hn6:=hx.n6;refine⟨Aem g,⟨b,s,ab,hb.Au.wj,hb.Au.nb,hb.Au.wf,hc,fun i hi=> ?_,fun d hd=> ?_,rfl,rfl⟩,?_⟩
  ·rw[hl];exact(Tp m.AR m.Gr hi).trans (Km.Gr i hi)
  ·rw[hr];exact(hb.mt.R d (Qaq hd (Xb hb.Au.bo))).trans (hb.Au.rp d hd)
  ·have e:k+j+8+1+3*x.n+1=k+(j+(3*x.n+10)):=Y
   rw[e];refine h _ _ (.Pm h4) ?_;show _+(EH g.q0 - 27)<=_;omega
theorem Rn.Bu (hx:Ny x) {g:Gt} {lt:LT} {b s:Bt} {ab:Nat} (hb:UY x g b s) (hp:NP x.Ac x.n x.Ab ab (.rest g.q.s g.q.k) lt.pc) (hm:Mt x.n x.cells g.B g.rd g.Bp g.q lt.x.m) (hl:g.Bp=GP)
  (h:∀j g',jK x.n b g g'->j+KB x g'<=EH g.q->P (k+j) g'):Rn x.Ac x.Ab k lt (Lq x P):=by
 obtain⟨j,lt',q',hr,hk,hs,hle⟩:=YU hx.hb hx.hn hx.h6 (EH g.q) (LE _) hp hm;refine Rn.Ac0 hr ?_;have XZ:q'.k.IS=true:=hk.IS.trans (Vm hb.bo);have hB:∀ph,UY x {g with ph:=ph,q:=q'} b s:=fun ph=>⟨hb.wj,hb.nb,hb.wf,(hk.Au hb.bo).1,fun d hd=>((hk.Au hb.bo).2 d hd).trans (hb.rp d hd)⟩
 have yY:=V2 q';cases hs with
 | halt _ LH _=>rw[LH] at XZ;cases XZ
 | out LH _ _ _ _ _=>rw[XZ] at LH;cases LH
 | Pm _ LH _ _ _ _=>rw[XZ] at LH;cases LH
 | EF ht hc bg=>
  refine Rn.Bd ⟨{g with ph:= .node,q:=q'},⟨⟨ab,g.B,g.rd,g.Bp,.EF ht hc bg⟩,fun _=>⟨by rw[ht];simp,b,s,hB _⟩,fun hf=>UV (XZ.symm.trans hf) AC,hl⟩,h j _ (.EF q' hk (by rw[ht];simp)) ?_⟩;show j+(EH q' - KZ q'.s)<=_;omega
 | get hs LH ha hc hn hg Ve h0 ep=>
  rename_i v f z a r c p0;refine Rn.Bd ⟨{g with ph:= .JF c,q:=q'},⟨b,s,ab,p0,v,r,⟨hB _,ep,hl,⟨f,z,a,hs,ha.1,ha.2,hc⟩,hn,hg⟩,Ve,h0⟩,h j _ (.get q' c hk) ?_⟩;show j+(EH q' - 9)<=_;rw[hs] at yY hle;simp only[KZ] at yY hle;omega
 | FB hs LH Ze ep=>
  rename_i b' s' k';have hbo:=(hB .node).bo;have Ad8:q'.k.Ml=some (b,s,g.q0.k):=hbo;rw[LH] at Ad8;cases Ad8;obtain⟨p,R,m⟩:=lt';have hc:JI x {g with ph:= .node,q:=q'} m b s ab p:=⟨hB _,ep,hs,LH,Ze⟩;have Afi:EH q'=320+EH (Fl g.q0 q'):=by
   rw[show Fl g.q0 q'=⟨s,g.q0.k,q'.L,q'.R,GP,[]⟩ by unfold Fl;rw[hb.wj]];unfold EH;rw[hs,LH];simp only[Sp,B9];omega
  have ho8:=hc.bi.2;have AgE:q'.o.length<=8:=ho8;have hn6:=hx.n6;rw[hs] at hle;simp only[KZ] at hle;cases J1:Cr b with
  | true=>
   refine Rn.kD hx hc J1 (c:=0) (fun d hd=>by show(g.Bp d).isSome=_;rw[hl];simp[GP]) (d6 _) fun j2 g' IK Ab3=> ?_
   rw[d7];refine h (j+j2) g' (.UA q' g' hk ⟨hs,_,_,_,LH⟩ J1 ?_) ?_
   ·cases IK with
    | lk c' h1 h2 h3 h4=>exact .lk c' h1 h2 h3 h4
    | xa h1=>exact .xa h1
   ·have e:K6 x {g with ph:= .node,q:=q'}=EH (Fl g.q0 q')+5+7*q'.o.length:=rfl;omega
  | false=>
   have ht:F3 x.n p b=p:=by unfold F3;rw[J1];rfl
   obtain⟨Vf,z,Dw,pe,e1,e2,e3,e4,e5,e6,e7,e8⟩:=Ze;rw[CA,Bo,CX,V,<-d7] at e2;have e2':=e2.2;rw[<-e1] at e2';unfold ON at e2';rw[J1] at e2';refine Rn.Aav (p:=p) e2' fun R1 h1=> ?_
   have:=Rn.Z3 (P:=P) (k:=k+j+1) hx hc (i:=0) (d6 _) h1 fun j2 g' IK Ab3=> ?_
   ·rw[ht] at this;exact this
   ·rw[d7,d7];refine h (j+(1+j2)) g' (.GD q' g' hk ⟨hs,_,_,_,LH⟩ J1 ?_) ?_
    ·cases IK with
     | te h1=>exact .te h1
     | out q2 h1 h2=>exact .out q2 h1 h2
    ·have e:EH (Fl {g with ph:= .node,q:=q'}.q0 {g with ph:= .node,q:=q'}.q)=EH (Fl g.q0 q'):=rfl;have e2:{g with ph:=Ph.node,q:=q'}.q.o.length=q'.o.length:=rfl;omega
end
inductive Ek where
 | ld (d A:Nat)
 | st (A:Nat) (v:Int)
 | JL (d A:Nat) (a b:Int)
 | DL (d A:Nat) (v:Int)
 | out (v:Int)
 | stop (t:Int)
variable {e:Ek}
def Xv (a:Int):Option Nat:=if 0<=a/\a < 32 then some a.toNat else none
def evk:GI->XS->Option Ek
 | .load d a k,x=>(Xv (wrap64 (EJ x.R a+k))).map (.ld d.toNat ·)
 | .store a k b,x=>(Xv (wrap64 (EJ x.R a+k))).map (.st · (EJ x.R b))
 | .JL d a k b c,x=>(Xv (wrap64 (EJ x.R a+k))).map (.JL d.toNat · (EJ x.R b) (EJ x.R c))
 | .DL d a k b,x=>(Xv (wrap64 (EJ x.R a+k))).map (.DL d.toNat · (EJ x.R b))
 | .out a,x=>some (.out (EJ x.R a))
 | .EF t,_=>some (.stop t)
 | .halt,_=>some (.stop 10)
 | .op ..,_=>some (.stop 1)
 | _,_=>none
def UL (g:Gt):Option Ek:=match g.ph with
 | .node=>match g.q.s with
  | .nil=>some (.stop 10)
  | .out a _=>if g.q.k.IS then none else some (.out (FZ g.q.L a))
  | _=>(Eo g.q).map .stop
 | .Pm=>some (.ld 1 16)
 | .JF c=>some (.ld 2 (8+c))
 | .JE c _=>some (.ld 1 c)
 | .JS c _ _=>some (.ld 3 (8+c))
 | .SS c=>some (.ld 2 (8+c))
 | .QY c lv=>some (.JL 3 (8+c) lv (lv+1))
 | .xa=>some (.DL 5 16 1)
 | .lo c=>some (.ld 2 (8+c))
 | .pu c=>(g.q.BW c).map (.st c ·)
 | .fr c=>some (.st (8+c) (2*g.wv))
 | .te i=>(g.q.o[i]?).map .out
 | .ba c=>(g.Bp c).map (.st (8+c) ·)
def Qn (e:Ek) (v:Int) (lt:LT):LT:=match e with
 | .ld d _=>⟨lt.pc+1,⟨C5 lt.x.R d v,lt.x.m⟩⟩
 | .JL d _ _ _=>⟨lt.pc+1,⟨C5 lt.x.R d v,lt.x.m⟩⟩
 | .DL d _ _=>⟨lt.pc+1,⟨C5 lt.x.R d v,lt.x.m⟩⟩
 | _=>⟨lt.pc+1,lt.x⟩
theorem ae {a:Int} (n:Nat) (h:a=n) (hn:n < 32):Xv (wrap64 a)=some n:=by
 rw[Fu Y Y];unfold Xv;rw[In Y];congr 1;omega
theorem kx (hb:Bs Ac) {a:Int} (n:Nat) (h:a=n) (hn:n < 32):NQ Ac (wrap64 a)=none:=by
 obtain⟨h1,h2⟩:=hb;rw[Fu Y Y];unfold NQ;rw[I Y]
section
variable {Ac:Int} (hb:Bs Ac) {x:XS}
include hb
theorem YE {d:Int} {a:Ag} (n:Nat) (h:EJ x.R a+k=n) (hn:n < 32):XF Ac (.load d a k) x=none/\evk (.load d a k) x=some (.ld d.toNat n):=
 ⟨by show(NQ Ac (wrap64 (EJ x.R a+k))).map _=none;rw[kx hb n h hn];rfl,by show(Xv (wrap64 (EJ x.R a+k))).map _=_;rw[ae n h hn];rfl⟩
theorem rB {a:Ag} {b:Ag} (n:Nat) (h:EJ x.R a+k=n) (hn:n < 32):XF Ac (.store a k b) x=none/\evk (.store a k b) x=some (.st n (EJ x.R b)):=
 ⟨by show(NQ Ac (wrap64 (EJ x.R a+k))).map _=none;rw[kx hb n h hn];rfl,by show(Xv (wrap64 (EJ x.R a+k))).map _=_;rw[ae n h hn];rfl⟩
end
theorem L6 (h:CP Ac n Ab ab p) (hc:c < n):Ab[p+16*c+2]?=some (.load 2 (.n (8+c)) 0)/\Ab[p+16*c+12]?=some (.JL 3 (.n (8+c)) 0 (.r 2) (.r 3))/\
  Ab[p+16*n+3+14*c+5]?=some (.load 2 (.n (8+c)) 0)/\Ab[p+30*n+3+4*c+3]?=some (.store (.n c) 0 (.r 2))/\Ab[p+34*n+3+3*c+2]?=some (.store (.n (8+c)) 0 (.r 5)):=by
 have h1:=Jn (Ki Ac) h.UA hc;have h2:=Jn (L7 Ac) h.nT hc;have h3:=Jn (Rt Ac) h.put hc;have h4:=Jn (Pf Ac) h.free hc;exact⟨h1 2 _ rfl,h1 12 _ rfl,h2 5 _ rfl,h3 3 _ rfl,h4 2 _ rfl⟩
theorem bV (hx:Ny x) {g:Gt} {lt:LT} (h:Sw x g lt):∃i e,x.Ab[lt.pc]?=some i/\XF x.Ac i lt.x=none/\evk i lt.x=some e/\UL g=some e:=by
 have h6:=hx.n6;obtain⟨ph,q0,q,rd,Bp,rv,wv⟩:=g;unfold Sw at h;unfold UL;cases ph with
 | node=>
  obtain⟨⟨ab,B,rd',lkd',hs⟩,h1,h2,_⟩:=h;cases hs with
  | halt hs hk hc=>exact⟨_,_,hc,rfl,rfl,by show(match q.s with | .nil=>_ | .out a _=>_ | _=>_)=_;rw[show q.s= .nil from hs]⟩
  | out hk hs hc hg hp hm=>exact⟨_,_,hc,rfl,rfl,by show(match q.s with | .nil=>_ | .out a _=>_ | _=>_)=_;rw[show q.s=_ from hs];show(if q.k.IS=true then _ else _)=_;rw[show q.k.IS=false from hk,hg];rfl⟩
  | EF ht hc hi=>
   rename_i t i;have e:UL ⟨.node,q0,q,rd,Bp,rv,wv⟩=some (.stop t):=by
    have FI:Eo q=some t:=ht;unfold UL;show(match q.s with | .nil=>_ | .out a _=>_ | _=>_)=_;cases UC:q.s with
    | nil=>unfold Eo at FI;rw[UC] at FI;cases FI
    | out a r=>unfold Eo at FI;rw[UC] at FI;cases FI
    | _=>simp only[FI];rfl
   rcases hi with⟨rfl,rfl⟩ | ⟨o,d,a,b,rfl,hm,rfl⟩
   ·exact⟨_,_,hc,rfl,rfl,e⟩
   ·refine⟨_,_,hc,?_,rfl,e⟩;show(Co o (EJ lt.x.R a) (EJ lt.x.R b)).map _=none;rw[hm];rfl
  | Pm hs hk _ _ _ _=>exact UV hs ((h2 hk).2 _ _)
  | get hs hk ha _ _ _ _ _ _=>
   refine UV ?_ (h1 hk).1;unfold Eo;rw[hs];show(if _ then _ else _)=none;rw[I];have:0<=FZ q.L _/\FZ q.L _ < _:=ha;show¬(FZ q.L _ < 0\/_<=FZ q.L _);omega
  | FB hs hk _ _=>
   refine UV ?_ (h1 (by rw[hk];rfl)).1;unfold Eo;rw[hs]
 | Pm=>
  obtain⟨b,s,ab,_,_,_,hc,_⟩:=h;have:=YE hx.hb (x:=lt.x) (d:=1) (a:= .n 16) (k:=0) 16 rfl AC;exact⟨_,_,hc.ld,this.1,this.2,rfl⟩
 | JF c=>
  obtain⟨b,s,ab,p0,v,r,hg,hp,h0⟩:=h;have hc:=hg.NX.get 4 _ rfl;have:=YE hx.hb (x:=lt.x) (d:=2) (a:= .r 0) (k:=8) (8+c) (by rw[eS];show lt.x.R 0+8=_;rw[h0];omega) (by have:=hg.NX.lt;omega);exact naC
 | JE c lv=>
  obtain⟨⟨b,s,ab,p0,v,r,hg,hp,h0,_⟩,_⟩:=h;have hc:=hg.NX.get 13 _ rfl;have:=YE hx.hb (x:=lt.x) (d:=1) (a:= .r 0) (k:=0) c (by rw[eS];show lt.x.R 0+0=_;rw[h0];omega) (by have:=hg.NX.lt;omega);exact naC
 | JS c lv y=>
  obtain⟨⟨b,s,ab,p0,v,r,hg,hp,h0,_⟩,_⟩:=h;have hc:=hg.NX.get 14 _ rfl;have:=YE hx.hb (x:=lt.x) (d:=3) (a:= .r 0) (k:=8) (8+c) (by rw[eS];show lt.x.R 0+8=_;rw[h0];omega) (by have:=hg.NX.lt;omega);exact naC
 | SS c=>
  obtain⟨hc,_,_,b,s,ab,p,hC,J1,hp⟩:=h;have:=YE hx.hb (x:=lt.x) (d:=2) (a:= .n (8+c)) (k:=0) (8+c) (by rw[ED];omega) Y;exact⟨_,_,by rw[hp];exact(L6 (FY hC J1).1 hc).1,this.1,this.2,rfl⟩
 | QY c lv=>
  obtain⟨hc,_,_,_,b,s,ab,p,hC,J1,hp,h2,h3⟩:=h;refine⟨_,_,by rw[hp];exact(L6 (FY hC J1).1 hc).2.1,rfl,?_,rfl⟩;show(Xv (wrap64 (8+(c:Int)+0))).map _=_;rw[ae (8+c) Y Y];show some (Ek.JL 3 (8+c) (lt.x.R 2) (lt.x.R 3))=_;rw[h2,h3]
 | xa=>
  obtain⟨_,b,s,ab,p,hC,J1,hp⟩:=h;exact⟨_,.DL 5 16 1,by rw[hp];exact(FY hC J1).1.b0,rfl,by show(Xv (wrap64 (16+0))).map _=_;rw[ae (a:=16+0) 16 rfl AC];rfl,rfl⟩
 | lo c=>
  obtain⟨hc,_,_,_,b,s,ab,p,hC,J1,hp,_⟩:=h;have:=YE hx.hb (x:=lt.x) (d:=2) (a:= .n (8+c)) (k:=0) (8+c) (by rw[ED];omega) Y;exact⟨_,_,by rw[hp];exact(L6 (FY hC J1).1 hc).2.2.1,this.1,this.2,rfl⟩
 | pu c=>
  obtain⟨hc,_,_,b,s,ab,p,hC,J1,hp,_,hm⟩:=h;have:=rB hx.hb (x:=lt.x) (a:= .n c) (k:=0) (b:= .r 2) c (by rw[ED];omega) Y;refine⟨_,_,by rw[hp];exact(L6 (FY hC J1).1 hc).2.2.2.1,this.1,this.2,?_⟩;show(q.BW c).map _=_;rw[show q.BW c=_ from hm];rfl
 | fr c=>
  obtain⟨hc,_,_,b,s,ab,p,hC,J1,hp,h5⟩:=h;have:=rB hx.hb (x:=lt.x) (a:= .n (8+c)) (k:=0) (b:= .r 5) (8+c) (by rw[ED];omega) Y;refine⟨_,_,by rw[hp];exact(L6 (FY hC J1).1 hc).2.2.2.2,this.1,this.2,?_⟩;show some (Ek.st (8+c) (2*wv))=some (.st (8+c) (lt.x.R 5));rw[h5]
 | te i=>
  obtain⟨b,s,ab,p,hC,hp,_,ho⟩:=h;obtain⟨Vf,z,Dw,pe,e1,e2,e3,e4,e5,e6,e7,e8⟩:=hC.NX;rw[CA,Bo] at e2;have:=e2.2;rw[CX,V,<-d7,<-e1] at this;unfold ON at this;rw[CA,Bo,CX] at this;have h2:=this.2;have e:p+(if Cr b=true then FX x.Ac x.n p else []).length=F3 x.n p b:=by
   unfold F3;split
   ·rw[Ge]
   ·rfl
  rw[e] at h2;refine⟨_,_,by rw[hp];exact h2 5 _ rfl,rfl,rfl,?_⟩;show(q.o[i]?).map _=_;rw[show q.o[i]?=_ from ho];rfl
 | ba c=>
  obtain⟨hc,hl,b,s,ab,z,Dw,_,_,Zi,_,_,hp⟩:=h;have:=rB hx.hb (x:=lt.x) (a:= .n (8+c)) (k:=0) (b:= .r 2) (8+c) (by rw[ED];omega) Y;unfold FD at Zi;rw[CA,CA,Bo,Bo] at Zi;have hk:=Jn (Tq x.Ac) Zi.1.1 hc 3 _ rfl;refine⟨_,_,by rw[hp];exact hk,this.1,this.2,?_⟩;show(Bp c).map _=_;rw[show Bp c=_ from hl];rfl
def Tc (q:KS) (y:Int):KS:=match q.s with
 | .get v _ _ _ r=>{q with s:=r,L:=C5 q.L v.toNat y}
 | _=>q
def gP (q:KS):KS:=match q.s with
 | .out a r=>{q with s:=r,o:=q.o++[FZ q.L a]}
 | _=>q
def YQ (g:Gt) (v:Int):Prop:=∃w,v=2*w/\0<=w/\w<=g.rv
inductive Nx (n:Nat) (g:Gt) (v:Int):Bool->Gt->Prop
 | out (h:g.ph= .node) (q':KS) (k:Sh GP (gP g.q) q'):Nx n g v false (EV q')
 | Pm (h:g.ph= .Pm) {b s:Bt} (h0:g.q0.s= .atomic b s) (g':Gt) (r:jK n b ⟨.node,g.q0,N6 g.q0,GP,GP,v,0⟩ g'):Nx n g v false g'
 | JF {c:Nat} (h:g.ph= .JF c) (hv:YQ g v):Nx n g v false {g with ph:= .JE c v}
 | Zl {c:Nat} (h:g.ph= .JF c) (hv:¬YQ g v) (g':Gt) (r:GB n g 0 g'):Nx n g v true g'
 | JE {c:Nat} {lv:Int} (h:g.ph= .JE c lv):Nx n g v false {g with ph:= .JS c lv v}
 | JS {c:Nat} {lv y:Int} (h:g.ph= .JS c lv y) (hv:v=lv) {b s:Bt} (h0:g.q0.s= .atomic b s) (g':Gt) (r:jK n b {g with ph:= .node,q:=Tc g.q y,rd:=F2 g.rd c y} g'):Nx n g v false g'
 | Zk {c:Nat} {lv y:Int} (h:g.ph= .JS c lv y) (hv:v≠lv) (g':Gt) (r:GB n g 0 g'):Nx n g v true g'
 | SS {c:Nat} (h:g.ph= .SS c) (hv:YQ g v):Nx n g v false {g with ph:= .QY c v}
 | nZ {c:Nat} (h:g.ph= .SS c) (hv:¬YQ g v) (g':Gt) (r:GB n g 0 g'):Nx n g v true g'
 | QY {c:Nat} {lv:Int} (h:g.ph= .QY c lv) (hv:v≠0) (g':Gt) (r:Mp n {g with Bp:=F2 g.Bp c lv} (c+1) g'):Nx n g v false g'
 | nY {c:Nat} {lv:Int} (h:g.ph= .QY c lv) (hv:v=0) (g':Gt) (r:GB n g 0 g'):Nx n g v true g'
 | xa (h:g.ph= .xa) (g':Gt) (r:Lt n {g with wv:=v+1} 0 g'):Nx n g v false g'
 | lo {c:Nat} (h:g.ph= .lo c) (hv:YQ g v) (g':Gt) (r:Lt n g (c+1) g'):Nx n g v false g'
 | lob {c:Nat} (h:g.ph= .lo c) (hv:¬YQ g v) (g':Gt) (r:GB n g 0 g'):Nx n g v true g'
 | pu {c:Nat} (h:g.ph= .pu c) (g':Gt) (r:Tw n g (c+1) g'):Nx n g v false g'
 | fr {c:Nat} (h:g.ph= .fr c) (g':Gt) (r:Mq n g (c+1) g'):Nx n g v false g'
 | te {i:Nat} (h:g.ph= .te i) (g':Gt) (r:Ls g (i+1) g'):Nx n g v false g'
 | ba {c:Nat} (h:g.ph= .ba c) (g':Gt) (r:GB n g (c+1) g'):Nx n g v false g'
def Nq (x:Cx) (g:Gt) (v:Int) (j:Nat) (g':Gt):Prop:=∃bad,Nx x.n g v bad g'/\(if bad then j+KB x g'<=EH g.q0+40 else j+1+KB x g'<=KB x g)
theorem Rn.mono {k:Nat} {s:LT} {Q Q':Nat->LT->Prop} (h:Rn Ac Ab k s Q) (q:∀j t,Q j t->Q' j t):Rn Ac Ab k s Q':=by
 obtain⟨j,t,h1,h2⟩:=h;exact⟨j,t,h1,q _ _ h2⟩
section
variable {x:Cx} (hx:Ny x) {g:Gt} {lt:LT}
include hx
theorem Rw {k:Nat} {R:Nat->Int} (hb:UY x g b s) (hm:Mt x.n x.cells g.B g.rd g.Bp g.q m) (hp:NP x.Ac x.n x.Ab ab (.Au b s g.q0.k) p) (hk:k<=9) (hN:∀g',GB x.n g 0 g'->Nx x.n g v true g'):
  Rn x.Ac x.Ab k ⟨ab,⟨R,m⟩⟩ (Lq x (Nq x g v)):=by
 obtain⟨z,Dw,hB⟩:=Acz hb hm hp;have h6:=hx.n6;have:=Rn.lH (P:=Nq x g v) (k:=k) (R:=R) hx hB (c:=0) (d6 _) fun j g' hr hle=>⟨true,hN g' hr,by show k+j+KB x g'<=_;omega⟩
 exact this
omit hx in
theorem sB {p0:Nat} {r:Bt} (h:wV x g m b s ab c p0 v r):∃p,NP x.Ac x.n x.Ab ab (.Au b s g.q0.k) p:=ax (k:= .rest r g.q.k) h.NX.NX h.Au.bo
theorem yq (DO:g.ph= .JF c) (h:Sw x g lt) {v:Int} (hv:0<=v/\v < 3000000000000000000):Rn x.Ac x.Ab 0 (Qn (.ld 2 (8+c)) v lt) (Lq x (Nq x g v)):=by
 obtain⟨ph,q0,q,rd,Bp,rv,wv⟩:=g;cases DO;obtain⟨b,s,ab,p0,w,r,hg,hp,h0⟩:=h;obtain⟨pc,R,m⟩:=lt;cases hp;obtain⟨p,Ox⟩:=sB hg;have AD:m.start=rv:=(hg.mt.bi (Vm hg.Au.bo)).1.start;show Rn x.Ac x.Ab 0 ⟨p0+4+1,⟨C5 R 2 v,m⟩⟩ _;refine Rn.JE hx.hb hg.NX.get (c:=c) ((BN R v (i:=2) (j:=0) AC).trans h0) (BZ _ _ _) ⟨hv.1,Y⟩ AD (fun RT j R' hj=>Rw hx hg.Au hg.mt Ox Y fun g' hr=> .Zl rfl (by exact RT) g' hr) fun u e1 e2 e3 R' r0 r2=>Rn.Bd ?_
 have ho:YQ ⟨.JF c,q0,q,rd,Bp,rv,wv⟩ v:=⟨u,e1,e2,e3⟩;refine⟨⟨.JE c v,q0,q,rd,Bp,rv,wv⟩,⟨⟨b,s,ab,p0,w,r,⟨⟨hg.Au.wj,hg.Au.nb,hg.Au.wf,hg.Au.bo,hg.Au.rp⟩,hg.mt,hg.Bp,hg.stm,hg.BW,hg.NX⟩,rfl,r0,r2⟩,ho⟩,false,.JF rfl ho,?_⟩;show 0+8+1+(EH q - 18)<=EH q - 9;have:60<=EH q:=by
  exact naE
 omega
theorem yp (DO:g.ph= .JE c lv) (h:Sw x g lt) {v:Int}:Rn x.Ac x.Ab 0 (Qn (.ld 1 c) v lt) (Lq x (Nq x g v)):=by
 have _:=hx;obtain⟨ph,q0,q,rd,Bp,rv,wv⟩:=g;cases DO;obtain⟨⟨b,s,ab,p0,w,r,hg,hp,h0,h2⟩,ho⟩:=h;obtain⟨pc,R,m⟩:=lt;cases hp;refine Rn.Bd ⟨⟨.JS c lv v,q0,q,rd,Bp,rv,wv⟩,⟨⟨b,s,ab,p0,w,r,⟨⟨hg.Au.wj,hg.Au.nb,hg.Au.wf,hg.Au.bo,hg.Au.rp⟩,hg.mt,hg.Bp,hg.stm,hg.BW,hg.NX⟩,rfl,(BN R v (i:=1) (j:=0) AC).trans h0,(BN R v (i:=1) (j:=2) AC).trans h2,BZ R 1 v⟩,ho⟩,false,.JE rfl,?_⟩;show 0+1+(EH q - 19)<=EH q - 18;have:60<=EH q:=by
  exact naE
 omega
theorem yo {y:Int} (DO:g.ph= .JS c lv y) (h:Sw x g lt) {v:Int}:Rn x.Ac x.Ab 0 (Qn (.ld 3 (8+c)) v lt) (Lq x (Nq x g v)):=by
 obtain⟨ph,q0,q,rd,Bp,rv,wv⟩:=g;cases DO;obtain⟨⟨b,s,ab,p0,w,r,hg,hp,h0,h2,h1⟩,ho⟩:=h;obtain⟨pc,R,m⟩:=lt;cases hp;obtain⟨p,Ox⟩:=sB hg;have Afz:=Vm hg.Au.bo;have h6:=hx.n6;have UG:=hg.NX.lt;obtain⟨f,z,a,hs,ha1,zw,hc⟩:=hg.stm;obtain⟨Km,ee⟩:=hg.mt.bi Afz;have hwf:=hg.mt.wf;show Rn x.Ac x.Ab 0 ⟨p0+14+1,⟨C5 R 3 v,m⟩⟩ _;refine Rn.JS hx.hb hg.NX.get (c:=c) (lv:=lv) (lw:=v) (x:=y) Y ((BN R v (i:=3) (j:=0) AC).trans h0) ((BN R v (i:=3) (j:=1) AC).trans h1) ((BN R v (i:=3) (j:=2) AC).trans h2) (BZ _ _ _) (fun Bi R'=>Rw hx hg.Au hg.mt Ox Y fun g' hr=> .Zk rfl Bi g' hr) fun he R' hR1=> ?_
 have RO:q.s= .get w f z a r:=hs;have hw':pO x.cells q.R (.rest q.s q.k):=hwf;rw[RO] at hw';obtain⟨⟨⟨Pz,aX,Ot,XA,Ud⟩,hA⟩,hk⟩:=hw';have hgq:Tc q y={q with s:=r,L:=C5 q.L w.toNat y}:=by unfold Tc;rw[RO]
 have Afv:Bp=GP:=hg.Bp;have yW:BI x.n ⟨q0.L,rv⟩ {m with rd:=C5 m.rd c 1} q.BW (F2 rd c y) Bp q.o:=⟨Km.Gr,Km.start,Km.qM,Km.j6,fun d hd=>by
   show C5 m.rd c 1 d=if (F2 rd c y d).isSome=true then 1 else 0
   unfold F2;by_cases QG:d=c
   · subst QG;rw[BZ,In rfl];rfl
   · rw[BN _ _ QG,I QG];exact Km.wZ d hd,Km.xd,Km.bC,Km.qq,Km.B7⟩
 have QZ:Mt x.n x.cells ⟨q0.L,rv⟩ (F2 rd c y) Bp q {m with rd:=C5 m.rd c 1}:=⟨hg.mt.L,hg.mt.R,hg.mt.wf,fun _=>⟨yW,ee⟩⟩;have Afr:=QZ.ya (v:=w.toNat) (x:=y) (r:=r) ⟨Ud,hA⟩ (by rw[RO];exact LE _);refine Rn.st hx.hb w.toNat (.AR w.toNat) (v:=y) hg.NX.st (Ns Y) (by rw[eS];exact hR1) ?_;refine Rn.Bu (g:=⟨.node,q0,Tc q y,F2 rd c y,Bp,rv,wv⟩) hx (b:=b) (s:=s) (ab:=ab) ⟨hg.Au.wj,hg.Au.nb,hg.Au.wf,?_,?_⟩ ?_ ?_ Afv fun j g' hr hle=>⟨false,.JS rfl he hg.Au.wj g' hr,?_⟩
 ·show(Tc q y).k.Ml=_;rw[hgq];exact hg.Au.bo
 ·show∀d,d < q0.k.Aj->(Tc q y).R d=_;rw[hgq];exact hg.Au.rp
 ·show NP x.Ac x.n x.Ab ab (.rest (Tc q y).s (Tc q y).k) _;rw[hgq];exact hg.NX.NX
 ·show Mt x.n x.cells ⟨q0.L,rv⟩ (F2 rd c y) Bp (Tc q y) _;rw[hgq];exact Afr
 ·have e1:EH (Tc q y)+60=EH q:=by rw[hgq];unfold EH;rw[RO];simp only[Sp,B9];omega
  have Ab4:j+KB x g'<=EH (Tc q y):=hle;show 0+3+1+j+1+KB x g'<=EH q - 19;omega
omit hx in
theorem vO {m':Du} (h:JI x g m b s ab p) (ph:Ph) (Bp:Nat->Option Int) (hm:Mt x.n x.cells g.B g.rd Bp g.q m'):JI x {g with ph:=ph,Bp:=Bp} m' b s ab p:=⟨h.Au.ph ph Bp g.wv,hm,h.s0,h.k0,h.NX⟩
theorem Abp (DO:g.ph= .SS c) (h:Sw x g lt) {v:Int} (hv:0<=v/\v < 3000000000000000000):Rn x.Ac x.Ab 0 (Qn (.ld 2 (8+c)) v lt) (Lq x (Nq x g v)):=by
 obtain⟨ph,q0,q,rd,Bp,rv,wv⟩:=g;cases DO;obtain⟨hc,oE,IU,b,s,ab,p,hC,J1,hp⟩:=h;obtain⟨pc,R,m⟩:=lt;cases hp;show Rn x.Ac x.Ab 0 ⟨p+16*c+2+1,⟨C5 R 2 v,m⟩⟩ _;refine Rn.Adl hx.hb (FY hC J1).1 hc (lv:=v) (rv:=rv) (BZ _ _ _) ⟨hv.1,Y⟩ hC.start (fun RT j R' hj=>Rw hx hC.Au hC.mt hC.NX Y fun g' hr=> .nZ rfl (by exact RT) g' hr) fun w R' e1 e2 e3 r2 r3=> ?_
 have ho:YQ ⟨.SS c,q0,q,rd,Bp,rv,wv⟩ v:=⟨w,e1,e2,e3⟩;refine⟨⟨.QY c v,q0,q,rd,Bp,rv,wv⟩,⟨hc,oE,IU,ho,b,s,ab,p,hC.ph _ _,J1,rfl,r2,r3⟩,false,.SS rfl ho,?_⟩;show 0+9+1+(K6 x ⟨.SS c,q0,q,rd,Bp,rv,wv⟩+3*x.n+2+4*x.n+3+14*x.n+7+16*(x.n - c) - 10)<=K6 x ⟨.SS c,q0,q,rd,Bp,rv,wv⟩+3*x.n+2+4*x.n+3+14*x.n+7+16*(x.n - c);omega
theorem Abo (DO:g.ph= .QY c lv) (h:Sw x g lt) {v:Int}:Rn x.Ac x.Ab 0 (Qn (.JL 3 (8+c) lv (lv+1)) v lt) (Lq x (Nq x g v)):=by
 obtain⟨ph,q0,q,rd,Bp,rv,wv⟩:=g;cases DO;obtain⟨hc,oE,IU,ho,b,s,ab,p,hC,J1,hp,h2,h3⟩:=h;obtain⟨pc,R,m⟩:=lt;cases hp;have h6:=hx.n6;show Rn x.Ac x.Ab 0 ⟨p+16*c+12+1,⟨C5 R 3 v,m⟩⟩ _;refine Rn.Adk hx.hb hx.n6 (FY hC J1).1 hc (lv:=lv) ((BN R v (i:=3) (j:=2) AC).trans h2) (fun h0=>Rw hx hC.Au hC.mt hC.NX Y fun g' hr=> .nY rfl (by rw[BZ] at h0;exact h0) g' hr) fun h0=> ?_
 rw[BZ] at h0;obtain⟨Km,ee⟩:=hC.bi;have AgN:(Bp c).isSome=false:=by have:(Bp c).isSome=_:=IU c hc;rw[this];simp
 have hm:Mt x.n x.cells ⟨q0.L,rv⟩ rd (F2 Bp c lv) q {m with lk:=C5 m.lk c 1,hd:=C5 m.hd c lv}:=by
  refine⟨hC.mt.L,hC.mt.R,hC.mt.wf,fun hb=>⟨⟨Km.Gr,Km.start,Km.qM,Km.j6,Km.wZ,fun d hd=> ?_,fun d u hd hu=> ?_,Km.qq,Km.B7⟩,(hC.mt.bi hb).2⟩⟩
  ·show C5 m.lk c 1 d=if (F2 Bp c lv d).isSome=true then 1 else 0
   unfold F2;by_cases QG:d=c
   ·subst QG;rw[BZ,In rfl];rfl
   ·rw[BN _ _ QG,I QG];exact Km.xd d hd
  ·show C5 m.hd c lv d=u;unfold F2 at hu;by_cases QG:d=c
   ·subst QG;rw[In rfl] at hu;cases hu;exact BZ _ _ _
   ·rw[I QG] at hu;rw[BN _ _ QG];exact Km.bC d u hd hu
 refine Rn.kD (g:=⟨.QY c lv,q0,q,rd,F2 Bp c lv,rv,wv⟩) hx (vO hC (.QY c lv) _ hm) J1 (fun d hd=> ?_) Y fun j g' hr hle=>⟨false,.QY rfl h0 g' ?_,?_⟩
 ·show(F2 Bp c lv d).isSome=(decide (d < c+1) && (q.BW d).isSome);unfold F2;by_cases QG:d=c
  ·subst QG;rw[In rfl,Qa0 Y];exact oE.symm
  ·rw[I QG];have:(Bp d).isSome=(decide (d < c) && (q.BW d).isSome):=IU d hd;rw[this];by_cases AX:d < c
   ·rw[Qa0 AX,Qa0 Y]
   ·rw[Qal AX,Qal Y]
 ·cases hr with
  | lk c' h1 h2 h3 h4=>exact .lk c' h1 h2 h3 h4
  | xa h1=>exact .xa h1
 ·have e:K6 x ⟨.QY c lv,q0,q,rd,F2 Bp c lv,rv,wv⟩=K6 x ⟨.QY c lv,q0,q,rd,Bp,rv,wv⟩:=rfl;show 0+3+j+1+KB x g'<=K6 x ⟨.QY c lv,q0,q,rd,Bp,rv,wv⟩+3*x.n+2+4*x.n+3+14*x.n+7+16*(x.n - c) - 10;omega
theorem Ac3 (DO:g.ph= .xa) (h:Sw x g lt) {v:Int} (hv:0<=v/\v < 3000000000000000000):Rn x.Ac x.Ab 0 (Qn (.DL 5 16 1) v lt) (Lq x (Nq x g v)):=by
 obtain⟨ph,q0,q,rd,Bp,rv,wv⟩:=g;cases DO;obtain⟨IU,b,s,ab,p,hC,J1,hp⟩:=h;obtain⟨pc,R,m⟩:=lt;cases hp;show Rn x.Ac x.Ab 0 ⟨p+16*x.n+1,⟨C5 R 5 v,m⟩⟩ _;refine Rn.Acx (FY hC J1).1 (BZ R 5 v) Y fun R' h5=> ?_
 refine Rn.kB (g:=⟨.xa,q0,q,rd,Bp,rv,v+1⟩) (c:=0) hx (hC.ph _ _) J1 IU (d6 _) h5 fun j g' hr hle=>⟨false,.xa rfl g' hr,?_⟩
 have e:K6 x ⟨.xa,q0,q,rd,Bp,rv,v+1⟩=K6 x ⟨.xa,q0,q,rd,Bp,rv,wv⟩:=rfl;show 0+2+j+1+KB x g'<=K6 x ⟨.xa,q0,q,rd,Bp,rv,wv⟩+3*x.n+2+4*x.n+3+14*x.n+7;omega
theorem Ac6 (DO:g.ph= .lo c) (h:Sw x g lt) {v:Int} (hv:0<=v/\v < 3000000000000000000):Rn x.Ac x.Ab 0 (Qn (.ld 2 (8+c)) v lt) (Lq x (Nq x g v)):=by
 obtain⟨ph,q0,q,rd,Bp,rv,wv⟩:=g;cases DO;obtain⟨hc,hr1,KL,IU,b,s,ab,p,hC,J1,hp,h5⟩:=h;obtain⟨pc,R,m⟩:=lt;cases hp;show Rn x.Ac x.Ab 0 ⟨p+16*x.n+3+14*c+5+1,⟨C5 R 2 v,m⟩⟩ _;refine Rn.Adj hx.hb (FY hC J1).1 hc (lv:=v) (rv:=rv) (BZ _ _ _) ⟨hv.1,Y⟩ hC.start (fun RT j R' hj=>Rw hx hC.Au hC.mt hC.NX Y fun g' hr=> .lob rfl (by exact RT) g' hr) fun w R' e1 e2 e3 r5=> ?_
 refine Rn.kB (g:=⟨.lo c,q0,q,rd,Bp,rv,wv⟩) (c:=c+1) hx hC J1 IU Y (r5.trans ((BN R v (i:=2) (j:=5) AC).trans h5)) fun j g' hr hle=>⟨false,.lo rfl ⟨w,e1,e2,e3⟩ g' hr,?_⟩
 show 0+8+j+1+KB x g'<=K6 x ⟨.lo c,q0,q,rd,Bp,rv,wv⟩+3*x.n+2+4*x.n+3+14*(x.n - c);omega
theorem Ac5 (DO:g.ph= .pu c) (h:Sw x g lt) {v u:Int}:Rn x.Ac x.Ab 0 (Qn (.st c u) v lt) (Lq x (Nq x g v)):=by
 obtain⟨ph,q0,q,rd,Bp,rv,wv⟩:=g;cases DO;obtain⟨hc,oE,IU,b,s,ab,p,hC,J1,hp,h5,_⟩:=h;obtain⟨pc,R,m⟩:=lt;cases hp;show Rn x.Ac x.Ab 0 ⟨p+30*x.n+3+4*(c+1),⟨R,m⟩⟩ _;refine Rn.kj (g:=⟨.pu c,q0,q,rd,Bp,rv,wv⟩) (c:=c+1) hx hC J1 IU Y h5 fun j g' hr hle=>⟨false,.pu rfl g' hr,?_⟩
 show 0+j+1+KB x g'<=K6 x ⟨.pu c,q0,q,rd,Bp,rv,wv⟩+3*x.n+2+4*(x.n - c);omega
theorem Ac7 (DO:g.ph= .fr c) (h:Sw x g lt) {v u:Int}:Rn x.Ac x.Ab 0 (Qn (.st (8+c) u) v lt) (Lq x (Nq x g v)):=by
 obtain⟨ph,q0,q,rd,Bp,rv,wv⟩:=g;cases DO;obtain⟨hc,oE,IU,b,s,ab,p,hC,J1,hp,h5⟩:=h;obtain⟨pc,R,m⟩:=lt;cases hp;show Rn x.Ac x.Ab 0 ⟨p+34*x.n+3+3*(c+1),⟨R,m⟩⟩ _;refine Rn.kZ (g:=⟨.fr c,q0,q,rd,Bp,rv,wv⟩) (c:=c+1) hx hC J1 IU Y h5 fun j g' hr hle=>⟨false,.fr rfl g' hr,?_⟩
 show 0+j+1+KB x g'<=K6 x ⟨.fr c,q0,q,rd,Bp,rv,wv⟩+3*(x.n - c);omega
omit hx in
theorem mf (hc:JI x g m b s ab p):D1 x.Ab (rz ab (Ku x.Ac (F3 x.n p b))) (F3 x.n p b):=by
 obtain⟨Vf,z,Dw,pe,e1,e2,e3,e4,e5,e6,e7,e8⟩:=hc.NX;exact nag
theorem Ac4 (DO:g.ph= .te i) (h:Sw x g lt) {v u:Int}:Rn x.Ac x.Ab 0 (Qn (.out u) v lt) (Lq x (Nq x g v)):=by
 obtain⟨ph,q0,q,rd,Bp,rv,wv⟩:=g;cases DO;obtain⟨b,s,ab,p,hC,hp,h1,ho⟩:=h;obtain⟨pc,R,m⟩:=lt;cases hp;have Oz:q.o[i]?=some (R 2):=ho;have AX:=(d9.1 Oz).1;have h8:q.o.length<=8:=hC.bi.2;show Rn x.Ac x.Ab 0 ⟨F3 x.n p b+5+1,⟨R,m⟩⟩ _;refine Rn.AcT (mf hC) h1 Y fun R' kW=> ?_
 refine Rn.Z3 (g:=⟨.te i,q0,q,rd,Bp,rv,wv⟩) (i:=i+1) hx hC AX kW fun j g' hr hle=>⟨false,.te rfl g' hr,?_⟩
 have Ab4:j+KB x g'<=EH (Fl q0 q)+4+7*(q.o.length - (i+1)):=hle;show 0+2+j+1+KB x g'<=EH (Fl q0 q)+7*(q.o.length - i);omega
theorem Ac8 (DO:g.ph= .ba c) (h:Sw x g lt) {v u:Int}:Rn x.Ac x.Ab 0 (Qn (.st (8+c) u) v lt) (Lq x (Nq x g v)):=by
 obtain⟨ph,q0,q,rd,Bp,rv,wv⟩:=g;cases DO;obtain⟨hc,hl,b,s,ab,z,Dw,hB,hM,h1,h2,h3,hp⟩:=h;obtain⟨pc,R,m⟩:=lt;cases hp;show Rn x.Ac x.Ab 0 ⟨ab+4*(c+1),⟨R,m⟩⟩ _;refine Rn.lH (g:=⟨.ba c,q0,q,rd,Bp,rv,wv⟩) (c:=c+1) hx ⟨hB,hM,h1,h2,h3⟩ Y fun j g' hr hle=>⟨false,.ba rfl g' hr,?_⟩
 have Ab4:j+KB x g'<=EH q0+4*(x.n - (c+1))+3:=hle;show 0+j+1+KB x g'<=EH q0+4*(x.n - c);omega
theorem Abq (DO:g.ph= .Pm) (h:Sw x g lt) {v:Int}:Rn x.Ac x.Ab 0 (Qn (.ld 1 16) v lt) (Lq x (Nq x g v)):=by
 obtain⟨ph,q0,q,rd,Bp,rv,wv⟩:=g;cases DO;obtain⟨b,s,ab,h0,Vf,hwf,xn,hL,hR,IU,yW⟩:=h;have qp:q0.s= .atomic b s:=h0;obtain⟨pc,R,m⟩:=lt;show Rn x.Ac x.Ab 0 ⟨pc+1,⟨C5 R 1 v,m⟩⟩ _;refine Rn.st hx.hb 38 .start (v:=v) xn.st rfl (BZ R 1 v) ?_;have e:N6 q0=⟨b,.Au b s q0.k,q0.L,q0.R,GP,[]⟩:=by unfold N6;rw[qp]
 have hw:=hwf;have hw':pO x.cells q0.R (.rest q0.s q0.k):=hwf;rw[qp] at hw';obtain⟨⟨⟨hi,hd,P0,Ud⟩,⟨hA1,AfR⟩,hA2⟩,hk⟩:=hw';have AdP:q0.k.IS=false:=Vf;refine Rn.Bu (g:=⟨.node,q0,N6 q0,GP,GP,v,0⟩) hx (b:=b) (s:=s) (ab:=ab) ⟨h0,Vf,hwf,by rw[e];rfl,by rw[e];exact fun _ _=>rfl⟩ (by rw[e];exact xn.NX) ?_ rfl fun j g' hr hle=>⟨false,.Pm rfl h0 g' hr,?_⟩
 ·rw[e];refine⟨hL,hR,⟨⟨P0,hA1⟩,⟨AdP,hd⟩,⟨P0,hA1,AfR⟩,⟨by rw[AdP] at Ud;exact Ud,hA2⟩,hk⟩,fun _=>⟨?_,?_⟩⟩
  ·have Km:=BI.Mh (m:=m) xn.cl xn.qq;exact⟨fun i hi=>(xn.kp i hi).trans (hL i hi),rfl,Km.qM,Km.j6,Km.wZ,Km.xd,Km.bC,Km.qq,Km.B7⟩
  ·show 0+(ob b+0)<=8;omega
 ·have e1:EH (N6 q0)+80=EH q0:=by rw[e];unfold EH;rw[qp];simp only[Sp,B9];omega
  have Ab4:j+KB x g'<=EH (N6 q0):=hle;show 0+1+j+1+KB x g'<=EH q0 - 27;omega
theorem Abn (DO:g.ph= .node) (h:Sw x g lt) {v u:Int} (he:UL g=some (.out u)):Rn x.Ac x.Ab 0 (Qn (.out u) v lt) (Lq x (Nq x g v)):=by
 obtain⟨ph,q0,q,rd,Bp,rv,wv⟩:=g;cases DO;have Ca:(match q.s with | .nil=>some (.stop 10) | .out a _=>if q.k.IS then none else some (.out (FZ q.L a)) | _=>(Eo q).map .stop)=some (Ek.out u):=he;obtain⟨⟨ab,B,rd',lkd',hs⟩,h1,h2,_⟩:=h;cases hs with
 | out hk hs hc hg hp hm=>
  rename_i a r gg;have RO:q.s= .out a r:=hs;have LH:q.k.IS=false:=hk;have e:gP q={q with s:=r,o:=q.o++[FZ q.L a]}:=by unfold gP;rw[RO]
  have ep:=hm.wf;have C4:pO x.cells q.R (.rest q.s q.k):=ep;rw[RO] at C4;refine Rn.outside (q:=gP q) (ab:=ab) (B:=B) (rd:=rd') (Bp:=lkd') hx (by rw[e];exact hp) (by rw[e];exact hk) ?_ fun q' j hk hle=>⟨false,.out rfl q' hk,?_⟩
  ·rw[e];exact⟨hm.L,hm.R,⟨⟨C4.1.1.2,C4.1.2⟩,C4.2⟩,fun hb=>UV (LH.symm.trans hb) AC⟩
  ·have e1:EH (gP q)+6=EH q:=by rw[e];unfold EH;rw[RO];simp only[Sp,B9];omega
   show 0+j+1+KB x (EV q')<=EH q - KZ q.s;rw[RO];simp only[KZ];omega
 | halt hs _ _=>rw[show q.s= .nil from hs] at Ca;cases Ca
 | EF ht _ _=>
  have FI:Eo q=some _:=ht;cases UC:q.s with
  | nil=>rw[UC] at Ca;cases Ca
  | out a r=>unfold Eo at FI;rw[UC] at FI;cases FI
  | _=>rw[UC,FI] at Ca;cases Ca
 | Pm hs hk _ _ _ _=>exact UV hs ((h2 hk).2 _ _)
 | get hs hk ha _ _ _ _ _ _=>rw[show q.s=_ from hs] at Ca;cases hkt:Eo q with | none=>rw[hkt] at Ca;cases Ca | some t=>rw[hkt] at Ca;cases Ca
 | FB hs hk _ _=>rw[show q.s= .nil from hs] at Ca;cases Ca
theorem wh (h:Sw x g lt) {e:Ek} (he:UL g=some e) (uF:∀t,e≠ .stop t) {v:Int} (hv:(∃c lv,g.ph= .JE c lv)\/(0<=v/\v < 3000000000000000000)):Rn x.Ac x.Ab 0 (Qn e v lt) (Lq x (Nq x g v)):=by
 have Wy:(∀c lv,g.ph≠ .JE c lv)->0<=v/\v < 3000000000000000000:=fun h=>by
  rcases hv with⟨c,lv,h2⟩ | h2
  ·exact UV h2 (h c lv)
  ·exact h2
 have Ca:=he;unfold UL at Ca;cases DO:g.ph with
 | node=>
  have:∃u,e= .out u:=by
   rw[DO] at Ca;cases UC:g.q.s with
   | nil=>simp only[UC] at Ca;cases Ca;exact UV rfl (uF _)
   | out a r=>
    simp only[UC] at Ca;split at Ca
    ·cases Ca
    ·cases Ca;exact⟨_,rfl⟩
   | _=>
    simp only[UC] at Ca;cases hk:Eo g.q with
    | none=>rw[hk] at Ca;cases Ca
    | some t=>rw[hk] at Ca;cases Ca;exact UV rfl (uF _)
  obtain⟨u,rfl⟩:=this;exact Abn hx DO h he
 | Pm=>rw[DO] at Ca;cases Ca;exact Abq hx DO h
 | JF c=>rw[DO] at Ca;cases Ca;exact yq hx DO h (Wy (by rw[DO];exact fun _ _ h=>by cases h))
 | JE c lv=>rw[DO] at Ca;cases Ca;exact yp hx DO h
 | JS c lv y=>rw[DO] at Ca;cases Ca;exact yo hx DO h
 | SS c=>rw[DO] at Ca;cases Ca;exact Abp hx DO h (Wy (by rw[DO];exact fun _ _ h=>by cases h))
 | QY c lv=>rw[DO] at Ca;cases Ca;exact Abo hx DO h
 | xa=>rw[DO] at Ca;cases Ca;exact Ac3 hx DO h (Wy (by rw[DO];exact fun _ _ h=>by cases h))
 | lo c=>rw[DO] at Ca;cases Ca;exact Ac6 hx DO h (Wy (by rw[DO];exact fun _ _ h=>by cases h))
 | pu c=>
  rw[DO] at Ca;replace Ca:(g.q.BW c).map (Ek.st c ·)=some e:=Ca;cases hm:g.q.BW c with
  | none=>rw[hm] at Ca;cases Ca
  | some u=>rw[hm] at Ca;cases Ca;exact Ac5 hx DO h
 | fr c=>rw[DO] at Ca;cases Ca;exact Ac7 hx DO h
 | te i=>
  rw[DO] at Ca;replace Ca:(g.q.o[i]?).map Ek.out=some e:=Ca;cases hm:g.q.o[i]? with
  | none=>rw[hm] at Ca;cases Ca
  | some u=>rw[hm] at Ca;cases Ca;exact Ac4 hx DO h
 | ba c=>
  rw[DO] at Ca;replace Ca:(g.Bp c).map (Ek.st (8+c) ·)=some e:=Ca;cases hm:g.Bp c with
  | none=>rw[hm] at Ca;cases Ca
  | some u=>rw[hm] at Ca;cases Ca;exact Ac8 hx DO h
end
def Cv {α:Type} (f:Nat->α) (t:Nat) (v:α):Nat->α:=fun u=>if u=t then v else f u
theorem BU (f:Nat->α) (t:Nat) (v:α):Cv f t v t=v:=by simp[Cv]
theorem Ds (f:Nat->α) {t u:Nat} (v:α) (h:u≠t):Cv f t v u=f u:=by simp[Cv,h]
theorem FL (f:Nat->α) (t:Nat):Cv f t (f t)=f:=by
 funext u;unfold Cv;split
 ·rename_i h;rw[h]
 ·rfl
def O8 (f:Nat->Option (Nat×Int)) (n:Nat) (c:Nat):List (Nat×Int):=if c < n then (f c).toList++O8 f n (c+1) else []
termination_by n - c
theorem L5 (f:Nat->Option (Nat×Int)) {n c:Nat} (h:c < n):O8 f n c=(f c).toList++O8 f n (c+1):=by rw[O8,In h]
theorem Lh (f:Nat->Option (Nat×Int)) {n c:Nat} (h:n<=c):O8 f n c=[]:=by rw[O8,I Y]
theorem RD (f:Nat->Option (Nat×Int)) (n:Nat) {c c':Nat} (h:c<=c') (hf:∀d,c<=d->d < c'->d < n->f d=none):O8 f n c=O8 f n c':=by
 obtain⟨k,rfl⟩:∃k,c'=c+k:=⟨c' - c,Y⟩;induction k with
 | zero=>rfl
 | succ k ih=>
  rw[ih Y fun d h1 h2 h3=>hf d h1 Y h3];by_cases hn:c+k < n
  ·rw[L5 f hn,hf (c+k) Y Y hn];rfl
  ·rw[Lh f Y,Lh f Y]
theorem U8 (f:Nat->Option (Nat×Int)) (n:Nat) {c:Nat} (hf:∀d,c<=d->d < n->f d=none):O8 f n c=[]:=by
 by_cases h:c<=n
 ·rw[RD f n h fun d h1 _ h3=>hf d h1 h3,Lh f (LE _)]
 ·exact Lh f Y
theorem IE {p:Nat×Int}:∀{c:Nat},p∈O8 f n c<->∃d,c<=d/\d < n/\f d=some p:=by
 have key:∀k c,n - c<=k->(p∈O8 f n c<->∃d,c<=d/\d < n/\f d=some p):=by
  intro k;induction k with
  | zero=>
   intro c hc;exact naJ
  | succ k ih=>
   intro c hc;by_cases h:c < n
   ·rw[L5 f h,Nm,ih (c+1) Y,Qci];constructor
    ·rintro(h1 | ⟨d,h1,h2,h3⟩)
     ·exact⟨c,LE _,h,h1⟩
     ·exact⟨d,Y,h2,h3⟩
    ·rintro⟨d,h1,h2,h3⟩;by_cases hd:d=c
     ·subst hd;exact .inl h3
     ·exact .inr ⟨d,Y,h2,h3⟩
   ·exact naJ
 exact fun {c}=>key (n - c) c (LE _)
def Xg (p q:Nat×Int):Prop:=8<=p.1->p.1≠q.1
theorem Y3 (h:∀d p,f d=some p->p.1=8+d) (n:Nat):∀c,(O8 f n c).Pairwise Xg:=by
 have key:∀k c,n - c<=k->(O8 f n c).Pairwise Xg:=by
  intro k;induction k with
  | zero=>intro c hc;rw[Lh f Y];exact .nil
  | succ k ih=>
   intro c hc;by_cases hn:c < n
   ·rw[L5 f hn,Qdh];refine⟨?_,ih (c+1) Y,?_⟩
    ·cases f c <;>simp
    ·intro p hp q hq _ he;obtain⟨d,h1,h2,h3⟩:=IE.1 hq;have e1:=h c p (by simpa using hp);have e2:=h d q h3;omega
   ·rw[Lh f Y];exact .nil
 exact fun c=>key (n - c) c (LE _)
structure LK (T n:Nat) (sm:Nat->Int) (N:Int) (H:Nat->Nat->Option Int) (Z95:Nat->List (Nat×Int)):Prop where
 DK:∀t c v,t < T->c < n->H t c=some v->sm (8+c)=v+1/\(∃w,v=2*w/\0<=w/\w<=N)/\∀u,(8+c,u)∉Z95 t
 todo:∀t a v,t < T->(a,v)∈Z95 t->a < n\/∃c,c < n/\a=8+c/\(∃w,v=2*w/\0<=w/\w<=N)/\∃u,sm (8+c)=2*u+1/\0<=u/\u<=N
 nd:∀t,t < T->(Z95 t).Pairwise Xg
 Xx:∀t t' c,t < T->t' < T->c < n->((H t c).isSome=true\/∃v,(8+c,v)∈Z95 t)->((H t' c).isSome=true\/∃v,(8+c,v)∈Z95 t')->t=t'
 free:∀c,c < n->(∀t,t < T->H t c=none/\∀v,(8+c,v)∉Z95 t)->∃w,sm (8+c)=2*w/\0<=w/\w<=N
section
variable {T n:Nat} {sm:Nat->Int} {N:Int} {H:Nat->Nat->Option Int} {Z95:Nat->List (Nat×Int)} (h:LK T n sm N H Z95) (h6:n<=6)
include h
theorem LK.Ya {sm':Nat->Int} (hN:N<=N') (hs:∀c,c < n->sm' (8+c)=sm (8+c)):LK T n sm' N' H Z95 where
 DK:=fun t c v ht hc hv=>by
  obtain⟨h1,⟨w,h2,h3,h4⟩,h5⟩:=h.DK t c v ht hc hv;exact⟨by rw[hs c hc];exact h1,⟨w,h2,h3,Y⟩,h5⟩
 todo:=fun t a v ht hv=>by
  rcases h.todo t a v ht hv with h1 | ⟨c,h1,h2,⟨w,h3,h4,h5⟩,u,h6,h7,h8⟩
  ·exact .inl h1
  ·exact .inr ⟨c,h1,h2,⟨w,h3,h4,Y⟩,u,by rw[hs c h1];exact h6,h7,Y⟩
 nd:=h.nd
 Xx:=h.Xx
 free:=fun c hc hx=>by
  obtain⟨w,h1,h2,h3⟩:=h.free c hc hx;exact⟨w,by rw[hs c hc];exact h1,h2,Y⟩
include h6
theorem LK.val (hc:c < n):∃w,0<=w/\w<=N/\(sm (8+c)=2*w\/sm (8+c)=2*w+1):=by
 by_cases hx:∀t,t < T->H t c=none/\∀v,(8+c,v)∉Z95 t
 ·obtain⟨w,h1,h2,h3⟩:=h.free c hc hx;exact⟨w,h2,h3,.inl h1⟩
 ·obtain⟨t,ht⟩:=Classical.not_forall.1 hx;obtain⟨ht,hx⟩:=Classical.not_imp.1 ht;cases hH:H t c with
  | some v=>
   obtain⟨h1,⟨w,h2,h3,h4⟩,_⟩:=h.DK t c v ht hc hH;exact⟨w,h3,h4,.inr Y⟩
  | none=>
   obtain⟨v,hv⟩:∃v,(8+c,v)∈Z95 t:=by
    refine Classical.byContradiction fun hn=>hx ⟨hH,fun v hv=>hn ⟨v,hv⟩⟩
   rcases h.todo t _ v ht hv with h1 | ⟨c',h1,h2,_,u,h3,h4,h5⟩
   ·omega
   ·obtain rfl:c'=c:=Y
    exact⟨u,h4,h5,.inr h3⟩
theorem LK.Cy {u:Int} {r:List (Nat×Int)} (ht:t < T) (hd:Z95 t=(a,u)::r):LK T n (C5 sm a u) N H (Cv Z95 t r):=by
 have bh:∀t' p,p∈Cv Z95 t r t'->p∈Z95 t':=fun t' p hp=>by
  unfold Cv at hp;split at hp
  ·rename_i he;rw[he,hd];exact U _ hp
  ·exact hp
 have La:(a,u)∈Z95 t:=by rw[hd];exact J ..
 have GQ:=h.nd t ht;rw[hd,List.pairwise_cons] at GQ;have eA:∀{c:Nat},c < n->a=8+c->∀t',t' < T->(H t' c=none)/\∀v,(8+c,v)∉Cv Z95 t r t':=fun {c} hc ha t' FI=>by
  have Bi:∀v,(8+c,v)∉Cv Z95 t r t:=fun v hv=>by
   rw[BU] at hv;exact GQ.1 _ hv (by show 8<=a;omega) ha
  have ho:∀t'',t'' < T->((H t'' c).isSome=true\/∃v,(8+c,v)∈Z95 t'')->t''=t:=fun t'' Afa hx=>h.Xx t'' t c Afa ht hc hx (.inr ⟨u,by rw[<-ha];exact La⟩)
  constructor
  ·cases hH:H t' c with
   | none=>rfl
   | some v=>
    have:=ho t' FI (.inl (by rw[hH];rfl));subst this;exact UV (by rw[<-ha];exact La) ((h.DK t' c v FI hc hH).2.2 u)
  ·intro v hv;by_cases he:t'=t
   ·subst he;exact Bi v hv
   ·exact he (ho t' FI (.inr ⟨v,bh t' _ hv⟩))
 refine⟨fun t' c v FI hc hv=> ?_,fun t' b v FI hv=> ?_,fun t' FI=> ?_,fun t' t'' c h1 h2 h3 h4 h5=>h.Xx t' t'' c h1 h2 h3 (h4.imp id fun ⟨v,hv⟩=>⟨v,bh _ _ hv⟩) (h5.imp id fun ⟨v,hv⟩=>⟨v,bh _ _ hv⟩),fun c hc hx=> ?_⟩
 ·obtain⟨h1,h2,h3⟩:=h.DK t' c v FI hc hv;refine⟨?_,h2,fun u' iK=>h3 u' (bh _ _ iK)⟩;by_cases ha:a=8+c
  ·have:=(eA hc ha t' FI).1;rw[hv] at this;cases this
  ·exact(BN _ _ (fun e=>ha e.symm)).trans h1
 ·rcases h.todo t' b v FI (bh _ _ hv) with h1 | ⟨c,h1,h2,h3,w,h4,h5⟩
  ·exact .inl h1
  ·refine .inr ⟨c,h1,h2,h3,w,?_,h5⟩;by_cases ha:a=8+c
   ·exact UV (by rw[<-h2];exact hv) ((eA h1 ha t' FI).2 v)
   ·exact(BN _ _ (fun e=>ha e.symm)).trans h4
 ·unfold Cv;split
  ·exact GQ.2
  ·exact h.nd t' FI
 ·by_cases ha:a=8+c
  ·rcases h.todo t a u ht La with h1 | ⟨c',h1,h2,⟨w,h3,h4,h5⟩,_⟩
   ·omega
   ·exact⟨w,by rw[ha,BZ];exact h3,h4,h5⟩
  ·obtain⟨w,h1,h2⟩:=h.free c hc fun t' FI=>⟨(hx t' FI).1,fun v hv=>by
      by_cases he:t'=t
      · subst he;have:=(hx t' FI).2 v;rw[BU] at this;rw[hd] at hv;rcases Pi.1 hv with h1 | h1
        · cases h1;exact ha rfl
        · exact this h1
      · have:=(hx t' FI).2 v;rw[Ds _ _ he] at this;exact this hv⟩
   exact⟨w,(BN _ _ (fun e=>ha e.symm)).trans h1,h2⟩
theorem LK.UA (ht:t < T) (hc:c < n) (he:sm (8+c)=lv) (hl:∃w,lv=2*w/\0<=w/\w<=N):LK T n (C5 sm (8+c) (lv+1)) N (Cv H t (F2 (H t) c lv)) Z95:=by
 have NI:∀t',t' < T->H t' c=none/\∀v,(8+c,v)∉Z95 t':=fun t' FI=>by
  obtain⟨w,hw,_⟩:=hl;constructor
  ·cases hH:H t' c with
   | none=>rfl
   | some v=>obtain⟨h1,⟨w',h2,_⟩,_⟩:=h.DK t' c v FI hc hH;omega
  ·intro v hv;rcases h.todo t' _ v FI hv with h1 | ⟨c',h1,h2,_,u,h3,_⟩
   ·omega
   ·obtain rfl:c'=c:=Y
    omega
 have hH:∀t' d,(t'≠t\/d≠c)->Cv H t (F2 (H t) c lv) t' d=H t' d:=fun t' d hd=>by
  unfold Cv F2;by_cases h1:t'=t
  ·rw[In h1];rcases hd with hd | hd
   ·exact UV h1 hd
   ·rw[I hd,h1]
  ·rw[I h1]
 have hHt:Cv H t (F2 (H t) c lv) t c=some lv:=by rw[BU];unfold F2;rw[In rfl]
 refine⟨fun t' d v FI hd hv=> ?_,fun t' b v FI hv=> ?_,h.nd,fun t' t'' d h1 h2 h3 h4 h5=> ?_,fun d hd hx=> ?_⟩
 ·by_cases hx:t'=t/\d=c
  ·obtain⟨rfl,rfl⟩:=hx;rw[hHt] at hv;cases hv;exact⟨BZ _ _ _,hl,(NI t' FI).2⟩
  ·rw[hH t' d Y] at hv;by_cases QG:d=c
   ·subst QG;rw[(NI t' FI).1] at hv;cases hv
   ·obtain⟨h1,h2,h3⟩:=h.DK t' d v FI hd hv;exact⟨(BN _ _ Y).trans h1,h2,h3⟩
 ·rcases h.todo t' b v FI hv with h1 | ⟨d,h1,h2,h3,u,h4,h5⟩
  ·exact .inl h1
  ·refine .inr ⟨d,h1,h2,h3,u,?_,h5⟩;by_cases QG:d=c
   ·subst QG;exact UV (by rw[<-h2];exact hv) ((NI t' FI).2 v)
   ·exact(BN _ _ Y).trans h4
 ·by_cases QG:d=c
  ·subst QG;have:∀t3,t3 < T->((Cv H t (F2 (H t) d lv) t3 d).isSome=true\/∃v,(8+d,v)∈Z95 t3)->t3=t:=fun t3 h6 h7=>by
    refine Classical.byContradiction fun Bi=> ?_
    rw[hH t3 d (.inl Bi),(NI t3 h6).1] at h7;rcases h7 with h7 | ⟨v,hv⟩
    ·cases h7
    ·exact(NI t3 h6).2 v hv
   exact(this t' h1 h4).trans (this t'' h2 h5).symm
  ·rw[hH t' d (.inr QG)] at h4;rw[hH t'' d (.inr QG)] at h5;exact h.Xx t' t'' d h1 h2 h3 h4 h5
 ·by_cases QG:d=c
  ·subst QG;have:=(hx t ht).1;rw[hHt] at this;cases this
  ·obtain⟨w,h1,h2⟩:=h.free d hd fun t' FI=>⟨by rw[<-hH t' d (.inr QG)];exact(hx t' FI).1,(hx t' FI).2⟩
   exact⟨w,(BN _ _ Y).trans h1,h2⟩
theorem LK.decide {l:List (Nat×Int)} (ht:t < T) (hl:∀a v,(a,v)∈l->a < n\/∃c,c < n/\a=8+c/\(H t c).isSome=true/\∃w,v=2*w/\0<=w/\w<=N) (ha:l.Pairwise Xg) (Ie:∀c,c < n->(H t c).isSome=true->∃v,(8+c,v)∈l):
  LK T n sm N (Cv H t GP) (Cv Z95 t (Z95 t++l)):=by
 have La:∀c,c < n->∀v,(8+c,v)∈l->(H t c).isSome=true:=fun c hc v hv=>by
  rcases hl _ v hv with h1 | ⟨c',h1,h2,h3,_⟩
  ·omega
  ·obtain rfl:c'=c:=Y
   exact h3
 have RT:∀c,c < n->(H t c).isSome=true->∀u,(8+c,u)∉Z95 t:=fun c hc hs u=>by
  obtain⟨v,hv⟩:=Qbh.1 hs;exact(h.DK t c v ht hc hv).2.2 u
 have Ct:∀t' c,c < n->((Cv H t GP t' c).isSome=true\/∃v,(8+c,v)∈Cv Z95 t (Z95 t++l) t')->((H t' c).isSome=true\/∃v,(8+c,v)∈Z95 t'):=fun t' c hc hx=>by
  by_cases he:t'=t
  ·subst he;rw[BU,BU] at hx;rcases hx with hx | ⟨v,hv⟩
   ·cases hx
   ·rcases Nm.1 hv with hv | hv
    ·exact .inr ⟨v,hv⟩
    ·exact .inl (La c hc v hv)
  ·rw[Ds _ _ he,Ds _ _ he] at hx;exact hx
 refine⟨fun t' c v FI hc hv=> ?_,fun t' a v FI hv=> ?_,fun t' FI=> ?_,fun t' t'' c h1 h2 h3 h4 h5=>h.Xx t' t'' c h1 h2 h3 (Ct t' c h3 h4) (Ct t'' c h3 h5),fun c hc hx=>h.free c hc fun t' FI=> ?_⟩
 ·by_cases he:t'=t
  ·subst he;rw[BU] at hv;cases hv
  ·rw[Ds _ _ he] at hv;rw[Ds _ _ he];exact h.DK t' c v FI hc hv
 ·by_cases he:t'=t
  ·subst he;rw[BU] at hv;rcases Nm.1 hv with hv | hv
   ·exact h.todo t' a v FI hv
   ·rcases hl a v hv with h1 | ⟨c,h1,h2,h3,h4⟩
    ·exact .inl h1
    ·obtain⟨v',Wy⟩:=Qbh.1 h3;obtain⟨h5,⟨w,h6,h7,h8⟩,_⟩:=h.DK t' c v' FI h1 Wy;exact .inr ⟨c,h1,h2,h4,w,Y,h7,h8⟩
  ·rw[Ds _ _ he] at hv;exact h.todo t' a v FI hv
 ·by_cases he:t'=t
  ·subst he;rw[BU,Qdh];refine⟨h.nd t' FI,ha,fun p hp q hq h8 he=> ?_⟩;obtain⟨a,v⟩:=p;obtain⟨b,w⟩:=q;rcases h.todo t' a v FI hp with h1 | ⟨c,h1,h2,_⟩
   ·have:8<=a:=h8;omega
   ·have e:b=8+c:=by have:a=b:=he;omega
    exact RT c h1 (La c h1 w (by rw[<-e];exact hq)) v (by rw[<-h2];exact hp)
  ·rw[Ds _ _ he];exact h.nd t' FI
 ·by_cases he:t'=t
  ·subst he;have:=hx t' FI;rw[BU,BU] at this;refine⟨?_,fun v hv=>this.2 v (D _ hv)⟩;cases hH:H t' c with
   | none=>rfl
   | some v=>obtain⟨u,hu⟩:=Ie c hc (by rw[hH];rfl);exact UV (GT _ hu) (this.2 u)
  ·have:=hx t' FI;rw[Ds _ _ he,Ds _ _ he] at this;exact this
end
structure AT where
 lt:LT
 sw:List (Nat×Int)
 st:Int
 out:List Int
structure AM where
 sm:Nat->Int
 th:Nat->AT
variable {A A':AM}
def vw (sw:List (Nat×Int)) (v:Int) (a:Nat):Int:=sw.foldl (fun v p=>if p.1=a then p.2 else v) v
def Ek.Aay:Ek->Bool
 | .JL .. =>true
 | .DL .. =>true
 | _=>false
def vE (sm:Nat->Int) (sw:List (Nat×Int)):Ek->Int
 | .ld _ a=>vw sw (sm a) a
 | .JL _ a b _=>if sm a=b then 1 else 0
 | .DL _ a _=>sm a
 | _=>0
def mE (sm:Nat->Int):Ek->Nat->Int
 | .JL _ a b c=>if sm a=b then C5 sm a c else sm
 | .DL _ a k=>C5 sm a (sm a+k)
 | _=>sm
def tE (sm:Nat->Int) (s:AT) (e:Ek):AT where
 lt:=Qn e (vE sm s.sw e) s.lt
 sw:=match e with | .st a u=>s.sw++[(a,u)] | _=>s.sw
 st:=match e with | .stop t=>t | _=>s.st
 out:=match e with | .out u=>s.out++[u] | _=>s.out
inductive AS (X:Nat->Cx) (A:AM) (t:Nat):Bool->AM->Prop
 | Cy {a:Nat} {u:Int} {r:List (Nat×Int)} (h:(A.th t).sw=(a,u)::r):AS X A t true ⟨C5 A.sm a u,Cv A.th t {A.th t with sw:=r}⟩
 | Od {lt':LT} (h0:(A.th t).st=0) (h:r9 (X t).Ac (X t).Ab (A.th t).lt=some lt'):AS X A t false ⟨A.sm,Cv A.th t {A.th t with lt:=lt'}⟩
 | ev {i:GI} {e:Ek} (h0:(A.th t).st=0) (hc:(X t).Ab[(A.th t).lt.pc]?=some i) (hx:XF (X t).Ac i (A.th t).lt.x=none) (he:evk i (A.th t).lt.x=some e) (hd:e.Aay=true->(A.th t).sw=[]):AS X A t false ⟨mE A.sm e,Cv A.th t (tE A.sm (A.th t) e)⟩
def Tu (x:Cx) (M:Nat) (lt:LT) (g:Gt):Prop:=∃j lt',Gh x.Ac x.Ab j lt lt'/\Sw x g lt'/\j+KB x g<=M
inductive Us (x:Cx) (n:Nat) (A:AM) (g:Gt) (t:Nat):Bool->AM->Gt->Prop
 | Cy {a:Nat} {u:Int} {r:List (Nat×Int)} (h:(A.th t).sw=(a,u)::r):Us x n A g t true ⟨C5 A.sm a u,Cv A.th t {A.th t with sw:=r}⟩ g
 | Od {lt':LT} (hm:∀m,Tu x m (A.th t).lt g->∃m',m=m'+1/\Tu x m' lt' g):Us x n A g t false ⟨A.sm,Cv A.th t {A.th t with lt:=lt'}⟩ g
 | stop {s:Int} (he:UL g=some (.stop s)) (h0:(A.th t).st=0):Us x n A g t false ⟨A.sm,Cv A.th t (tE A.sm (A.th t) (.stop s))⟩ g
 | ev {e:Ek} {bad:Bool} {g':Gt} (he:UL g=some e) (h0:(A.th t).st=0) (hs:∀s,e≠ .stop s) (hd:e.Aay=true->(A.th t).sw=[]) (hn:Nx n g (vE A.sm (A.th t).sw e) bad g') {j:Nat} {lt':LT} (hr:Gh x.Ac x.Ab j (tE A.sm (A.th t) e).lt lt') (ha:Sw x g' lt') (hp:if bad then j+KB x g'<=EH g.q0+40 else j+1+KB x g'<=KB x g):Us x n A g t false ⟨mE A.sm e,Cv A.th t (tE A.sm (A.th t) e)⟩ g'
def AaS (A:AM) (t:Nat) (g:Gt):Prop:=∀e,UL g=some e->(∀s,e≠ .stop s)->(∃c lv,g.ph= .JE c lv)\/(0<=vE A.sm (A.th t).sw e/\vE A.sm (A.th t).sw e < 3000000000000000000)
structure ZQ (x:Cx) (M:Nat) (g:Gt):Prop where
 q0:EH g.q0<=M+27
 go:(∀c,g.ph≠ .ba c)->KB x g<=M
theorem ko (x:Cx) (q:KS):EH q<=KB x (EV q)+27/\(EV q).q0=q:=by
 have:=V2 q;unfold EV;split
 ·exact⟨by show EH q<=EH q - 27+27;omega,rfl⟩
 ·refine⟨?_,rfl⟩;show EH q<=EH q - KZ q.s+27;have:KZ q.s<=27:=by cases q.s <;>simp[KZ]
  omega
theorem Ls.q0 (h:Ls g i g'):g'.q0=g.q0\/∃q',g'=EV q':=by
 cases h with
 | te _=>exact .inl rfl
 | out q' _ _=>exact .inr ⟨q',rfl⟩
theorem Mq.q0 (h:Mq n g c g'):g'.q0=g.q0\/∃q',g'=EV q':=by
 cases h with
 | fr _ _ _ _ _=>exact .inl rfl
 | stop g' _ k=>exact k.q0
theorem Tw.q0 (h:Tw n g c g'):g'.q0=g.q0\/∃q',g'=EV q':=by
 cases h with
 | pu _ _ _ _ _=>exact .inl rfl
 | stop g' _ k=>exact k.q0
theorem Lt.q0 (h:Lt n g c g'):g'.q0=g.q0\/∃q',g'=EV q':=by
 cases h with
 | lo _ _ _ _ _=>exact .inl rfl
 | stop g' _ k=>exact k.q0
theorem Mp.q0 (h:Mp n g c g'):g'.q0=g.q0:=by cases h <;>rfl
theorem GB.q0 (h:GB n g c g'):g'.q0=g.q0:=by cases h <;>rfl
theorem jK.q0 (h:jK n b g g'):g'.q0=g.q0\/∃q',g'=EV q':=by
 cases h with
 | EF _ _ _=>exact .inl rfl
 | get _ _ _=>exact .inl rfl
 | UA q' g' _ _ _ h=>exact .inl h.q0
 | GD q' g' _ _ _ h=>exact h.q0
theorem Nx.q0 (h:Nx n g v bad g'):g'.q0=g.q0\/∃q',g'=EV q':=by
 cases h with
 | out _ q' _=>exact .inr ⟨q',rfl⟩
 | Pm _ _ g' r=>exact r.q0
 | JF _ _=>exact .inl rfl
 | Zl _ _ g' r=>exact .inl r.q0
 | JE _=>exact .inl rfl
 | JS _ _ _ g' r=>exact r.q0
 | Zk _ _ g' r=>exact .inl r.q0
 | SS _ _=>exact .inl rfl
 | nZ _ _ g' r=>exact .inl r.q0
 | QY _ _ g' r=>exact .inl r.q0
 | nY _ _ g' r=>exact .inl r.q0
 | xa _ g' r=>exact r.q0
 | lo _ _ g' r=>exact r.q0
 | lob _ _ g' r=>exact .inl r.q0
 | pu _ g' r=>exact r.q0
 | fr _ g' r=>exact r.q0
 | te _ g' r=>exact r.q0
 | ba _ g' r=>exact .inl r.q0
theorem mP (h:GB n g c g') (M:Nat) (hq:EH g.q0<=M+27):(∀c,g'.ph≠ .ba c)->KB x g'<=M:=by
 intro hb;cases h with
 | ba c' _ _ _ _=>exact UV rfl (hb c')
 | Pm _=>show EH g.q0 - 27<=M;omega
theorem Nx.Gg (h:Nx n g v bad g') (hb:bad=true\/∃c,g.ph= .ba c):∃c,GB n g c g':=by
 cases h with
 | Zl _ _ g' r=>exact⟨_,r⟩
 | Zk _ _ g' r=>exact⟨_,r⟩
 | nZ _ _ g' r=>exact⟨_,r⟩
 | nY _ _ g' r=>exact⟨_,r⟩
 | lob _ _ g' r=>exact⟨_,r⟩
 | ba _ g' r=>exact⟨_,r⟩
 | out h _ _=>simp[h] at hb
 | Pm h _ _ _=>simp[h] at hb
 | JF h _=>simp[h] at hb
 | JE h=>simp[h] at hb
 | JS h _ _ _ _=>simp[h] at hb
 | SS h _=>simp[h] at hb
 | QY h _ _ _=>simp[h] at hb
 | xa h _ _=>simp[h] at hb
 | lo h _ _ _=>simp[h] at hb
 | pu h _ _=>simp[h] at hb
 | fr h _ _=>simp[h] at hb
 | te h _ _=>simp[h] at hb
theorem Abm (h:Nx n g v bad g') {M j:Nat} (hp:ZQ x M g) (hj:if bad then j+KB x g'<=EH g.q0+40 else j+1+KB x g'<=KB x g):ZQ x M g':=by
 have iT:(∀c,g'.ph≠ .ba c)->KB x g'<=M:=by
  by_cases hb:bad=true\/∃c,g.ph= .ba c
  ·obtain⟨c,r⟩:=h.Gg hb;exact mP r M hp.q0
  ·intro _;have hf:bad=false:=by cases bad <;>simp_all
   subst hf;have uR:j+1+KB x g'<=KB x g:=hj;have:=hp.go fun c hc=>hb (.inr ⟨c,hc⟩)
   omega
 refine⟨?_,iT⟩;rcases h.q0 with e | ⟨q',rfl⟩
 ·rw[e];exact hp.q0
 ·have h1:=ko x q';rw[h1.2];have:=iT (by unfold EV;split <;>simp);omega
theorem Gh.det {s t u:LT} (h:Gh Ac Ab n s t) (h1:r9 Ac Ab s=some u) (h2:r9 Ac Ab t=none):∃m,n=m+1/\Gh Ac Ab m u t:=by
 cases h with
 | nil=>rw[h1] at h2;cases h2
 | cons h k=>rw[h1] at h;cases h;exact⟨_,rfl,k⟩
theorem Gh.stuck {s t:LT} (h:Gh Ac Ab n s t) (h1:r9 Ac Ab s=none):n=0/\t=s:=by
 cases h with
 | nil=>exact⟨rfl,rfl⟩
 | cons h k=>rw[h1] at h;cases h
theorem V1 {s:LT} {i:GI} (h:Ab[s.pc]?=some i) (he:XF Ac i s.x=none):r9 Ac Ab s=none:=by unfold r9;rw[h];simp only[he];rfl
theorem tG {t:Int} (h:Eo q=some t):t=1\/t=2:=by
 unfold Eo at h;split at h
 ·split at h
  ·cases h;exact .inl rfl
  ·cases h
 ·split at h
  ·cases h;exact .inr rfl
  ·cases h
 ·split at h
  ·cases h;exact .inr rfl
  ·cases h
 ·cases h
theorem Z6 {s:Int} (h:UL g=some (.stop s)):g.ph= .node/\s≠0/\((s=10/\g.q.s= .nil)\/Eo g.q=some s):=by
 unfold UL at h;cases DO:g.ph with
 | node=>
  rw[DO] at h;replace h:(match g.q.s with | .nil=>some (.stop 10) | .out a _=>if g.q.k.IS then none else some (.out (FZ g.q.L a)) | _=>(Eo g.q).map .stop)=some (Ek.stop s):=h;have key:(Eo g.q).map Ek.stop=some (.stop s)->g.ph= .node/\s≠0/\((s=10/\g.q.s= .nil)\/Eo g.q=some s):=fun h=>by
   cases hk:Eo g.q with
   | none=>rw[hk] at h;cases h
   | some u=>
    rw[hk] at h;cases h;exact⟨DO,by have:=tG hk;omega,.inr rfl⟩
  rw[<-DO];cases UC:g.q.s with
  | nil=>rw[UC] at h;cases h;exact⟨rfl,AC,.inl ⟨rfl,rfl⟩⟩
  | out a r=>
   rw[UC] at h;replace h:(if g.q.k.IS then none else some (.out (FZ g.q.L a)))=some (Ek.stop s):=h;split at h <;>cases h
  | _=>rw[UC] at h;have:=key h;rw[UC] at this;exact⟨rfl,this.2⟩
 | pu c=>rw[DO] at h;replace h:(g.q.BW c).map (Ek.st c ·)=some (.stop s):=h;cases hm:g.q.BW c with | none=>rw[hm] at h;cases h | some u=>rw[hm] at h;cases h
 | te i=>rw[DO] at h;replace h:(g.q.o[i]?).map Ek.out=some (.stop s):=h;cases hm:g.q.o[i]? with | none=>rw[hm] at h;cases h | some u=>rw[hm] at h;cases h
 | ba c=>rw[DO] at h;replace h:(g.Bp c).map (Ek.st (8+c) ·)=some (.stop s):=h;cases hm:g.Bp c with | none=>rw[hm] at h;cases h | some u=>rw[hm] at h;cases h
 | _=>rw[DO] at h;cases h
theorem xM (hx:Ny (X t)) (hn:(X t).n=n) (ht:(A.th t).st=0->Tu (X t) (M+67) (A.th t).lt g) (hp:ZQ (X t) M g) (Afc:(A.th t).st=0->AaS A t g) {fl:Bool} (h:AS X A t fl A'):
  ∃g',Us (X t) n A g t fl A' g'/\ZQ (X t) M g'/\((A'.th t).st=0->Tu (X t) (M+67) (A'.th t).lt g'):=by
 cases h with
 | Cy h=>exact⟨g,.Cy h,hp,fun h0=>by simp only[BU] at h0⊢;exact ht h0⟩
 | Od h0 h=>
  obtain⟨j,lt',hr,ha,hle⟩:=ht h0;obtain⟨i,e,hi,GG,_⟩:=bV hx ha;obtain⟨m,rfl,KX⟩:=hr.det h (V1 hi GG);refine⟨g,.Od fun m hm=> ?_,hp,fun _=>by simp only[BU];exact⟨m,lt',KX,ha,Y⟩⟩;obtain⟨j2,lt2,IK,zw,Ab3⟩:=hm;obtain⟨i2,e2,hi2,IG,_⟩:=bV hx zw;obtain⟨m2,rfl,Afe⟩:=IK.det h (V1 hi2 IG);exact⟨m - 1,Y,m2,lt2,Afe,zw,Y⟩
 | ev h0 hc GG he hd=>
  rename_i i e;obtain⟨j,lt',hr,ha,hle⟩:=ht h0;obtain⟨rfl,rfl⟩:=hr.stuck (V1 hc GG);obtain⟨i',e',XZ,_,Ca,hg⟩:=bV hx ha;rw[hc] at XZ;cases XZ;rw[he] at Ca;cases Ca;by_cases hs:∃s,e= .stop s
  ·obtain⟨s,rfl⟩:=hs;refine⟨g,.stop hg h0,hp,fun h1=> ?_⟩;simp only[BU] at h1;exact UV h1 (Z6 hg).2.1
  ·have RO:∀s,e≠ .stop s:=fun s h=>hs ⟨s,h⟩
   obtain⟨j,lt2,IK,g',zw,bad,p8,fO⟩:=wh hx ha hg RO (Afc h0 e hg RO);rw[hn] at p8;rw[Qaw] at fO;refine⟨g',.ev hg h0 RO hd p8 IK zw fO,Abm p8 hp fO,fun _=> ?_⟩;simp only[BU];refine⟨j,lt2,IK,zw,?_⟩;have h1:=hp.q0;have h2:=hp.go;cases bad with
   | true=>have:j+KB (X t) g'<=EH g.q0+40:=fO;omega
   | false=>have:j+1+KB (X t) g'<=KB (X t) g:=fO;omega
section
def Eh (g:Gt):Bool:=match g.ph with
 | .SS _=>true
 | .QY .. =>true
 | .xa=>true
 | .lo _=>true
 | _=>false
def DK (g:Gt):Nat->Option Int:=if Eh g then g.Bp else GP
def IY (g:Gt) (d:Nat):Option (Nat×Int):=(g.q.BW d).map fun v=>(d,v)
def GA (g:Gt) (d:Nat):Option (Nat×Int):=if (g.q.BW d).isSome then some (8+d,2*g.wv) else none
def Lr (g:Gt) (d:Nat):Option (Nat×Int):=(g.Bp d).map fun v=>(8+d,v)
def Ba (n:Nat) (g:Gt):List (Nat×Int):=match g.ph with
 | .pu c=>O8 (IY g) n c++O8 (GA g) n 0
 | .fr c=>O8 (GA g) n c
 | .ba c=>O8 (Lr g) n c
 | _=>[]
theorem Xa (h:(g.q.BW d).isSome=false):IY g d=none:=by unfold IY;cases hm:g.q.BW d with | none=>rfl | some v=>rw[hm] at h;cases h
theorem Wl (h:(g.q.BW d).isSome=false):GA g d=none:=by unfold GA;rw[h];rfl
theorem QN (h:(g.Bp d).isSome=false):Lr g d=none:=by unfold Lr;cases hm:g.Bp d with | none=>rfl | some v=>rw[hm] at h;cases h
theorem Fw (n:Nat) (q:KS):DK (EV q)=GP/\Ba n (EV q)=[]/\(EV q).rv=0/\(EV q).wv=0:=by
 have:EV q=⟨.Pm,q,q,GP,GP,0,0⟩\/EV q=⟨.node,q,q,GP,GP,0,0⟩:=by
  unfold EV;split
  ·exact .inl rfl
  ·exact .inr rfl
 rcases this with e | e <;>rw[e] <;>exact⟨rfl,rfl,rfl,rfl⟩
variable {n:Nat} {g g':Gt}
def Za (g g':Gt):Prop:=(g'.rv=g.rv\/g'.rv=0)/\(g'.wv=g.wv\/g'.wv=0)
theorem Za.refl:Za g g:=⟨.inl rfl,.inl rfl⟩
theorem Ls.Xz (h:Ls g i g'):DK g'=GP/\Ba n g'=[]/\Za g g':=by
 cases h with
 | te _=>exact⟨rfl,rfl,Za.refl⟩
 | out q' _ _=>have:=Fw n q';exact⟨this.1,this.2.1,.inr this.2.2.1,.inr this.2.2.2⟩
theorem Mq.Xz (h:Mq n g c g'):DK g'=GP/\Ba n g'=O8 (GA g) n c/\Za g g':=by
 cases h with
 | fr c' h1 h2 h3 h4=>exact⟨rfl,(RD _ _ h1 fun d X0 iY _=>Wl (h4 d X0 iY)).symm,Za.refl⟩
 | stop g' h k=>rw[U8 _ _ fun d h1 h2=>Wl (h d h1 h2)];exact k.Xz
theorem Tw.Xz (h:Tw n g c g'):DK g'=GP/\Ba n g'=O8 (IY g) n c++O8 (GA g) n 0/\Za g g':=by
 cases h with
 | pu c' h1 h2 h3 h4=>exact⟨rfl,by rw[RD (IY g) n h1 fun d X0 iY _=>Xa (h4 d X0 iY)];rfl,Za.refl⟩
 | stop g' h k=>rw[U8 (IY g) _ fun d h1 h2=>Xa (h d h1 h2)];exact k.Xz
theorem Lt.Xz (h:Lt n g c g'):(DK g'=g.Bp/\Ba n g'=[]/\Za g g')\/(DK g'=GP/\Ba n g'=O8 (IY g) n 0++O8 (GA g) n 0/\Za g g'):=by
 cases h with
 | lo c' _ _ _ _=>exact .inl ⟨rfl,rfl,Za.refl⟩
 | stop g' _ k=>exact .inr k.Xz
theorem Mp.Xz (h:Mp n g c g'):DK g'=g.Bp/\Ba n g'=[]/\Za g g':=by
 cases h <;>exact⟨rfl,rfl,Za.refl⟩
theorem GB.Xz (h:GB n g c g'):DK g'=GP/\Ba n g'=O8 (Lr g) n c/\Za g g':=by
 cases h with
 | ba c' h1 h2 h3 h4=>exact⟨rfl,(RD _ _ h1 fun d X0 iY _=>QN (h4 d X0 iY)).symm,Za.refl⟩
 | Pm h=>rw[U8 _ _ fun d h1 h2=>QN (h d h1 h2)];exact⟨rfl,rfl,.inr rfl,.inr rfl⟩
theorem jK.Xz (h:jK n b g g') (hl:g.Bp=GP):DK g'=GP/\Ba n g'=[]/\Za g g':=by
 cases h with
 | EF _ _ _=>exact⟨rfl,rfl,Za.refl⟩
 | get _ _ _=>exact⟨rfl,rfl,Za.refl⟩
 | UA q' g' _ _ _ h=>
  have:=h.Xz;exact⟨this.1.trans hl,this.2.1,this.2.2⟩
 | GD q' g' _ _ _ h=>exact h.Xz
structure L1 (X:Nat->Cx) (T n M:Nat) (K:Int) (A:AM) (G:Nat->Gt):Prop where
 th:∀t,t < T->(A.th t).st=0->Tu (X t) (M+67) (A.th t).lt (G t)
 pt:∀t,t < T->ZQ (X t) M (G t)
 c0:0<=A.sm 16/\A.sm 16<=K
 rv:∀t,t < T->(0<=(G t).rv/\(G t).rv<=A.sm 16)/\0<=(G t).wv/\(G t).wv<=A.sm 16
 lk:LK T n A.sm (A.sm 16) (fun t=>DK (G t)) fun t=>(A.th t).sw++Ba n (G t)
 FB:∀t,t < T->(A.th t).st≠0->(G t).ph= .node
theorem jC (h:Sw x g lt):((g.ph= .xa\/∃c,g.ph= .lo c)->SR g x.n x.n)/\(∀c lv,g.ph= .QY c lv->c < x.n/\YQ g lv)/\(Eh g=false->(∃c,g.ph= .pu c\/g.ph= .fr c\/g.ph= .ba c)\/(∃i,g.ph= .te i)\/g.Bp=GP)/\
  (∀c,g.ph= .pu c->c < x.n/\(g.q.BW c).isSome=true)/\(∀c,g.ph= .fr c->c < x.n/\(g.q.BW c).isSome=true)/\(∀c,g.ph= .ba c->c < x.n/\(g.Bp c).isSome=true):=by
 unfold Sw at h;unfold Eh;cases DO:g.ph with
 | node=>rw[DO] at h;simp[h.2.2.2]
 | Pm=>rw[DO] at h;obtain⟨b,s,ab,h⟩:=h;simp[h.2.2.2.2.2.2.1]
 | JF c=>rw[DO] at h;obtain⟨b,s,ab,p0,v,r,h,_⟩:=h;simp[h.Bp]
 | JE c lv=>rw[DO] at h;obtain⟨⟨b,s,ab,p0,v,r,h,_⟩,_⟩:=h;simp[h.Bp]
 | JS c lv y=>rw[DO] at h;obtain⟨⟨b,s,ab,p0,v,r,h,_⟩,_⟩:=h;simp[h.Bp]
 | SS c=>simp
 | QY c lv=>rw[DO] at h;simp;exact⟨h.1,h.2.2.2.1⟩
 | xa=>rw[DO] at h;simp;exact h.1
 | lo c=>rw[DO] at h;simp;exact h.2.2.2.1
 | pu c=>rw[DO] at h;simp;exact⟨h.1,h.2.1⟩
 | fr c=>rw[DO] at h;simp;exact⟨h.1,h.2.1⟩
 | te i=>simp
 | ba c=>rw[DO] at h;simp;exact⟨h.1,by rw[h.2.1];rfl⟩
theorem uV (G:Nat->Gt) (t:Nat) (g':Gt):(fun u=>DK (Cv G t g' u))=Cv (fun u=>DK (G u)) t (DK g'):=by
 funext u;unfold Cv;split <;>rfl
theorem Q7 (A:AM) (G:Nat->Gt) (t:Nat) (a:AT) (g':Gt):(fun u=>(Cv A.th t a u).sw++Ba n (Cv G t g' u))=Cv (fun u=>(A.th u).sw++Ba n (G u)) t (a.sw++Ba n g'):=by
 funext u;unfold Cv;split <;>rfl
theorem xD (P:Int->Prop) (hv:P v) (h:∀u,(a,u)∈sw->P u):P (vw sw v a):=by
 induction sw generalizing v with
 | nil=>exact hv
 | cons p r ih=>
  refine ih ?_ fun u hu=>h u (U _ hu)
  show P (if p.1=a then p.2 else v);split
  ·rename_i he;exact h p.2 (by rw[<-he];exact J ..)
  ·exact hv
theorem j8 (h:∀u,(a,u)∉sw):vw sw v a=v:=by
 induction sw generalizing v with
 | nil=>rfl
 | cons p r ih=>
  have:¬p.1=a:=fun he=>h p.2 (by rw[<-he];exact J ..)
  show vw r (if p.1=a then p.2 else v) a=v;rw[I this];exact ih fun u hu=>h u (U _ hu)
theorem L1.see (h:L1 X T n M K A G) (h6:n<=6) (hX:∀t,t < T->Ny (X t)/\(X t).n=n) (hK:K < 1000000000000000000) {t:Nat} (ht:t < T) (h0:(A.th t).st=0):AaS A t (G t):=by
 obtain⟨j,lt',_,ha,_⟩:=h.th t ht h0;have Ui:=h.c0;have WJ:∀c,c < n->0<=vw (A.th t).sw (A.sm (8+c)) (8+c)/\vw (A.th t).sw (A.sm (8+c)) (8+c) < 3000000000000000000:=fun c hc=>by
  refine xD (fun v=>0<=v/\v < 3000000000000000000) ?_ fun u hu=> ?_
  ·obtain⟨w,h1,h2,h3⟩:=h.lk.val h6 hc;omega
  ·rcases h.lk.todo t _ u ht (D _ hu) with h1 | ⟨c',h1,h2,⟨w,h3,h4,h5⟩,_⟩
   ·omega
   ·omega
 have AfH:0<=vw (A.th t).sw (A.sm 16) 16/\vw (A.th t).sw (A.sm 16) 16 < 3000000000000000000:=by
  rw[j8]
  ·omega
  ·intro u hu;rcases h.lk.todo t _ u ht (D _ hu) with h1 | ⟨c',h1,h2,_⟩ <;>omega
 have hn:=(hX t ht).2;intro e he hs;unfold Sw at ha;unfold UL at he;cases DO:(G t).ph with
 | node=>
  right;have key:(vE A.sm (A.th t).sw e=0):=by
   rw[DO] at he;replace he:(match (G t).q.s with | .nil=>some (.stop 10) | .out a _=>if (G t).q.k.IS then none else some (.out (FZ (G t).q.L a)) | _=>(Eo (G t).q).map .stop)=some e:=he;have hm:(Eo (G t).q).map Ek.stop=some e->vE A.sm (A.th t).sw e=0:=fun h=>by
    cases hk:Eo (G t).q with
    | none=>rw[hk] at h;cases h
    | some u=>rw[hk] at h;cases h;rfl
   cases UC:(G t).q.s with
   | nil=>rw[UC] at he;cases he;rfl
   | out a r=>rw[UC] at he;replace he:(if (G t).q.k.IS then none else some (.out (FZ (G t).q.L a)))=some e:=he;split at he <;>cases he;rfl
   | _=>rw[UC] at he;exact hm he
  rw[key];decide
 | Pm=>rw[DO] at he;cases he;exact .inr AfH
 | JF c=>rw[DO] at he ha;cases he;obtain⟨b,s,ab,p0,v,r,hg,_⟩:=ha;exact .inr (WJ c (by rw[<-hn];exact hg.NX.lt))
 | JE c lv=>exact .inl ⟨c,lv,rfl⟩
 | JS c lv y=>rw[DO] at he ha;cases he;obtain⟨⟨b,s,ab,p0,v,r,hg,_⟩,_⟩:=ha;exact .inr (WJ c (by rw[<-hn];exact hg.NX.lt))
 | SS c=>rw[DO] at he ha;cases he;exact .inr (WJ c (by rw[<-hn];exact ha.1))
 | QY c lv=>rw[DO] at he;cases he;right;show 0<=(if _ then (1:Int) else 0)/\(if _ then (1:Int) else 0) < _;split <;>decide
 | xa=>rw[DO] at he;cases he;right;show 0<=A.sm 16/\A.sm 16 < _;omega
 | lo c=>rw[DO] at he ha;cases he;exact .inr (WJ c (by rw[<-hn];exact ha.1))
 | pu c=>rw[DO] at he;replace he:((G t).q.BW c).map (Ek.st c ·)=some e:=he;right;cases hm:(G t).q.BW c with | none=>rw[hm] at he;cases he | some u=>rw[hm] at he;cases he;exact⟨Qbn _,by show(0:Int) < _;decide⟩
 | fr c=>rw[DO] at he;cases he;right;exact⟨Qbn _,by show(0:Int) < _;decide⟩
 | te i=>rw[DO] at he;replace he:((G t).q.o[i]?).map Ek.out=some e:=he;right;cases hm:(G t).q.o[i]? with | none=>rw[hm] at he;cases he | some u=>rw[hm] at he;cases he;exact⟨Qbn _,by show(0:Int) < _;decide⟩
 | ba c=>rw[DO] at he;replace he:((G t).Bp c).map (Ek.st (8+c) ·)=some e:=he;right;cases hm:(G t).Bp c with | none=>rw[hm] at he;cases he | some u=>rw[hm] at he;cases he;exact⟨Qbn _,by show(0:Int) < _;decide⟩
theorem Za.ok {N:Int} (h:Za g g') (hN:N<=N') (hr:(0<=g.rv/\g.rv<=N)/\0<=g.wv/\g.wv<=N):(0<=g'.rv/\g'.rv<=N')/\0<=g'.wv/\g'.wv<=N':=by
 obtain⟨h1,h2⟩:=h;rcases h1 with h1 | h1 <;>rcases h2 with h2 | h2 <;>rw[h1,h2] <;>omega
section
variable {T:Nat} {sm:Nat->Int} {N:Int} {H:Nat->Nat->Option Int} {Z95:Nat->List (Nat×Int)} (h6:n<=6) {t:Nat} (ht:t < T)
include h6 ht
theorem yH (h:LK T n sm N H Z95) {c:Nat} (hH:H t=g.Bp) (hr:GB n g 0 g'):LK T n sm N (Cv H t (DK g')) (Cv Z95 t (Z95 t++Ba n g')):=by
 obtain⟨e1,e2,_⟩:=hr.Xz;have _:=c;rw[e1,e2];refine h.decide h6 ht (fun a v hv=> ?_) (Y3 (fun d p hp=> ?_) n 0) fun c hc hs=> ?_
 ·obtain⟨d,_,hd,hf⟩:=IE.1 hv;unfold Lr at hf;cases hl:g.Bp d with
  | none=>rw[hl] at hf;cases hf
  | some w=>
   rw[hl] at hf;cases hf;have fV:H t d=some v:=by rw[hH];exact hl
   exact .inr ⟨d,hd,rfl,by rw[fV];rfl,(h.DK t d v ht hd fV).2.1⟩
 ·unfold Lr at hp;cases hl:g.Bp d with
  | none=>rw[hl] at hp;cases hp
  | some w=>rw[hl] at hp;cases hp;rfl
 ·rw[hH] at hs;obtain⟨v,hv⟩:=Qbh.1 hs;exact⟨v,IE.2 ⟨c,d6 _,hc,by unfold Lr;rw[hv];rfl⟩⟩
theorem AbA (h:LK T n sm N H Z95) (hH:H t=g.Bp) (hl:SR g n n) (hw:0<=g.wv/\g.wv<=N):LK T n sm N (Cv H t GP) (Cv Z95 t (Z95 t++(O8 (IY g) n 0++O8 (GA g) n 0))):=by
 have AaM:∀d,d < n->(g.Bp d).isSome=(g.q.BW d).isSome:=fun d hd=>by rw[hl d hd,Qa0 hd];rfl
 refine h.decide h6 ht (fun a v hv=> ?_) ?_ fun c hc hs=> ?_
 ·rcases Nm.1 hv with hv | hv
  ·obtain⟨d,_,hd,hf⟩:=IE.1 hv;unfold IY at hf;cases hm:g.q.BW d with
   | none=>rw[hm] at hf;cases hf
   | some w=>rw[hm] at hf;cases hf;exact .inl hd
  ·obtain⟨d,_,hd,hf⟩:=IE.1 hv;unfold GA at hf;split at hf
   ·rename_i hs;cases hf;exact .inr ⟨d,hd,rfl,by rw[hH,AaM d hd];exact hs,g.wv,rfl,hw⟩
   ·cases hf
 ·rw[Qdh];refine⟨?_,Y3 (fun d p hp=>by unfold GA at hp;split at hp <;>cases hp;rfl) n 0,fun p hp q _ h8 _=> ?_⟩
  ·refine List.Pairwise.imp_of_mem (fun {p q} hp _ _ h8=> ?_) (List.pairwise_of_forall (R:=fun _ _=>True) fun _ _=>trivial);exact nao
  ·exact nao
 ·rw[hH,AaM c hc] at hs;exact⟨2*g.wv,GT _ (IE.2 ⟨c,d6 _,hc,by unfold GA;rw[In hs]⟩)⟩
end
theorem AcU {sm:Nat->Int} {s:AT}:(tE sm s e).sw=match e with | .st a u=>s.sw++[(a,u)] | _=>s.sw:=rfl
theorem bL (h:g.ph= .node) (he:UL g=some e):(∃u,e= .out u)\/∃s,e= .stop s:=by
 unfold UL at he;rw[h] at he;replace he:(match g.q.s with | .nil=>some (.stop 10) | .out a _=>if g.q.k.IS then none else some (.out (FZ g.q.L a)) | _=>(Eo g.q).map .stop)=some e:=he;have hm:(Eo g.q).map Ek.stop=some e->(∃u,e= .out u)\/∃s,e= .stop s:=fun h=>by
  cases hk:Eo g.q with
  | none=>rw[hk] at h;cases h
  | some u=>rw[hk] at h;cases h;exact .inr ⟨_,rfl⟩
 cases UC:g.q.s with
 | nil=>rw[UC] at he;cases he;exact .inr ⟨_,rfl⟩
 | out a r=>rw[UC] at he;replace he:(if g.q.k.IS then none else some (.out (FZ g.q.L a)))=some e:=he;split at he <;>cases he;exact .inl ⟨_,rfl⟩
 | _=>rw[UC] at he;exact hm he
theorem Hh (h:Eh g=false):DK g=GP:=by unfold DK;rw[h];rfl
theorem Vh (h:Eh g=true):DK g=g.Bp:=by unfold DK;rw[h];rfl
structure UT (n T:Nat) (A:AM) (G:Nat->Gt) (t:Nat) (e:Ek) (g':Gt):Prop where
 Pm:A.sm 16<=mE A.sm e 16/\mE A.sm e 16<=A.sm 16+1
 rv:(0<=g'.rv/\g'.rv<=mE A.sm e 16)/\0<=g'.wv/\g'.wv<=mE A.sm e 16
 lk:LK T n (mE A.sm e) (mE A.sm e 16) (Cv (fun u=>DK (G u)) t (DK g')) (Cv (fun u=>(A.th u).sw++Ba n (G u)) t ((tE A.sm (A.th t) e).sw++Ba n g'))
section
variable {T:Nat} {A:AM} {G:Nat->Gt} {t:Nat} (h6:n<=6) (ht:t < T) (hl:LK T n A.sm (A.sm 16) (fun u=>DK (G u)) fun u=>(A.th u).sw++Ba n (G u))
 (hrw:(0<=(G t).rv/\(G t).rv<=A.sm 16)/\0<=(G t).wv/\(G t).wv<=A.sm 16) {e:Ek}
include hl
theorem UT.same (h1:mE A.sm e=A.sm) (h2:(tE A.sm (A.th t) e).sw++Ba n g'=(A.th t).sw++Ba n (G t)) (h3:DK g'=DK (G t)) (h4:(0<=g'.rv/\g'.rv<=A.sm 16)/\0<=g'.wv/\g'.wv<=A.sm 16):UT n T A G t e g':=by
 refine⟨by rw[h1];omega,by rw[h1];exact h4,?_⟩;rw[h1,h2,h3,show Cv (fun u=>DK (G u)) t (DK (G t))=fun u=>DK (G u) from FL _ t,show Cv (fun u=>(A.th u).sw++Ba n (G u)) t ((A.th t).sw++Ba n (G t))=fun u=>(A.th u).sw++Ba n (G u) from FL (fun u=>(A.th u).sw++Ba n (G u)) t];exact hl
include h6 ht hrw
theorem UT.Gg (h1:mE A.sm e=A.sm) (h2:(tE A.sm (A.th t) e).sw=(A.th t).sw) (h3:Ba n (G t)=[]) (h4:Eh (G t)=true\/(G t).Bp=GP) (hr:GB n (G t) 0 g'):UT n T A G t e g':=by
 by_cases hu:Eh (G t)=true
 ·refine⟨by rw[h1];omega,by rw[h1];exact hr.Xz.2.2.ok (Qbn _) hrw,?_⟩;have:=yH h6 ht hl (c:=0) (Vh hu) hr;rw[h1,h2];rw[show(A.th t).sw++Ba n g'=(A.th t).sw++Ba n (G t)++Ba n g' by rw[h3,i7]];exact this
 ·have h5:=h4.resolve_left hu;have hi:=hr.Xz;refine UT.same hl h1 ?_ ?_ (hi.2.2.ok (Qbn _) hrw)
  ·rw[h2,h3,hi.2.1,U8 _ _ fun d _ _=>QN (by rw[h5];rfl)]
  ·rw[hi.1,Hh (by simpa using hu)]
theorem UT.nT (Ui:0<=A.sm 16) {c:Nat} {w:Int} (h1:mE A.sm e=A.sm\/mE A.sm e=C5 A.sm 16 (A.sm 16+1)) (h2:(tE A.sm (A.th t) e).sw=(A.th t).sw) (h3:Ba n (G t)=[]) (h4:Eh (G t)=true) (h5:SR (G t) n n) (hw:0<=w/\w<=mE A.sm e 16) (hr:Lt n {(G t) with wv:=w} c g'):UT n T A G t e g':=by
 have hN:A.sm 16<=mE A.sm e 16/\mE A.sm e 16<=A.sm 16+1:=by
  rcases h1 with h1 | h1 <;>rw[h1]
  ·omega
  ·rw[BZ];omega
 have hs:∀c,c < n->mE A.sm e (8+c)=A.sm (8+c):=fun c hc=>by
  rcases h1 with h1 | h1 <;>rw[h1];exact BN _ _ Y
 have hb:=hl.Ya hN.1 hs;have hH:=Vh h4;have AdD:(0<=({(G t) with wv:=w}:Gt).rv/\({(G t) with wv:=w}:Gt).rv<=mE A.sm e 16)/\0<=({(G t) with wv:=w}:Gt).wv/\({(G t) with wv:=w}:Gt).wv<=mE A.sm e 16:=⟨⟨hrw.1.1,Int.le_trans hrw.1.2 hN.1⟩,hw⟩;rcases hr.Xz with⟨e1,e2,e3⟩ | ⟨e1,e2,e3⟩
 ·refine⟨hN,e3.ok (Qbn _) AdD,?_⟩;rw[h2,e1,e2,<-h3];rw[show Cv (fun u=>DK (G u)) t (G t).Bp=fun u=>DK (G u) by rw[<-hH];exact FL _ t,show Cv (fun u=>(A.th u).sw++Ba n (G u)) t ((A.th t).sw++Ba n (G t))=fun u=>(A.th u).sw++Ba n (G u) from FL (fun u=>(A.th u).sw++Ba n (G u)) t];exact hb
 ·refine⟨hN,e3.ok (Qbn _) AdD,?_⟩;have:=AbA (g:={(G t) with wv:=w}) h6 ht hb hH h5 hw;rw[h2,e1,e2];rw[show(A.th t).sw++(O8 (IY {(G t) with wv:=w}) n 0++O8 (GA {(G t) with wv:=w}) n 0)=(A.th t).sw++Ba n (G t)++(O8 (IY {(G t) with wv:=w}) n 0++O8 (GA {(G t) with wv:=w}) n 0) by rw[h3,i7]];exact this
end
theorem Adm (h6:n<=6) (hxn:x.n=n) (ht:t < T) (hl:LK T n A.sm (A.sm 16) (fun u=>DK (G u)) fun u=>(A.th u).sw++Ba n (G u)) (Ui:0<=A.sm 16)
  (hrw:(0<=(G t).rv/\(G t).rv<=A.sm 16)/\0<=(G t).wv/\(G t).wv<=A.sm 16) {lt:LT} (ha:Sw x (G t) lt) {e:Ek} {bad:Bool} (he:UL (G t)=some e) (hn:Nx n (G t) (vE A.sm (A.th t).sw e) bad g'):
  UT n T A G t e g':=by
 obtain⟨k1,k2,k3,k4,k5,k6⟩:=jC ha;rw[hxn] at k1 k2 k4 k5 k6;have Ca:=he;unfold UL at Ca;have hU:∀b,Eh (G t)=b->Eh (G t)=b:=fun _ h=>h
 cases hn with
 | out h q' k=>
  have hi:=Fw n q';have hb:mE A.sm e=A.sm/\(tE A.sm (A.th t) e).sw=(A.th t).sw:=by
   rcases bL h he with⟨u,rfl⟩ | ⟨s,rfl⟩ <;>exact⟨rfl,rfl⟩
  refine UT.same hl hb.1 ?_ ?_ ?_
  ·rw[hb.2,hi.2.1,show Ba n (G t)=[] by unfold Ba;rw[h]]
  ·rw[hi.1,Hh (by unfold Eh;rw[h])]
  ·rw[hi.2.2.1,hi.2.2.2];omega
 | Pm h h0 _ r=>
  rw[h] at Ca;cases Ca;obtain⟨i1,i2,i3⟩:=r.Xz rfl;have hv:vE A.sm (A.th t).sw (.ld 1 16)=A.sm 16:=j8 fun u hu=>by
   rcases hl.todo t _ u ht (D _ hu) with h1 | ⟨c',h1,h2,_⟩ <;>omega
  refine UT.same hl rfl ?_ ?_ (i3.ok (Qbn _) ⟨⟨by show 0<=vE A.sm (A.th t).sw (.ld 1 16);omega,by show vE A.sm (A.th t).sw (.ld 1 16)<=_;omega⟩,Qbn _,Ui⟩)
  ·rw[i2,show Ba n (G t)=[] by unfold Ba;rw[h]];rfl
  ·exact nav
 | JF h hv=>
  exact naq
 | Zl h _ _ r=>
  exact nat
 | JE h=>
  exact naq
 | JS h hv h0 _ r=>
  rw[h] at Ca;cases Ca;obtain⟨i1,i2,i3⟩:=r.Xz (by simpa[h] using k3 (by unfold Eh;rw[h]));refine UT.same hl rfl ?_ ?_ (i3.ok (Qbn _) hrw)
  ·rw[i2,show Ba n (G t)=[] by unfold Ba;rw[h]];rfl
  ·exact nav
 | Zk h hv _ r=>
  exact nat
 | SS h hv=>
  rw[h] at Ca;cases Ca;refine UT.same hl rfl ?_ ?_ hrw
  ·rw[show Ba n (G t)=[] by unfold Ba;rw[h]];rfl
  ·rw[Vh (g:=G t) (by unfold Eh;rw[h])];rfl
 | nZ h _ _ r=>
  exact nay
 | QY h hv _ r=>
  rename_i c lv;rw[h] at Ca;cases Ca;obtain⟨hc,w,Pz,aX,Ot⟩:=k2 c lv h;have Wy:(if A.sm (8+c)=lv then (1:Int) else 0)≠0:=hv;have Vd:A.sm (8+c)=lv:=by
   refine Classical.byContradiction fun hx=> ?_
   rw[I hx] at Wy;exact Wy rfl
  have hm:mE A.sm (.JL 3 (8+c) lv (lv+1))=C5 A.sm (8+c) (lv+1):=by show(if _ then _ else _)=_;rw[In Vd]
  have vd:C5 A.sm (8+c) (lv+1) 16=A.sm 16:=BN _ _ Y;obtain⟨i1,i2,i3⟩:=r.Xz;refine⟨by rw[hm,vd];omega,by rw[hm,vd];exact i3.ok (Qbn _) hrw,?_⟩;have:=hl.UA h6 ht hc Vd ⟨w,Pz,aX,Y⟩;rw[hm,vd,i1,i2,<-show Ba n (G t)=[] by unfold Ba;rw[h]];rw[show Cv (fun u=>(A.th u).sw++Ba n (G u)) t ((tE A.sm (A.th t) (.JL 3 (8+c) lv (lv+1))).sw++Ba n (G t))=fun u=>(A.th u).sw++Ba n (G u) from FL (fun u=>(A.th u).sw++Ba n (G u)) t];have e:DK (G t)=(G t).Bp:=Vh (by unfold Eh;rw[h]);show LK T n _ _ (Cv (fun u=>DK (G u)) t (F2 (G t).Bp c lv)) _;rw[<-e];exact this
 | nY h hv _ r=>
  rename_i c lv;rw[h] at Ca;cases Ca;have Wy:(if A.sm (8+c)=lv then (1:Int) else 0)=0:=hv;have Vd:¬A.sm (8+c)=lv:=fun hx=>by rw[In hx] at Wy;cases Wy
  exact UT.Gg h6 ht hl hrw (by show(if _ then _ else _)=_;rw[I Vd]) rfl (by unfold Ba;rw[h]) (.inl (by unfold Eh;rw[h])) r
 | xa h _ r=>
  rw[h] at Ca;cases Ca;refine UT.nT h6 ht hl hrw Ui (.inr rfl) rfl (by unfold Ba;rw[h]) (by unfold Eh;rw[h]) (k1 (.inl h)) ?_ r;show 0<=A.sm 16+1/\A.sm 16+1<=C5 A.sm 16 (A.sm 16+1) 16;rw[BZ];omega
 | lo h hv _ r=>
  rw[h] at Ca;cases Ca;exact UT.nT (w:=(G t).wv) h6 ht hl hrw Ui (.inl rfl) rfl (by unfold Ba;rw[h]) (by unfold Eh;rw[h]) (k1 (.inr ⟨_,h⟩)) hrw.2 r
 | lob h _ _ r=>
  exact nay
 | pu h _ r=>
  rename_i c;rw[h] at Ca;replace Ca:((G t).q.BW c).map (Ek.st c ·)=some e:=Ca;obtain⟨hc,hm⟩:=k4 c h;obtain⟨u,hu⟩:=Qbh.1 hm;rw[hu] at Ca;cases Ca;obtain⟨i1,i2,i3⟩:=r.Xz;refine UT.same hl rfl ?_ ?_ (i3.ok (Qbn _) hrw)
  ·rw[i2,show Ba n (G t)=O8 (IY (G t)) n c++O8 (GA (G t)) n 0 by unfold Ba;rw[h],L5 (IY (G t)) hc,show IY (G t) c=some (c,u) by unfold IY;rw[hu];rfl];show((A.th t).sw++[(c,u)])++_=_;simp
  ·exact nav
 | fr h _ r=>
  rename_i c;rw[h] at Ca;cases Ca;obtain⟨hc,hm⟩:=k5 c h;obtain⟨i1,i2,i3⟩:=r.Xz;refine UT.same hl rfl ?_ ?_ (i3.ok (Qbn _) hrw)
  ·rw[i2,show Ba n (G t)=O8 (GA (G t)) n c by unfold Ba;rw[h],L5 (GA (G t)) hc,show GA (G t) c=some (8+c,2*(G t).wv) by unfold GA;rw[In hm]];show((A.th t).sw++[(8+c,2*(G t).wv)])++_=_;simp
  ·exact nav
 | te h _ r=>
  rename_i i;rw[h] at Ca;replace Ca:((G t).q.o[i]?).map Ek.out=some e:=Ca;obtain⟨i1,i2,i3⟩:=r.Xz (n:=n);have hb:mE A.sm e=A.sm/\(tE A.sm (A.th t) e).sw=(A.th t).sw:=by
   cases ho:(G t).q.o[i]? with
   | none=>rw[ho] at Ca;cases Ca
   | some u=>rw[ho] at Ca;cases Ca;exact⟨rfl,rfl⟩
  refine UT.same hl hb.1 ?_ ?_ (i3.ok (Qbn _) hrw)
  ·rw[hb.2,i2,show Ba n (G t)=[] by unfold Ba;rw[h]]
  ·exact nav
 | ba h _ r=>
  rename_i c;rw[h] at Ca;replace Ca:((G t).Bp c).map (Ek.st (8+c) ·)=some e:=Ca;obtain⟨hc,hm⟩:=k6 c h;obtain⟨u,hu⟩:=Qbh.1 hm;rw[hu] at Ca;cases Ca;obtain⟨i1,i2,i3⟩:=r.Xz;refine UT.same hl rfl ?_ ?_ (i3.ok (Qbn _) hrw)
  ·rw[i2,show Ba n (G t)=O8 (Lr (G t)) n c by unfold Ba;rw[h],L5 (Lr (G t)) hc,show Lr (G t) c=some (8+c,u) by unfold Lr;rw[hu];rfl];show((A.th t).sw++[(8+c,u)])++_=_;simp
  ·exact nav
theorem L1.step (h:L1 X T n M K A G) (h6:n<=6) (hX:∀t,t < T->Ny (X t)/\(X t).n=n) (hK:K < 1000000000000000000) {t:Nat} (ht:t < T) {fl:Bool} (hs:AS X A t fl A'):
  ∃g',Us (X t) n A (G t) t fl A' g'/\L1 X T n M (K+1) A' (Cv G t g')/\(fl=true->A'.sm 16=A.sm 16):=by
 obtain⟨hx,hxn⟩:=hX t ht;obtain⟨g',hg,hp,Ms⟩:=xM hx hxn (h.th t ht) (h.pt t ht) (fun h0=>h.see h6 hX hK ht h0) hs;refine⟨g',hg,?_⟩;have yZ:∀u,u≠t->A'.th u=A.th u:=fun u hu=>by cases hg <;>exact Ds _ _ hu
 have hTh:∀u,u < T->(A'.th u).st=0->Tu (X u) (M+67) (A'.th u).lt (Cv G t g' u):=fun u hu h0=>by
  by_cases he:u=t
  ·subst he;rw[BU];exact Ms h0
  ·rw[yZ u he] at h0⊢;rw[Ds _ _ he];exact h.th u hu h0
 have hPt:∀u,u < T->ZQ (X u) M (Cv G t g' u):=fun u hu=>by
  by_cases he:u=t
  ·subst he;rw[BU];exact hp
  ·rw[Ds _ _ he];exact h.pt u hu
 have Ui:=h.c0;have Zd:Cv G t (G t)=G:=FL G t;cases hg with
 | Cy QF=>
  rename_i a u r;rw[Zd] at hTh hPt⊢;have IU:=h.lk.Cy h6 ht (t:=t) (a:=a) (u:=u) (r:=r++Ba n (G t)) (by show(A.th t).sw++_=_;rw[QF];rfl);have vd:C5 A.sm a u 16=A.sm 16:=BN _ _ (by
    rcases h.lk.todo t a u ht (D _ (by rw[QF];exact J ..)) with h1 | ⟨c,h1,h2,_⟩ <;>omega)
  refine⟨⟨hTh,hPt,⟨by show 0<=C5 A.sm a u 16;rw[vd];exact Ui.1,by show C5 A.sm a u 16<=_;rw[vd];omega⟩,fun v hv=>by show(_/\_<=C5 A.sm a u 16)/\_/\_<=C5 A.sm a u 16;rw[vd];exact h.rv v hv,?_,fun v hv h0=> ?_⟩,fun _=>vd⟩
  ·show LK T n (C5 A.sm a u) (C5 A.sm a u 16) _ _;rw[vd];have e:=Q7 (n:=n) A G t {A.th t with sw:=r} (G t);rw[Zd] at e;show LK T n _ _ _ (fun v=>(Cv A.th t _ v).sw++_);rw[e];exact IU
  ·by_cases iJ:v=t
   ·subst iJ;refine h.FB v hv ?_;have:(Cv A.th v {A.th v with sw:=r} v).st≠0:=h0;rw[BU] at this;exact this
   ·rw[show({sm:=C5 A.sm a u,th:=Cv A.th t {A.th t with sw:=r}}:AM).th v=A.th v from Ds _ _ iJ] at h0;exact h.FB v hv h0
 | Od hm=>
  rename_i lt';rw[Zd] at hTh hPt⊢;refine⟨⟨hTh,hPt,⟨Ui.1,by show A.sm 16<=_;omega⟩,h.rv,?_,fun v hv h0=> ?_⟩,fun h=>by cases h⟩
  ·have e:=Q7 (n:=n) A G t {A.th t with lt:=lt'} (G t);rw[Zd] at e;show LK T n _ _ _ (fun v=>(Cv A.th t _ v).sw++_);rw[e,show Cv (fun u=>(A.th u).sw++Ba n (G u)) t ((A.th t).sw++Ba n (G t))=fun u=>(A.th u).sw++Ba n (G u) from FL (fun u=>(A.th u).sw++Ba n (G u)) t];exact h.lk
  ·by_cases iJ:v=t
   ·subst iJ;refine h.FB v hv ?_;have:(Cv A.th v {A.th v with lt:=lt'} v).st≠0:=h0;rw[BU] at this;exact this
   ·rw[show({sm:=A.sm,th:=Cv A.th t {A.th t with lt:=lt'}}:AM).th v=A.th v from Ds _ _ iJ] at h0;exact h.FB v hv h0
 | stop he h0=>
  rename_i s;rw[Zd] at hTh hPt⊢;refine⟨⟨hTh,hPt,⟨Ui.1,by show A.sm 16<=_;omega⟩,h.rv,?_,fun v hv h1=> ?_⟩,fun h=>by cases h⟩
  ·have e:=Q7 (n:=n) A G t (tE A.sm (A.th t) (.stop s)) (G t);rw[Zd] at e;show LK T n _ _ _ (fun v=>(Cv A.th t _ v).sw++_);rw[e,show Cv (fun u=>(A.th u).sw++Ba n (G u)) t ((tE A.sm (A.th t) (.stop s)).sw++Ba n (G t))=fun u=>(A.th u).sw++Ba n (G u) from FL (fun u=>(A.th u).sw++Ba n (G u)) t];exact h.lk
  ·by_cases iJ:v=t
   ·subst iJ;exact(Z6 he).1
   ·rw[show({sm:=A.sm,th:=Cv A.th t (tE A.sm (A.th t) (.stop s))}:AM).th v=A.th v from Ds _ _ iJ] at h1;exact h.FB v hv h1
 | ev he h0 uF hd hn hr_ ha_ hp_=>
  rename_i e bad j_ lt_;obtain⟨j,lt',_,ha,_⟩:=h.th t ht h0;have hl:=Adm h6 hxn ht h.lk Ui.1 (h.rv t ht) ha he hn;have h1:=hl.Pm;refine⟨⟨hTh,hPt,⟨by show 0<=mE A.sm e 16;omega,by show mE A.sm e 16<=_;omega⟩,fun v hv=> ?_,?_,fun v hv h2=> ?_⟩,fun h=>by cases h⟩
  ·by_cases iJ:v=t
   ·subst iJ;rw[BU];exact hl.rv
   ·rw[Ds _ _ iJ];have:=h.rv v hv;show(_/\_<=mE A.sm e 16)/\_/\_<=mE A.sm e 16;omega
  ·show LK T n (mE A.sm e) (mE A.sm e 16) _ (fun v=>(Cv A.th t _ v).sw++_);rw[uV,Q7];exact hl.lk
  ·by_cases iJ:v=t
   ·subst iJ;have:(Cv A.th v (tE A.sm (A.th v) e) v).st≠0:=h2;rw[BU] at this;have e2:(tE A.sm (A.th v) e).st=(A.th v).st:=by
     cases e with
     | stop s=>exact UV rfl (uF s)
     | _=>rfl
    rw[e2] at this;exact UV h0 this
   ·rw[show({sm:=mE A.sm e,th:=Cv A.th t (tE A.sm (A.th t) e)}:AM).th v=A.th v from Ds _ _ iJ] at h2;rw[Ds _ _ iJ];exact h.FB v hv h2
end
section
section
variable (PR PW:Nat->Prop)
def TS:Bt->Prop
 | .nil=>True
 | .set _ _ _ _ r=>TS r
 | .get _ f s _ r=>(0<=f/\∀c:Nat,f<=c->(c:Int) < f+s->PR c)/\TS r
 | .put f s _ _ r=>(0<=f/\∀c:Nat,f<=c->(c:Int) < f+s->PW c)/\TS r
 | .out _ r=>TS r
 | .atomic b r=>TS b/\TS r
 | .EA _ b r=>TS b/\TS r
 | .loop _ b r=>TS b/\TS r
def TK:KK->Prop
 | .done=>True
 | .rest s k=>TS PR PW s/\TK k
 | .loop b s k=>TS PR PW b/\TS PR PW s/\TK k
 | .Au b s k=>TS PR PW b/\TS PR PW s/\TK k
structure TQ (q:KS):Prop where
 s:TS PR PW q.s
 k:TK PR PW q.k
 m:∀c,(q.BW c).isSome=true->PW c
structure TG (g:Gt):Prop where
 q0:TQ PR PW g.q0
 q:TQ PR PW g.q
 rd:∀c,(g.rd c).isSome=true->PR c
 Bp:∀c,(g.Bp c).isSome=true->PW c
end
variable {PR PW:Nat->Prop}
theorem AbC (h:Xy rd q=some r) (t:TQ PR PW q):TQ PR PW r:=by
 obtain⟨ts,tk,tm⟩:=t;unfold Xy at h;split at h
 ·split at h
  ·rename_i hk;cases h;rw[hk] at tk;exact⟨tk.1,tk.2,tm⟩
  ·rename_i hk;have tk':=tk;rw[hk] at tk';split at h
   ·cases h;exact⟨tk'.2.1,tk'.2.2,tm⟩
   ·cases h;exact⟨tk'.1,tk,tm⟩
  ·cases h
 ·rename_i hs;rw[hs] at ts;simp only[Qam] at h;obtain⟨_,_,rfl⟩:=h;exact⟨ts,tk,tm⟩
 ·rename_i hs;rw[hs] at ts;split at h
  ·cases h
  ·simp only[Qam] at h;obtain⟨_,_,rfl⟩:=h;exact⟨ts.2,tk,tm⟩
 ·rename_i hs;rw[hs] at ts;split at h
  ·cases h
  ·rename_i hr;cases h;refine⟨ts.2,tk,fun c hc=> ?_⟩;have UH:(F2 q.BW _ _ c).isSome=true:=hc;unfold F2 at UH;split at UH
   ·rename_i he;subst he;have h0:=ts.1.1;exact ts.1.2 _ Y Y
   ·exact tm c UH
 ·rename_i hs;rw[hs] at ts;split at h
  ·cases h;exact⟨ts,tk,tm⟩
  ·cases h
 ·rename_i hs;rw[hs] at ts;cases h;split
  ·exact⟨ts.2,tk,tm⟩
  ·exact⟨ts.1,⟨ts.2,tk⟩,tm⟩
 ·rename_i hs;rw[hs] at ts;cases h;exact⟨ts.1,⟨ts.1,ts.2,tk⟩,tm⟩
 ·cases h
theorem Sh.tq (h:Sh rd q r) (t:TQ PR PW q):TQ PR PW r:=by
 induction h with
 | nil q=>exact t
 | cons h _ ih=>exact ih (AbC h t)
theorem zE (t:TQ PR PW q) (y:Int):TQ PR PW (Tc q y):=by
 unfold Tc;split
 ·rename_i hs;have:=t.s;rw[hs] at this;exact⟨this.2,t.k,t.m⟩
 ·exact t
theorem yk (t:TQ PR PW q):TQ PR PW (gP q):=by
 unfold gP;split
 ·rename_i hs;have:=t.s;rw[hs] at this;exact⟨this,t.k,t.m⟩
 ·exact t
theorem mo (t:TQ PR PW q):TQ PR PW (N6 q):=by
 unfold N6;split
 ·rename_i hs;have:=t.s;rw[hs] at this;exact⟨this.1,⟨this.1,this.2,t.k⟩,fun _ h=>(by cases h)⟩
 ·exact t
theorem pK {q0:KS} (t:TQ PR PW q0):TQ PR PW (Fl q0 q):=by
 unfold Fl;split
 ·rename_i hs;have:=t.s;rw[hs] at this;exact⟨this.2,t.k,fun _ h=>(by cases h)⟩
 ·exact t
variable {n:Nat} {g g':Gt}
theorem aD (t:TQ PR PW q):TG PR PW (EV q):=⟨t,t,fun _ h=>(by cases h),fun _ h=>(by cases h)⟩
theorem Ls.tg (h:Ls g i g') (t:TG PR PW g):TG PR PW g':=by
 cases h with
 | te _=>exact⟨t.q0,t.q,t.rd,t.Bp⟩
 | out q' _ k=>exact aD (k.tq (pK t.q0))
theorem Mq.tg (h:Mq n g c g') (t:TG PR PW g):TG PR PW g':=by
 cases h with
 | fr _ _ _ _ _=>exact⟨t.q0,t.q,t.rd,t.Bp⟩
 | stop g' _ k=>exact k.tg t
theorem Tw.tg (h:Tw n g c g') (t:TG PR PW g):TG PR PW g':=by
 cases h with
 | pu _ _ _ _ _=>exact⟨t.q0,t.q,t.rd,t.Bp⟩
 | stop g' _ k=>exact k.tg t
theorem Lt.tg (h:Lt n g c g') (t:TG PR PW g):TG PR PW g':=by
 cases h with
 | lo _ _ _ _ _=>exact⟨t.q0,t.q,t.rd,t.Bp⟩
 | stop g' _ k=>exact k.tg t
theorem Mp.tg (h:Mp n g c g') (t:TG PR PW g):TG PR PW g':=by
 cases h <;>exact⟨t.q0,t.q,t.rd,t.Bp⟩
theorem GB.tg (h:GB n g c g') (t:TG PR PW g):TG PR PW g':=by
 cases h with
 | ba _ _ _ _ _=>exact⟨t.q0,t.q,t.rd,t.Bp⟩
 | Pm _=>exact⟨t.q0,t.q0,fun _ h=>(by cases h),fun _ h=>(by cases h)⟩
theorem jK.tg (h:jK n b g g') (t:TG PR PW g):TG PR PW g':=by
 cases h with
 | EF q' k _=>exact⟨t.q0,k.tq t.q,t.rd,t.Bp⟩
 | get q' c k=>exact⟨t.q0,k.tq t.q,t.rd,t.Bp⟩
 | UA q' g' k _ _ h=>exact h.tg ⟨t.q0,k.tq t.q,t.rd,t.Bp⟩
 | GD q' g' k _ _ h=>exact h.tg ⟨t.q0,k.tq t.q,t.rd,t.Bp⟩
theorem Yo {f:Nat->Option Int} {P:Nat->Prop} (hf:∀d,(f d).isSome=true->P d) (hc:P c) (h:(F2 f c v d).isSome=true):P d:=by
 unfold F2 at h;split at h
 ·rename_i he;rw[he];exact hc
 ·exact hf d h
theorem Nx.tg (h:Nx n g v bad g') (t:TG PR PW g) (h3:∀c lv y,g.ph= .JS c lv y->PR c) (h2:∀c lv,g.ph= .QY c lv->PW c):TG PR PW g':=by
 cases h with
 | out _ q' k=>exact aD (k.tq (yk t.q))
 | Pm _ _ _ r=>exact r.tg ⟨t.q0,mo t.q0,fun _ h=>(by cases h),fun _ h=>(by cases h)⟩
 | JF _ _=>exact⟨t.q0,t.q,t.rd,t.Bp⟩
 | Zl _ _ _ r=>exact r.tg t
 | JE _=>exact⟨t.q0,t.q,t.rd,t.Bp⟩
 | JS h _ _ _ r=>exact r.tg ⟨t.q0,zE t.q _,fun c hc=>Yo t.rd (h3 _ _ _ h) hc,t.Bp⟩
 | Zk _ _ _ r=>exact r.tg t
 | SS _ _=>exact⟨t.q0,t.q,t.rd,t.Bp⟩
 | nZ _ _ _ r=>exact r.tg t
 | QY h _ _ r=>exact r.tg ⟨t.q0,t.q,t.rd,fun c hc=>Yo t.Bp (h2 _ _ h) hc⟩
 | nY _ _ _ r=>exact r.tg t
 | xa _ _ r=>exact r.tg ⟨t.q0,t.q,t.rd,t.Bp⟩
 | lo _ _ _ r=>exact r.tg t
 | lob _ _ _ r=>exact r.tg t
 | pu _ _ r=>exact r.tg t
 | fr _ _ r=>exact r.tg t
 | te _ _ r=>exact r.tg t
 | ba _ _ r=>exact r.tg t
theorem Xe (h:Sw x g lt) (t:TG PR PW g):(∀c,(g.ph= .JF c\/(∃lv,g.ph= .JE c lv)\/∃lv y,g.ph= .JS c lv y)->PR c)/\(∀c,(g.ph= .SS c\/∃lv,g.ph= .QY c lv)->PW c)/\(∀c,g.ph= .lo c->PR c):=by
 have key:∀{m b s ab c p0 v r},wV x g m b s ab c p0 v r->PR c:=fun hg=>by
  obtain⟨f,z,a,hs,h1,h2,h3⟩:=hg.stm;have ts:=t.q.s;rw[hs] at ts;have h0:=ts.1.1;exact ts.1.2 _ Y Y
 unfold Sw at h;refine⟨fun c hc=> ?_,fun c hc=> ?_,fun c hc=> ?_⟩
 ·rcases hc with hc | ⟨lv,hc⟩ | ⟨lv,y,hc⟩ <;>rw[hc] at h
  ·obtain⟨b,s,ab,p0,v,r,hg,_⟩:=h;exact key hg
  ·obtain⟨⟨b,s,ab,p0,v,r,hg,_⟩,_⟩:=h;exact key hg
  ·obtain⟨⟨b,s,ab,p0,v,r,hg,_⟩,_⟩:=h;exact key hg
 ·rcases hc with hc | ⟨lv,hc⟩ <;>rw[hc] at h
  ·exact t.q.m c h.2.1
  ·exact t.q.m c h.2.1
 ·rw[hc] at h;exact t.rd c h.2.1
theorem zn (t:TG PR PW g):(∀c,(DK g c).isSome=true->PW c)/\∀c v,(8+c,v)∈Ba n g->n<=6->PW c:=by
 refine⟨fun c hc=> ?_,fun c v hv h6=> ?_⟩
 ·unfold DK at hc;split at hc
  ·exact t.Bp c hc
  ·cases hc
 ·have WJ:∀k,(8+c,v)∈O8 (GA g) n k->PW c:=fun k hv=>by
   obtain⟨d,_,hd,hf⟩:=IE.1 hv;unfold GA at hf;split at hf
   ·rename_i hs;have:=Qao Prod.fst (Option.some.inj hf);simp at this;obtain rfl:d=c:=Y
    exact t.q.m d hs
   ·cases hf
  unfold Ba at hv;split at hv
  ·rcases Nm.1 hv with hv | hv
   ·obtain⟨d,_,hd,hf⟩:=IE.1 hv;unfold IY at hf;cases hm:g.q.BW d with
    | none=>rw[hm] at hf;cases hf
    | some u=>rw[hm] at hf;have:=Qao Prod.fst (Option.some.inj hf);simp at this;omega
   ·exact WJ 0 hv
  ·exact WJ _ hv
  ·obtain⟨d,_,hd,hf⟩:=IE.1 hv;unfold Lr at hf;cases hm:g.Bp d with
   | none=>rw[hm] at hf;cases hf
   | some u=>
    rw[hm] at hf;have:=Qao Prod.fst (Option.some.inj hf);simp at this;obtain rfl:d=c:=Y
    exact t.Bp d (by rw[hm];rfl)
  ·cases hv
end
end Go.Proofs.YtpdfifdlhpmofaaGreatDoor
