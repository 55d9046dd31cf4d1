/-
  Part 13 of the proof.
-/
import Derived.Test.YtpdfifdlhpmofaaGreatDoorZ03
set_option linter.unusedVariables false
set_option linter.unusedSimpArgs false
set_option maxHeartbeats 3200000
set_option maxRecDepth 100000
namespace Go.Proofs.YtpdfifdlhpmofaaGreatDoor
open Go.RowKit
open Go.Lib (hid)
theorem mb1 {p:Prop} (h:p:=by
 have:(i - 48+1)*P<=(j - 48)*P:=Qbw _ Y;rw[Qdg] at this;omega):p:=h
theorem mb3 {p:Prop} (h:p:=by
 have:(j - 48+1)*P<=(i - 48)*P:=Qbw _ Y;rw[Qdg] at this;omega):p:=h
def Er (c:UInt8):Prop:=48<=c.toNat/\c.toNat<=57
instance Adn (c:UInt8):Decidable (Er c):=inferInstanceAs (Decidable (_/\_))
def stp (a:Nat) (c:UInt8):Nat:=10*a+(c.toNat - 48)
theorem Abb (a:Nat) (c:UInt8):stp a c=10*a+(c.toNat - 48):=by unfold stp;exact Eq.refl _
def Mw (a:Nat) (l:By):Nat:=l.foldl stp a
theorem Gw (a:Nat):Mw a []=a:=by unfold Mw;exact Eq.refl _
theorem ES (a:Nat) (c:UInt8) (r:By):Mw a (c::r)=Mw (10*a+(c.toNat - 48)) r:=by rw[<-Abb];unfold Mw;exact Eq.refl _
theorem jk (l:By):∀a,a<=Mw a l:=by
 induction l with
 | nil=>intro a;rw[Gw];exact LE _
 | cons c r ih=>intro a;rw[ES];exact Qb6 Y (ih (10*a+(c.toNat - 48)))
theorem W4 (l m:By):∀a,Mw a (l++m)=Mw (Mw a l) m:=by
 induction l with
 | nil=>intro a;rfl
 | cons c r ih=>intro a;rw[WP,ES,ES];exact ih _
theorem Pk (l:By):∀a,Mw a l=a*10 ^ l.length+Mw 0 l:=by
 induction l with
 | nil=>intro a;simp[Gw]
 | cons c r ih=>
  intro a;simp only[Gw,ES,IR];rw[ih,ih (10*0+(c.toNat - 48)),Nat.pow_succ];rw[Nat.mul_zero,Qaw,Qdg,<-d7,Nat.mul_comm 10 a,Nat.mul_assoc,Nat.mul_comm 10]
theorem W3 (l:By) (h:∀c,c∈l->Er c):Mw 0 l < 10 ^ l.length:=by
 induction l with
 | nil=>simp[Gw]
 | cons c r ih=>
  simp only[Gw,ES,IR];rw[Pk,Nat.pow_succ];have h1:=ih fun c hc=>h c (U _ hc)
  have h2:Er c:=h c (J ..);have h3:c.toNat - 48<=9:=by have:=h2.2;omega
  have h4:(10*0+(c.toNat - 48))*10 ^ r.length<=9*10 ^ r.length:=Qbw _ Y;omega
theorem FP (u:Nat):∀c,c∈Lib.decDigits u->Er c:=by
 induction u using Nat.strongRecOn with
 | _ u ih=>
  intro c hc;rw[Lib.decDigits] at hc;split at hc
  ·simp only[Z] at hc;subst hc;unfold Er;exact mcg
  ·rcases Nm.1 hc with hc | hc
   ·exact ih (u / 10) Y c hc
   ·simp only[Z] at hc;subst hc;unfold Er;exact mcg
theorem DE (u:Nat):Mw 0 (Lib.decDigits u)=u:=by
 induction u using Nat.strongRecOn with
 | _ u ih=>
  rw[Lib.decDigits];split
  ·simp only[Gw,ES];exact mcg
  ·rw[W4,ih (u / 10) Y];simp only[Gw,ES];exact mcg
theorem FC (u:Nat):Lib.decDigits u≠[]:=by
 rw[Lib.decDigits];split <;>simp
theorem OO (u:Nat):(Lib.decDigits u).headD 0=48->u=0:=by
 induction u using Nat.strongRecOn with
 | _ u ih=>
  intro h;rw[Lib.decDigits] at h;split at h
  ·simp only[List.headD_cons] at h;have:=Qao UInt8.toNat h;rw[UInt8.toNat_ofNat'] at this;have e:(48:UInt8).toNat=48:=rfl;omega
  ·have hh:=ih (u / 10) Y (by
      cases hd:Lib.decDigits (u / 10) with
      | nil=>exact UV hd (FC _)
      | cons a r=>rw[hd] at h;exact h)
   omega
theorem RZ (l:By) (h:∀c,c∈l->Er c) (Bi:l≠[]) (hh:l.headD 0=48->l.length=1):Lib.decDigits (Mw 0 l)=l:=by
 obtain⟨n,hn⟩:∃n,n=l.length:=⟨_,rfl⟩;induction n generalizing l with
 | zero=>exact UV (RK hn.symm) Bi
 | succ n ih=>
  rcases f5 l with h0 | ⟨r,c,h0⟩
  ·exact UV h0 Bi
  ·rw[m8] at h0;subst h0;have hc:Er c:=h c EQ;have e:c=UInt8.ofNat (48+(c.toNat - 48)):=by
    have:=hc.1;rw[show 48+(c.toNat - 48)=c.toNat by omega,UInt8.ofNat_toNat]
   have KM:=hc.1;have JC:=hc.2;cases r with
   | nil=>
    simp only[Qak,Gw,ES,Nat.mul_zero,Qaw];rw[Lib.decDigits,dif_pos Y,<-e]
   | cons a q=>
    have hr:=ih (a::q) (fun x hx=>h x (D _ hx)) EQ (fun h1=>by
      have:=hh (by simpa using h1);simp at this) (by simp at hn⊢;omega)
    rw[W4];simp only[Gw,ES] at hr⊢;generalize hz:Mw (10*0+(a.toNat - 48)) q=z at hr⊢;have KW:1<=z:=by
     have ha:Er a:=h a EQ;have h1:=jk q (10*0+(a.toNat - 48));have:a.toNat≠48:=fun h2=>by
      have:a=48:=UInt8.toNat_inj.1 h2;have:=hh (by simpa using this);simp at this
     have:=ha.1;omega
    rw[Lib.decDigits,dif_neg Y,show(10*z+(c.toNat - 48)) / 10=z by omega,show(10*z+(c.toNat - 48)) % 10=c.toNat - 48 by omega,hr,<-e]
theorem dy (b:Bool) (l:By):∀(a:Int) (v:Int),Ev b l a=some v->∀c,c∈l->Er c:=by
 induction l with
 | nil=>intro _ _ _ c hc;cases hc
 | cons x r ih=>
  intro a v h c hc;unfold Ev at h;split at h
  ·cases h
  ·rename_i hx;rcases Pi.1 hc with rfl | hc
   ·unfold Er;omega
   ·exact ih _ _ h c hc
theorem Qt (b:Bool) (l:By) (h:∀c,c∈l->Er c):∀a:Nat,(Mw a l<=if b then 9223372036854775808 else 9223372036854775807)->Ev b l (if b then -(a:Int) else a)=some (if b then -(Mw a l:Int) else (Mw a l:Int)):=by
 induction l with
 | nil=>intro a _;rw[Gw];rfl
 | cons c r ih=>
  intro a ha;have hc:Er c:=h c (J ..);obtain⟨h1,h2⟩:=hc;have bA:=jk r (10*a+(c.toNat - 48));simp only[ES] at ha⊢;rw[<-ih (fun x hx=>h x (U _ hx)) _ ha]
  conv=>lhs;unfold Ev
  rw[I Y];congr 1;cases b with
  | true=>
   simp only[Qau] at ha⊢;unfold wrap64;omega
  | false=>
   simp only[Qah,y4] at ha⊢;unfold wrap64;omega
theorem yK (l m:By) (hl:∀c,c∈l->Er c) (hm:∀c,c∈m->Er c) (he:l.length=m.length):Op.bytesLess l m=decide (Mw 0 l < Mw 0 m):=by
 induction l generalizing m with
 | nil=>
  cases m with
  | nil=>rfl
  | cons=>cases he
 | cons a x ih=>
  cases m with
  | nil=>cases he
  | cons b y=>
   have ha:Er a:=hl a (J ..);have hb:Er b:=hm b (J ..);have hx:=W3 x fun c hc=>hl c (U _ hc)
   have hy:=W3 y fun c hc=>hm c (U _ hc)
   have Ca:x.length=y.length:=by simpa using he
   have ih:=ih y (fun c hc=>hl c (U _ hc)) (fun c hc=>hm c (U _ hc)) Ca;simp only[Op.bytesLess,ES];rw[Pk x,Pk y,ih,<-Ca];rw[<-Ca] at hy;obtain⟨a1,a2⟩:=ha;obtain⟨b1,b2⟩:=hb;generalize 10 ^ x.length=P at*;generalize Mw 0 x=u at*;generalize Mw 0 y=v at*;have e1:a < b<->a.toNat < b.toNat:=UInt8.lt_iff_toNat_lt;have e2:a=b<->a.toNat=b.toNat:=UInt8.toNat_inj.symm;rw[Qcp];simp only[Qcq,Qaf,Qad,Qbu,e1,e2];generalize a.toNat=i at*;generalize b.toNat=j at*;simp only[Nat.mul_zero,Qaw];constructor
   ·rintro(h | ⟨rfl,h⟩)
    ·exact mb1
    ·omega
   ·intro h;rcases Qct i j with h' | h' | h'
    ·exact .inl h'
    ·subst h';exact .inr ⟨rfl,Y⟩
    ·exact mb3
theorem sQ:Mw 0 JX=9223372036854775807:=by decide+kernel
theorem sR:Mw 0 JY=9223372036854775808:=by decide+kernel
theorem np:∀c,c∈JX->Er c:=by decide+kernel
theorem nr:∀c,c∈JY->Er c:=by decide+kernel
theorem Acp (l m:By) (hl:∀c,c∈l->Er c) (hm:∀c,c∈m->Er c) (he:l.length=m.length) (h:Mw 0 l=Mw 0 m):l=m:=by
 induction l generalizing m with
 | nil=>
  cases m with
  | nil=>rfl
  | cons=>cases he
 | cons a x ih=>
  cases m with
  | nil=>cases he
  | cons b y=>
   have ha:Er a:=hl a (J ..);have hb:Er b:=hm b (J ..);have hx:=W3 x fun c hc=>hl c (U _ hc)
   have hy:=W3 y fun c hc=>hm c (U _ hc)
   have Ca:x.length=y.length:=by simpa using he
   simp only[Gw,ES] at h;rw[Pk x,Pk y,<-Ca] at h;rw[<-Ca] at hy;have ih:=ih y (fun c hc=>hl c (U _ hc)) (fun c hc=>hm c (U _ hc)) Ca;obtain⟨a1,a2⟩:=ha;obtain⟨b1,b2⟩:=hb;have e2:a=b<->a.toNat=b.toNat:=UInt8.toNat_inj.symm;have Su:a=b:=by
    rw[e2];generalize a.toNat=i at*;generalize b.toNat=j at*;generalize 10 ^ x.length=P at*;generalize Mw 0 x=u at*;generalize Mw 0 y=v at*;simp only[Nat.mul_zero,Qaw] at h;rcases Qct i j with h' | h' | h'
    ·exact mb1
    ·exact h'
    ·exact mb3
   subst Su;rw[ih Y]
theorem ns (b:Bool):(if b then JY else JX).length=19:=by cases b <;>rfl
theorem sS (b:Bool):Mw 0 (if b then JY else JX)=if b then 9223372036854775808 else 9223372036854775807:=by
 cases b
 ·exact sQ
 ·exact sR
theorem nt (b:Bool):∀c,c∈(if b then JY else JX)->Er c:=by
 cases b
 ·exact np
 ·exact nr
theorem Qu (b:Bool) (t:By) (h:∀c,c∈t->Er c):F8 b t (if b then JY else JX)=false<->t≠[]/\Mw 0 t<=(if b then 9223372036854775808 else 9223372036854775807)/\(t.headD 0=48->t.length=1/\b=false):=by
 have hl:=ns b;have hd:=sS b;have hg:=nt b;generalize (if b then JY else JX)=m at*;rw[<-hd];by_cases hn:t=[]
 ·subst hn;simp[F8]
 ·have hp:0 < t.length:=Qae.2 hn;have hle:(¬m.length < t.length/\¬(t.length=m.length/\Op.bytesLess t m=false/\t≠m))<->(t.length<=19/\Mw 0 t<=Mw 0 m):=by
   rw[hl];by_cases h1:19 < t.length
   ·constructor
    ·intro hh;omega
    ·intro hh;omega
   ·by_cases h2:t.length=19
    ·have:=yK t m h hg (by rw[h2,hl]);rw[this];constructor
     ·intro hh;refine⟨Y,?_⟩;rcases Qct (Mw 0 t) (Mw 0 m) with h' | h' | h'
      ·omega
      ·omega
      ·exact UV ⟨h2,by simp;omega,fun e=>by rw[e] at h';omega⟩ hh.2
     ·intro hh;refine⟨Y,fun h3=> ?_⟩;simp only[decide_eq_false_iff_not] at h3;exact h3.2.2 (Acp t m h hg (by rw[h2,hl]) Y)
    ·constructor
     ·intro hh;refine⟨Y,?_⟩;have h3:=W3 t h;have h4:10 ^ t.length<=10 ^ 18:=Nat.pow_le_pow_right AC Y;rw[hd];split <;>omega
     ·intro hh;exact⟨Y,fun h3=>h2 h3.1⟩
  have hlen:Mw 0 t<=Mw 0 m->(t.headD 0=48->t.length=1/\b=false)->t.length<=19:=by
   intro h1 h2;cases t with
   | nil=>exact UV rfl hn
   | cons a x=>
    by_cases ha:a=48
    ·have:=(h2 (by simpa using ha)).1;omega
    ·have had:Er a:=h a (J ..);have:a.toNat≠48:=fun e=>ha (UInt8.toNat_inj.1 e)
     have h48:=had.1;simp only[Gw,ES] at h1;rw[Pk] at h1;rcases Qbs 19 (a::x).length with h3 | h3
     ·exfalso;simp only[IR] at h3;have h4:10 ^ 19<=10 ^ x.length:=Nat.pow_le_pow_right AC Y;have h5:1*10 ^ x.length<=(10*0+(a.toNat - 48))*10 ^ x.length:=Qbw _ Y;rw[hd] at h1;have h6:(if b=true then 9223372036854775808 else 9223372036854775807)<=9223372036854775808:=by cases b <;>decide
      omega
     ·exact h3
  have Bi:t.isEmpty=false:=by cases t with | nil=>exact UV rfl hn | cons=>rfl
  have hr:F8 b t m=false<->(¬m.length < t.length/\¬(t.length=m.length/\Op.bytesLess t m=false/\t≠m))/\(t.headD 0=48->t.length=1/\b=false):=by
   unfold F8;rw[Bi,Qcj];simp only[Bool.or_eq_false_iff,Bool.and_eq_false_imp,decide_eq_false_iff_not,Qbu,Bool.or_eq_false_iff,Qad,Qdt,NE,Qaf,ne_eq,Qbu];constructor
   ·rintro⟨⟨h1,h2⟩,h3⟩;refine⟨⟨h1,fun h4=> ?_⟩,fun h5=> ?_⟩
    ·have:=h2 h4.1 h4.2.1;simp only[Bool.not_eq_false',Qbu] at this;exact h4.2.2 this
    ·have:=h3 h5;exact⟨Y,this.2⟩
   ·rintro⟨⟨h1,h2⟩,h3⟩;refine⟨⟨h1,fun h4 h5=> ?_⟩,fun h6=> ?_⟩
    ·simp only[Bool.not_eq_false',Qbu];exact Classical.byContradiction fun h7=>h2 ⟨h4,h5,h7⟩
    ·have:=h3 h6;exact⟨Y,this.2⟩
  rw[hr,hle];constructor
  ·rintro⟨⟨h1,h2⟩,h3⟩;exact⟨hn,h2,h3⟩
  ·rintro⟨h1,h2,h3⟩;exact⟨⟨hlen h2 h3,h2⟩,h3⟩
theorem vJ (t:By) (h:∀c,c∈t->Er c):(t.headD 0==45)=false:=by
 cases t with
 | nil=>rfl
 | cons a r=>
  have:=(h a (J ..)).1;rw[NE];intro h';have:a=45:=h';subst this;exact UV this AC
theorem Jy (v:Int) (h0: -9223372036854775808<=v) (h1:v<=9223372036854775807):number (Lib.itoa v)=some v:=by
 unfold Lib.itoa;by_cases hv:v < 0
 ·rw[In hv];obtain⟨n,hn⟩:∃n,n=v.natAbs:=⟨_,rfl⟩;rw[<-hn];have hd:=FP n;unfold number;simp only[List.headD_cons,beq_self_eq_true,Qau,List.tail_cons];have hb:=(Qu true (Lib.decDigits n) hd).2 ⟨FC n,by rw[DE];simp only[Qau];omega,fun hh=>by have:=OO n hh;omega⟩;simp only[Qau] at hb;rw[hb];have:=Qt true (Lib.decDigits n) hd 0 (by rw[DE];simp only[Qau];omega);simp only[Qau,Int.natCast_zero,Int.neg_zero,DE] at this;simp only[Qah,y4];rw[show(0:Int)= -((0:Nat):Int) by rfl];first | rw[this] | (simp at this⊢;rw[this])
  congr 1;omega
 ·rw[I hv];obtain⟨n,hn⟩:∃n,n=v.toNat:=⟨_,rfl⟩;rw[<-hn];have hd:=FP n;unfold number;simp only[vJ _ hd,Qah,y4];have hb:=(Qu false (Lib.decDigits n) hd).2 ⟨FC n,by rw[DE];simp only[Qah,y4];omega,fun hh=>by
    have:=OO n hh;subst this;exact⟨by rw[Lib.decDigits];rfl,rfl⟩⟩
  simp only[Qah,y4] at hb;rw[hb];have:=Qt false (Lib.decDigits n) hd 0 (by rw[DE];simp only[Qah,y4];omega);simp only[Qah,y4,DE] at this⊢;simp at this⊢;rw[this];congr 1;omega
theorem dw {l:By} {v:Int} (h:number l=some v): -9223372036854775808<=v/\v<=9223372036854775807/\Lib.itoa v=l:=by
 unfold number at h;simp only[] at h;generalize hb:(l.headD 0==45)=b at h;by_cases Nl:F8 b (if b=true then l.tail else l) (if b=true then JY else JX)=true
 ·rw[In Nl] at h;cases h
 ·rw[I Nl] at h;have Nl:=Qc3.2 Nl;have hd:=dy _ _ _ _ h;obtain⟨n1,n2,n3⟩:=(Qu b _ hd).1 Nl;have hv:=Qt b _ hd 0 n2;have e0:(if b then -((0:Nat):Int) else ((0:Nat):Int))=0:=by cases b <;>rfl
  rw[e0,h] at hv;have hv:=Option.some.inj hv;cases b with
  | false=>
   simp only[Qah,y4] at*;have e:=RZ l hd n1 fun hh=>(n3 hh).1
   refine⟨Y,Y,?_⟩;unfold Lib.itoa;rw[I Y,hv,Qbq,e]
  | true=>
   simp only[Qau] at*;have e:=RZ l.tail hd n1 fun hh=>UV (n3 hh).2 AC
   have Ox:0 < Mw 0 l.tail:=by
    rcases Qc2 (Mw 0 l.tail) with h0 | h0
    ·rw[h0] at e;have e':Lib.decDigits 0=[48]:=by rw[Lib.decDigits];rfl
     rw[e'] at e;exact UV (n3 (by rw[<-e];rfl)).2 AC
    ·exact h0
   refine⟨Y,Y,?_⟩;unfold Lib.itoa;rw[In Y,hv,Int.natAbs_neg,Int.natAbs_natCast,e];cases l with
   | nil=>exact UV hb AC
   | cons c r=>
    have:c=45:=by simpa using hb
    rw[this];rfl
theorem dn (l:By) (h:∀c,c∈l->Er c):∀a:Nat,Mw a l < 18446744073709551616->Lib.parseUint10 a l= .ok (Mw a l):=by
 induction l with
 | nil=>intro a _;rw[Gw];rfl
 | cons c r ih=>
  intro a ha;have hc:Er c:=h c (J ..);obtain⟨h1,h2⟩:=hc;have bA:=jk r (10*a+(c.toNat - 48));simp only[ES] at ha⊢;rw[<-ih (fun x hx=>h x (U _ hx)) _ ha]
  conv=>lhs;unfold Lib.parseUint10
  rw[In ⟨h1,h2⟩,I Y,I Y,Nat.mul_comm]
theorem pD (v:Int) (h0: -9223372036854775808<=v) (h1:v<=9223372036854775807):Lib.atoiAll (Lib.itoa v)= .ok v:=by
 unfold Lib.itoa;by_cases hv:v < 0
 ·rw[In hv];have hd:=FP v.natAbs;unfold Lib.atoiAll;simp only[show(45:UInt8).toNat=45 from rfl,or_true,Qau,Lib.parseMag,FC,y4];rw[dn _ hd 0 (by rw[DE];omega),DE];simp only[not_true_eq_false,false_and,y4,true_and];rw[I Y];congr 1;omega
 ·rw[I hv];have hd:=FP v.toNat;cases hl:Lib.decDigits v.toNat with
  | nil=>exact UV hl (FC _)
  | cons c r=>
   have hc:Er c:=hd c (by rw[hl];exact J ..);obtain⟨c1,c2⟩:=hc;unfold Lib.atoiAll;simp only[Lib.parseMag];rw[I (by omega:¬(c.toNat=43\/c.toNat=45)),<-hl,I (FC _),dn _ hd 0 (by rw[DE];omega),DE];simp only[];rw[I Y,I Y,I Y];congr 1;omega
theorem Qs (l:By) (v:Int):number l=some v<->Lib.parseIntB 64 l= .ok v/\Lib.itoa v=l:=by
 rw[Lib.parseIntB_64];constructor
 ·intro h;obtain⟨h1,h2,h3⟩:=dw h;exact⟨by rw[<-h3];exact pD v h1 h2,h3⟩
 ·rintro⟨h1,h2⟩;rw[<-Lib.parseIntB_64] at h1;obtain⟨b1,b2⟩:=Lib.parseIntB_bounds h1;rw[<-h2];exact Jy v (by
    have:((2 ^ (64 - 1):Nat):Int)=9223372036854775808:=AC
    omega) (by
      have:((2 ^ (64 - 1):Nat):Int)=9223372036854775808:=AC
      omega)
end Go.Proofs.YtpdfifdlhpmofaaGreatDoor
