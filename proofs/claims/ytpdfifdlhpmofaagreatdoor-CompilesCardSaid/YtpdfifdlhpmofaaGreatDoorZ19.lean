/-
  Part 19 of the proof, packed by program out of N1.
-/
import Derived.Test.YtpdfifdlhpmofaaGreatDoorZ03
import Derived.Lib.ItoaNum
import Derived.Lib.ParseIntBTie
set_option linter.unusedVariables false
set_option linter.unusedSimpArgs false
set_option maxHeartbeats 3200000
set_option maxRecDepth 100000
namespace Go.Proofs.YtpdfifdlhpmofaaGreatDoor
open Go.RowKit
open Go.Lib (hid)
def DZ (c:UInt8):Prop:=48≤c.toNat∧c.toNat≤57
instance qQ (c:UInt8):Decidable (DZ c):=inferInstanceAs (Decidable (_∧_))
def uF (a:Nat) (c:UInt8):Nat:=10*a+(c.toNat - 48)
theorem nC (a:Nat) (c:UInt8):uF a c=10*a+(c.toNat - 48):=by unfold uF;exact Eq.refl _
def KQ (a:Nat) (l:By):Nat:=l.foldl uF a
theorem FQ (a:Nat):KQ a []=a:=by unfold KQ;exact Eq.refl _
theorem Er (a:Nat) (c:UInt8) (r:By):KQ a (c::r)=KQ (10*a+(c.toNat - 48)) r:=by rw[←nC];unfold KQ;exact Eq.refl _
theorem Zo (l:By):∀a,a≤KQ a l:=by
 induction l with
 | nil=>intro a;rw[FQ];exact Nat.le_refl _
 | cons c r ih=>intro a;rw[Er];exact Nat.le_trans (by omega) (ih (10*a+(c.toNat - 48)))
theorem SH (l m:By):∀a,KQ a (l++m)=KQ (KQ a l) m:=by
 induction l with
 | nil=>intro a;rfl
 | cons c r ih=>intro a;rw[List.cons_append,Er,Er];exact ih _
theorem MN (l:By):∀a,KQ a l=a*10 ^ l.length+KQ 0 l:=by
 induction l with
 | nil=>intro a;simp[FQ]
 | cons c r ih=>
  intro a;simp only[FQ,Er,List.length_cons];rw[ih,ih (10*0+(c.toNat - 48)),Nat.pow_succ];rw[Nat.mul_zero,Nat.zero_add,Nat.add_mul,←Nat.add_assoc,Nat.mul_comm 10 a,Nat.mul_assoc,Nat.mul_comm 10]
theorem SF (l:By) (h:∀c,c∈l→DZ c):KQ 0 l < 10 ^ l.length:=by
 induction l with
 | nil=>simp[FQ]
 | cons c r ih=>
  simp only[FQ,Er,List.length_cons];rw[MN,Nat.pow_succ];have h1:=ih fun c hc=>h c (List.mem_cons_of_mem _ hc)
  have h2:DZ c:=h c (List.mem_cons_self ..);have h3:c.toNat - 48≤9:=by have:=h2.2;omega
  have h4:(10*0+(c.toNat - 48))*10 ^ r.length≤9*10 ^ r.length:=Nat.mul_le_mul_right _ (by omega);omega
theorem Fi (u:Nat):∀c,c∈Lib.decDigits u→DZ c:=by
 induction u using Nat.strongRecOn with
 | _ u ih=>
  intro c hc;rw[Lib.decDigits] at hc;split at hc
  ·simp only[List.mem_singleton] at hc;subst hc;unfold DZ;rw[UInt8.toNat_ofNat'];omega
  ·rcases List.mem_append.1 hc with hc | hc
   ·exact ih (u / 10) (by omega) c hc
   ·simp only[List.mem_singleton] at hc;subst hc;unfold DZ;rw[UInt8.toNat_ofNat'];omega
theorem Dn (u:Nat):KQ 0 (Lib.decDigits u)=u:=by
 induction u using Nat.strongRecOn with
 | _ u ih=>
  rw[Lib.decDigits];split
  ·simp only[FQ,Er];rw[UInt8.toNat_ofNat'];omega
  ·rw[SH,ih (u / 10) (by omega)];simp only[FQ,Er];rw[UInt8.toNat_ofNat'];omega
theorem Fc (u:Nat):Lib.decDigits u≠[]:=by
 rw[Lib.decDigits];split <;>simp
theorem Mi (u:Nat):(Lib.decDigits u).headD 0=48→u=0:=by
 induction u using Nat.strongRecOn with
 | _ u ih=>
  intro h;rw[Lib.decDigits] at h;split at h
  ·simp only[List.headD_cons] at h;have:=congrArg UInt8.toNat h;rw[UInt8.toNat_ofNat'] at this;have e:(48:UInt8).toNat=48:=rfl;omega
  ·have hh:=ih (u / 10) (by omega) (by
      cases hd:Lib.decDigits (u / 10) with
      | nil=>exact absurd hd (Fc _)
      | cons a r=>rw[hd] at h;exact h)
   omega
theorem OA (l:By) (h:∀c,c∈l→DZ c) (BQ:l≠[]) (hh:l.headD 0=48→l.length=1):Lib.decDigits (KQ 0 l)=l:=by
 obtain⟨n,hn⟩:∃n,n=l.length:=⟨_,rfl⟩;induction n generalizing l with
 | zero=>exact absurd (List.eq_nil_of_length_eq_zero hn.symm) BQ
 | succ n ih=>
  rcases List.eq_nil_or_concat l with h0 | ⟨r,c,h0⟩
  ·exact absurd h0 BQ
  ·rw[List.concat_eq_append] at h0;subst h0;have hc:DZ c:=h c (by simp);have e:c=UInt8.ofNat (48+(c.toNat - 48)):=by
    have:=hc.1;rw[show 48+(c.toNat - 48)=c.toNat by omega,UInt8.ofNat_toNat]
   have LC:=hc.1;have LB:=hc.2;cases r with
   | nil=>
    simp only[List.nil_append,FQ,Er,Nat.mul_zero,Nat.zero_add];rw[Lib.decDigits,dif_pos (by omega),←e]
   | cons a q=>
    have hr:=ih (a::q) (fun x hx=>h x (List.mem_append_left _ hx)) (by simp) (fun h1=>by
      have:=hh (by simpa using h1);simp at this) (by simp at hn⊢;omega)
    rw[SH];simp only[FQ,Er] at hr⊢;generalize hz:KQ (10*0+(a.toNat - 48)) q=z at hr⊢;have I9:1≤z:=by
     have ha:DZ a:=h a (by simp);have h1:=Zo q (10*0+(a.toNat - 48));have:a.toNat≠48:=fun h2=>by
      have:a=48:=UInt8.toNat_inj.1 h2;have:=hh (by simpa using this);simp at this
     have:=ha.1;omega
    rw[Lib.decDigits,dif_neg (by omega),show(10*z+(c.toNat - 48)) / 10=z by omega,show(10*z+(c.toNat - 48)) % 10=c.toNat - 48 by omega,hr,←e]
theorem WN (b:Bool) (l:By):∀(a:Int) (v:Int),D5 b l a=some v→∀c,c∈l→DZ c:=by
 induction l with
 | nil=>intro _ _ _ c hc;cases hc
 | cons x r ih=>
  intro a v h c hc;unfold D5 at h;split at h
  ·cases h
  ·rename_i hx;rcases List.mem_cons.1 hc with rfl | hc
   ·unfold DZ;omega
   ·exact ih _ _ h c hc
theorem Ny (b:Bool) (l:By) (h:∀c,c∈l→DZ c):∀a:Nat,(KQ a l≤if b then 9223372036854775808 else 9223372036854775807)→D5 b l (if b then -(a:Int) else a)=some (if b then -(KQ a l:Int) else (KQ a l:Int)):=by
 induction l with
 | nil=>intro a _;rw[FQ];rfl
 | cons c r ih=>
  intro a ha;have hc:DZ c:=h c (List.mem_cons_self ..);obtain⟨h1,h2⟩:=hc;have V7:=Zo r (10*a+(c.toNat - 48));simp only[Er] at ha⊢;rw[←ih (fun x hx=>h x (List.mem_cons_of_mem _ hx)) _ ha]
  conv=>lhs;unfold D5
  rw[if_neg (by omega)];congr 1;cases b with
  | true=>
   simp only[if_true] at ha⊢;unfold wrap64;omega
  | false=>
   simp only[Bool.false_eq_true,if_false] at ha⊢;unfold wrap64;omega
theorem kP (l m:By) (hl:∀c,c∈l→DZ c) (hm:∀c,c∈m→DZ c) (he:l.length=m.length):Op.bytesLess l m=decide (KQ 0 l < KQ 0 m):=by
 induction l generalizing m with
 | nil=>
  cases m with
  | nil=>rfl
  | cons=>cases he
 | cons a x ih=>
  cases m with
  | nil=>cases he
  | cons b y=>
   have ha:DZ a:=hl a (List.mem_cons_self ..);have hb:DZ b:=hm b (List.mem_cons_self ..);have hx:=SF x fun c hc=>hl c (List.mem_cons_of_mem _ hc)
   have hy:=SF y fun c hc=>hm c (List.mem_cons_of_mem _ hc)
   have iu:x.length=y.length:=by simpa using he
   have ih:=ih y (fun c hc=>hl c (List.mem_cons_of_mem _ hc)) (fun c hc=>hm c (List.mem_cons_of_mem _ hc)) iu;simp only[Op.bytesLess,Er];rw[MN x,MN y,ih,←iu];rw[←iu] at hy;obtain⟨a1,a2⟩:=ha;obtain⟨b1,b2⟩:=hb;generalize 10 ^ x.length=P at*;generalize KQ 0 x=u at*;generalize KQ 0 y=v at*;have e1:a < b↔a.toNat < b.toNat:=UInt8.lt_iff_toNat_lt;have e2:a=b↔a.toNat=b.toNat:=UInt8.toNat_inj.symm;rw[Bool.eq_iff_iff];simp only[Bool.or_eq_true,Bool.and_eq_true,decide_eq_true_eq,beq_iff_eq,e1,e2];generalize a.toNat=i at*;generalize b.toNat=j at*;simp only[Nat.mul_zero,Nat.zero_add];constructor
   ·rintro(h | ⟨rfl,h⟩)
    ·have:(i - 48+1)*P≤(j - 48)*P:=Nat.mul_le_mul_right _ (by omega);rw[Nat.add_mul] at this;omega
    ·omega
   ·intro h;rcases Nat.lt_trichotomy i j with h' | h' | h'
    ·exact .inl h'
    ·subst h';exact .inr ⟨rfl,by omega⟩
    ·have:(j - 48+1)*P≤(i - 48)*P:=Nat.mul_le_mul_right _ (by omega);rw[Nat.add_mul] at this;omega
theorem fR:KQ 0 IN=9223372036854775807:=by decide+kernel
theorem fS:KQ 0 IP=9223372036854775808:=by decide+kernel
theorem bV:∀c,c∈IN→DZ c:=by decide+kernel
theorem bW:∀c,c∈IP→DZ c:=by decide+kernel
theorem pw (l m:By) (hl:∀c,c∈l→DZ c) (hm:∀c,c∈m→DZ c) (he:l.length=m.length) (h:KQ 0 l=KQ 0 m):l=m:=by
 induction l generalizing m with
 | nil=>
  cases m with
  | nil=>rfl
  | cons=>cases he
 | cons a x ih=>
  cases m with
  | nil=>cases he
  | cons b y=>
   have ha:DZ a:=hl a (List.mem_cons_self ..);have hb:DZ b:=hm b (List.mem_cons_self ..);have hx:=SF x fun c hc=>hl c (List.mem_cons_of_mem _ hc)
   have hy:=SF y fun c hc=>hm c (List.mem_cons_of_mem _ hc)
   have iu:x.length=y.length:=by simpa using he
   simp only[FQ,Er] at h;rw[MN x,MN y,←iu] at h;rw[←iu] at hy;have ih:=ih y (fun c hc=>hl c (List.mem_cons_of_mem _ hc)) (fun c hc=>hm c (List.mem_cons_of_mem _ hc)) iu;obtain⟨a1,a2⟩:=ha;obtain⟨b1,b2⟩:=hb;have e2:a=b↔a.toNat=b.toNat:=UInt8.toNat_inj.symm;have Hh:a=b:=by
    rw[e2];generalize a.toNat=i at*;generalize b.toNat=j at*;generalize 10 ^ x.length=P at*;generalize KQ 0 x=u at*;generalize KQ 0 y=v at*;simp only[Nat.mul_zero,Nat.zero_add] at h;rcases Nat.lt_trichotomy i j with h' | h' | h'
    ·have:(i - 48+1)*P≤(j - 48)*P:=Nat.mul_le_mul_right _ (by omega);rw[Nat.add_mul] at this;omega
    ·exact h'
    ·have:(j - 48+1)*P≤(i - 48)*P:=Nat.mul_le_mul_right _ (by omega);rw[Nat.add_mul] at this;omega
   subst Hh;rw[ih (by omega)]
theorem bX (b:Bool):(if b then IP else IN).length=19:=by cases b <;>rfl
theorem fT (b:Bool):KQ 0 (if b then IP else IN)=if b then 9223372036854775808 else 9223372036854775807:=by
 cases b
 ·exact fR
 ·exact fS
theorem bY (b:Bool):∀c,c∈(if b then IP else IN)→DZ c:=by
 cases b
 ·exact bV
 ·exact bW
theorem Nz (b:Bool) (t:By) (h:∀c,c∈t→DZ c):Fy b t (if b then IP else IN)=false↔t≠[]∧KQ 0 t≤(if b then 9223372036854775808 else 9223372036854775807)∧(t.headD 0=48→t.length=1∧b=false):=by
 have hl:=bX b;have hd:=fT b;have hg:=bY b;generalize (if b then IP else IN)=m at*;rw[←hd];by_cases hn:t=[]
 ·subst hn;simp[Fy]
 ·have hp:0 < t.length:=List.length_pos_iff.2 hn;have hle:(¬m.length < t.length∧¬(t.length=m.length∧Op.bytesLess t m=false∧t≠m))↔(t.length≤19∧KQ 0 t≤KQ 0 m):=by
   rw[hl];by_cases h1:19 < t.length
   ·constructor
    ·intro hh;omega
    ·intro hh;omega
   ·by_cases h2:t.length=19
    ·have:=kP t m h hg (by rw[h2,hl]);rw[this];constructor
     ·intro hh;refine⟨by omega,?_⟩;rcases Nat.lt_trichotomy (KQ 0 t) (KQ 0 m) with h' | h' | h'
      ·omega
      ·omega
      ·exact absurd ⟨h2,by simp;omega,fun e=>by rw[e] at h';omega⟩ hh.2
     ·intro hh;refine⟨by omega,fun h3=> ?_⟩;simp only[decide_eq_false_iff_not] at h3;exact h3.2.2 (pw t m h hg (by rw[h2,hl]) (by omega))
    ·constructor
     ·intro hh;refine⟨by omega,?_⟩;have h3:=SF t h;have h4:10 ^ t.length≤10 ^ 18:=Nat.pow_le_pow_right (by decide) (by omega);rw[hd];split <;>omega
     ·intro hh;exact⟨by omega,fun h3=>h2 h3.1⟩
  have hlen:KQ 0 t≤KQ 0 m→(t.headD 0=48→t.length=1∧b=false)→t.length≤19:=by
   intro h1 h2;cases t with
   | nil=>exact absurd rfl hn
   | cons a x=>
    by_cases ha:a=48
    ·have:=(h2 (by simpa using ha)).1;omega
    ·have had:DZ a:=h a (List.mem_cons_self ..);have:a.toNat≠48:=fun e=>ha (UInt8.toNat_inj.1 e)
     have h48:=had.1;simp only[FQ,Er] at h1;rw[MN] at h1;rcases Nat.lt_or_ge 19 (a::x).length with h3 | h3
     ·exfalso;simp only[List.length_cons] at h3;have h4:10 ^ 19≤10 ^ x.length:=Nat.pow_le_pow_right (by decide) (by omega);have h5:1*10 ^ x.length≤(10*0+(a.toNat - 48))*10 ^ x.length:=Nat.mul_le_mul_right _ (by omega);rw[hd] at h1;have h6:(if b=true then 9223372036854775808 else 9223372036854775807)≤9223372036854775808:=by cases b <;>decide
      omega
     ·exact h3
  have BQ:t.isEmpty=false:=by cases t with | nil=>exact absurd rfl hn | cons=>rfl
  have hr:Fy b t m=false↔(¬m.length < t.length∧¬(t.length=m.length∧Op.bytesLess t m=false∧t≠m))∧(t.headD 0=48→t.length=1∧b=false):=by
   unfold Fy;rw[BQ,Bool.false_or];simp only[Bool.or_eq_false_iff,Bool.and_eq_false_imp,decide_eq_false_iff_not,beq_iff_eq,Bool.or_eq_false_iff,decide_eq_true_eq,Bool.not_eq_true',beq_eq_false_iff_ne,Bool.and_eq_true,ne_eq,beq_iff_eq];constructor
   ·rintro⟨⟨h1,h2⟩,h3⟩;refine⟨⟨h1,fun h4=> ?_⟩,fun h5=> ?_⟩
    ·have:=h2 h4.1 h4.2.1;simp only[Bool.not_eq_false',beq_iff_eq] at this;exact h4.2.2 this
    ·have:=h3 h5;exact⟨by omega,this.2⟩
   ·rintro⟨⟨h1,h2⟩,h3⟩;refine⟨⟨h1,fun h4 h5=> ?_⟩,fun h6=> ?_⟩
    ·simp only[Bool.not_eq_false',beq_iff_eq];exact Classical.byContradiction fun h7=>h2 ⟨h4,h5,h7⟩
    ·have:=h3 h6;exact⟨by omega,this.2⟩
  rw[hr,hle];constructor
  ·rintro⟨⟨h1,h2⟩,h3⟩;exact⟨hn,h2,h3⟩
  ·rintro⟨h1,h2,h3⟩;exact⟨⟨hlen h2 h3,h2⟩,h3⟩
theorem iX (t:By) (h:∀c,c∈t→DZ c):(t.headD 0==45)=false:=by
 cases t with
 | nil=>rfl
 | cons a r=>
  have:=(h a (List.mem_cons_self ..)).1;rw[beq_eq_false_iff_ne];intro h';have:a=45:=h';subst this;exact absurd this (by decide)
theorem Iz (v:Int) (h0: -9223372036854775808≤v) (h1:v≤9223372036854775807):number (Lib.itoa v)=some v:=by
 unfold Lib.itoa;by_cases hv:v < 0
 ·rw[if_pos hv];obtain⟨n,hn⟩:∃n,n=v.natAbs:=⟨_,rfl⟩;rw[←hn];have hd:=Fi n;unfold number;simp only[List.headD_cons,beq_self_eq_true,if_true,List.tail_cons];have hb:=(Nz true (Lib.decDigits n) hd).2 ⟨Fc n,by rw[Dn];simp only[if_true];omega,fun hh=>by have:=Mi n hh;omega⟩;simp only[if_true] at hb;rw[hb];have:=Ny true (Lib.decDigits n) hd 0 (by rw[Dn];simp only[if_true];omega);simp only[if_true,Int.natCast_zero,Int.neg_zero,Dn] at this;simp only[Bool.false_eq_true,if_false];rw[show(0:Int)= -((0:Nat):Int) by rfl];first | rw[this] | (simp at this⊢;rw[this])
  congr 1;omega
 ·rw[if_neg hv];obtain⟨n,hn⟩:∃n,n=v.toNat:=⟨_,rfl⟩;rw[←hn];have hd:=Fi n;unfold number;simp only[iX _ hd,Bool.false_eq_true,if_false];have hb:=(Nz false (Lib.decDigits n) hd).2 ⟨Fc n,by rw[Dn];simp only[Bool.false_eq_true,if_false];omega,fun hh=>by
    have:=Mi n hh;subst this;exact⟨by rw[Lib.decDigits];rfl,rfl⟩⟩
  simp only[Bool.false_eq_true,if_false] at hb;rw[hb];have:=Ny false (Lib.decDigits n) hd 0 (by rw[Dn];simp only[Bool.false_eq_true,if_false];omega);simp only[Bool.false_eq_true,if_false,Dn] at this⊢;simp at this⊢;rw[this];congr 1;omega
theorem WL {l:By} {v:Int} (h:number l=some v): -9223372036854775808≤v∧v≤9223372036854775807∧Lib.itoa v=l:=by
 unfold number at h;simp only[] at h;generalize hb:(l.headD 0==45)=b at h;by_cases Mb:Fy b (if b=true then l.tail else l) (if b=true then IP else IN)=true
 ·rw[if_pos Mb] at h;cases h
 ·rw[if_neg Mb] at h;have Mb:=Bool.eq_false_iff.2 Mb;have hd:=WN _ _ _ _ h;obtain⟨n1,n2,n3⟩:=(Nz b _ hd).1 Mb;have hv:=Ny b _ hd 0 n2;have e0:(if b then -((0:Nat):Int) else ((0:Nat):Int))=0:=by cases b <;>rfl
  rw[e0,h] at hv;have hv:=Option.some.inj hv;cases b with
  | false=>
   simp only[Bool.false_eq_true,if_false] at*;have e:=OA l hd n1 fun hh=>(n3 hh).1
   refine⟨by omega,by omega,?_⟩;unfold Lib.itoa;rw[if_neg (by omega),hv,Int.toNat_natCast,e]
  | true=>
   simp only[if_true] at*;have e:=OA l.tail hd n1 fun hh=>absurd (n3 hh).2 (by decide)
   have vl:0 < KQ 0 l.tail:=by
    rcases Nat.eq_zero_or_pos (KQ 0 l.tail) with h0 | h0
    ·rw[h0] at e;have e':Lib.decDigits 0=[48]:=by rw[Lib.decDigits];rfl
     rw[e'] at e;exact absurd (n3 (by rw[←e];rfl)).2 (by decide)
    ·exact h0
   refine⟨by omega,by omega,?_⟩;unfold Lib.itoa;rw[if_pos (by omega),hv,Int.natAbs_neg,Int.natAbs_natCast,e];cases l with
   | nil=>exact absurd hb (by decide)
   | cons c r=>
    have:c=45:=by simpa using hb
    rw[this];rfl
theorem WG (l:By) (h:∀c,c∈l→DZ c):∀a:Nat,KQ a l < 18446744073709551616→Lib.parseUint10 a l= .ok (KQ a l):=by
 induction l with
 | nil=>intro a _;rw[FQ];rfl
 | cons c r ih=>
  intro a ha;have hc:DZ c:=h c (List.mem_cons_self ..);obtain⟨h1,h2⟩:=hc;have V7:=Zo r (10*a+(c.toNat - 48));simp only[Er] at ha⊢;rw[←ih (fun x hx=>h x (List.mem_cons_of_mem _ hx)) _ ha]
  conv=>lhs;unfold Lib.parseUint10
  rw[if_pos ⟨h1,h2⟩,if_neg (by omega),if_neg (by omega),Nat.mul_comm]
theorem dE (v:Int) (h0: -9223372036854775808≤v) (h1:v≤9223372036854775807):Lib.atoiAll (Lib.itoa v)= .ok v:=by
 unfold Lib.itoa;by_cases hv:v < 0
 ·rw[if_pos hv];have hd:=Fi v.natAbs;unfold Lib.atoiAll;simp only[show(45:UInt8).toNat=45 from rfl,or_true,if_true,Lib.parseMag,Fc,if_false];rw[WG _ hd 0 (by rw[Dn];omega),Dn];simp only[not_true_eq_false,false_and,if_false,true_and];rw[if_neg (by omega)];congr 1;omega
 ·rw[if_neg hv];have hd:=Fi v.toNat;cases hl:Lib.decDigits v.toNat with
  | nil=>exact absurd hl (Fc _)
  | cons c r=>
   have hc:DZ c:=hd c (by rw[hl];exact List.mem_cons_self ..);obtain⟨c1,c2⟩:=hc;unfold Lib.atoiAll;simp only[Lib.parseMag];rw[if_neg (by omega:¬(c.toNat=43∨c.toNat=45)),←hl,if_neg (Fc _),WG _ hd 0 (by rw[Dn];omega),Dn];simp only[];rw[if_neg (by omega),if_neg (by omega),if_neg (by omega)];congr 1;omega
theorem Nx (l:By) (v:Int):number l=some v↔Lib.parseIntB 64 l= .ok v∧Lib.itoa v=l:=by
 rw[Lib.parseIntB_64];constructor
 ·intro h;obtain⟨h1,h2,h3⟩:=WL h;exact⟨by rw[←h3];exact dE v h1 h2,h3⟩
 ·rintro⟨h1,h2⟩;rw[←Lib.parseIntB_64] at h1;obtain⟨b1,b2⟩:=Lib.parseIntB_bounds h1;rw[←h2];exact Iz v (by
    have:((2 ^ (64 - 1):Nat):Int)=9223372036854775808:=by decide
    omega) (by
      have:((2 ^ (64 - 1):Nat):Int)=9223372036854775808:=by decide
      omega)
end Go.Proofs.YtpdfifdlhpmofaaGreatDoor
