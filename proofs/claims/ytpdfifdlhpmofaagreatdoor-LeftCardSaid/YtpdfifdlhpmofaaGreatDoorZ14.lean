/-
  Part 14 of the proof.
-/
import Derived.Test.YtpdfifdlhpmofaaGreatDoorZ10
set_option linter.unusedVariables false
set_option linter.unusedSimpArgs false
set_option maxHeartbeats 3200000
set_option maxRecDepth 100000
namespace Go.Proofs.YtpdfifdlhpmofaaGreatDoor
open Go.RowKit
open Go.Lib (hid)
theorem MS (c:UInt8) (l:By) (h:Lib.indexByte l c= -1):Ax c l=[l]:=by
 induction l with
 | nil=>rfl
 | cons x r ih=>
  unfold Lib.indexByte at h;by_cases hx:(x==c)=true
  ·rw[In hx] at h;cases h
  ·rw[I hx] at h;have EB:¬x=c:=by simpa using hx
   have h0:Lib.indexByte r c= -1:=by
    have:=Lib.indexByte_ge r c;by_cases h1:(Lib.indexByte r c== -1)=true
    ·simpa using h1
    ·rw[I h1] at h;omega
   show(if x=c then _ else _)=_;rw[I EB,ih h0]
theorem N8 (c:UInt8) (l:By) (i:Nat) (h:Lib.indexByte l c=i):Ax c l=l.take i::Ax c (l.drop (i+1))/\l.take (i+1)=l.take i++[c]/\i < l.length:=by
 induction l generalizing i with
 | nil=>unfold Lib.indexByte at h;omega
 | cons x r ih=>
  unfold Lib.indexByte at h;by_cases hx:(x==c)=true
  ·rw[In hx] at h;have EB:x=c:=by simpa using hx
   have h0:i=0:=Y
   subst h0;subst EB;exact⟨by show(if x=x then _ else _)=_;rw[In rfl];rfl,rfl,EQ⟩
  ·rw[I hx] at h;have EB:¬x=c:=by simpa using hx
   have:=Lib.indexByte_ge r c;by_cases h1:(Lib.indexByte r c== -1)=true
   ·rw[In h1] at h;exact UV h Y
   ·rw[I h1] at h;obtain⟨j,rfl⟩:∃j,i=j+1:=⟨i - 1,by have:Lib.indexByte r c≠ -1:=(fun e=>h1 (by rw[e];rfl));omega⟩;obtain⟨h2,h3,h4⟩:=ih j Y;refine⟨?_,?_,by simpa using h4⟩
    ·show(if x=c then _ else _)=_;rw[I EB,h2];rfl
    ·show x::r.take (j+1)=x::r.take j++[c];rw[h3];rfl
def OM (c:UInt8):List By->List By
 | []=>[]
 | [p]=>[p]
 | p::q::r=>(p++[c])::OM c (q::r)
theorem o9 (c:UInt8) (l:List By):(OM c l).length=l.length:=by
 induction l with
 | nil=>rfl
 | cons p l ih=>cases l with
  | nil=>rfl
  | cons q r=>simp only[OM,IR] at ih⊢;omega
theorem GL (c:UInt8):∀(n:Nat) (l:By),l.length<=n->(Ax c l).length=Lib.count l [c]+1:=by
 intro n;induction n with
 | zero=>
  intro l h;have:l=[]:=RK Y;subst this;rw[Lib.count_miss Do];rfl
 | succ n ih=>
  intro l h;rcases Classical.em (Lib.indexByte l c= -1) with h0 | h0
  ·rw[MS c l h0,Lib.count_miss (by rw[Lib.index_one];exact h0)];rfl
  ·obtain⟨i,hi⟩:∃i:Nat,Lib.indexByte l c=i:=⟨(Lib.indexByte l c).toNat,by have:=Lib.indexByte_ge l c;omega⟩;obtain⟨h1,_,h3⟩:=N8 c l i hi;rw[h1,Lib.count_hit (i:=i) EQ (by rw[Lib.index_one];exact hi),IR,ih _ (by simp;omega)];simp;omega
theorem mu (c:UInt8):∀(k:Nat) (l:By),(Ax c l).length<=k+1->Lib.splitK [c] 0 k l=Ax c l/\Lib.splitK [c] 1 k l=OM c (Ax c l):=by
 intro k;induction k with
 | zero=>
  intro l h;rcases Classical.em (Lib.indexByte l c= -1) with h0 | h0
  ·rw[MS c l h0];exact⟨rfl,rfl⟩
  ·obtain⟨i,hi⟩:∃i:Nat,Lib.indexByte l c=i:=⟨(Lib.indexByte l c).toNat,by have:=Lib.indexByte_ge l c;omega⟩;obtain⟨h1,_,_⟩:=N8 c l i hi;rw[h1,IR] at h;have:=Cb c (l.drop (i+1));have:0 < (Ax c (l.drop (i+1))).length:=Qae.2 this;omega
 | succ k ih=>
  intro l h;unfold Lib.splitK;rw[Lib.index_one];rcases Classical.em (Lib.indexByte l c= -1) with h0 | h0
  ·rw[MS c l h0,h0];exact⟨rfl,rfl⟩
  ·obtain⟨i,hi⟩:∃i:Nat,Lib.indexByte l c=i:=⟨(Lib.indexByte l c).toNat,by have:=Lib.indexByte_ge l c;omega⟩;obtain⟨h1,h2,_⟩:=N8 c l i hi;rw[h1,IR] at h;obtain⟨i1,i2⟩:=ih (l.drop (i+1)) Y;have Bi:(Lib.indexByte l c== -1)=false:=by rw[NE];exact h0
   rw[Bi,hi,h1];simp only[Qah,y4,Qbq,d5,Qaj];rw[i1,i2,h2];refine⟨rfl,?_⟩;cases hs:Ax c (l.drop (i+1)) with
   | nil=>exact UV hs (Cb _ _)
   | cons q r=>rfl
theorem YC (c:UInt8) (s:ByteArray) (gG:Nat) (hsv:gG=0\/gG=1):Lib.splitB ⟨#[c]⟩ gG (Lib.countB s ⟨#[c]⟩) s=(if gG=0 then Ax c (bs s) else OM c (Ax c (bs s))).map Ay:=by
 apply Q6;have h:=Lib.splitB_data ⟨#[c]⟩ gG (Lib.countB s ⟨#[c]⟩) s;have hb:(fun b:ByteArray=>b.data.toList)=bs:=rfl;rw[hb] at h;rw[h];have hc:(Ax c (bs s)).length=Lib.countB s ⟨#[c]⟩+1:=GL c _ (bs s) (LE _);obtain⟨i1,i2⟩:=mu c (Lib.countB s ⟨#[c]⟩) (bs s) Y;rcases hsv with rfl | rfl
 ·exact i1
 ·exact i2
def M9:By:=[97,98,99,100,101,102,103,104,105,106,107,108,109,110,111,112,113,114,115,116,117,118,119,120,121,122]
theorem P9 {α:Type} (p:α->Bool) (l:List α):l.dropWhile p=[]<->∀x,x∈l->p x=true:=by
 induction l with
 | nil=>simp
 | cons a l ih=>
  rw[List.dropWhile_cons];cases h:p a with
  | true=>simp[ih,h]
  | false=>simp[h]
theorem l8 (l cs:By):Lib.trimS l cs=[]<->∀x,x∈l->cs.contains x=true:=by
 unfold Lib.trimS Lib.trimLeftS Lib.trimRightS;rw[P9];constructor
 ·intro h;rcases Classical.em (l.reverse.dropWhile (cs.contains ·)=[]) with h0 | h0
  ·rw[P9] at h0;intro x hx;exact h0 x (Qdd.2 hx)
  ·have h1:=List.head_dropWhile_not (cs.contains ·) (l:=l.reverse) h0;have h2:=h _ (Qdd.2 (List.head_mem h0));rw[h1] at h2;cases h2
 ·intro h x hx;have h1:=(List.dropWhile_sublist _).subset (Qdd.1 hx);exact h x (Qdd.1 h1)
theorem Wk (b:UInt8):M9.contains b=low b:=by
 rw[U9];have h:∀n,n < 256->M9.contains (UInt8.ofNat n)=decide (97<=n/\n<=122):=by decide+kernel
 have:=h b.toNat b.toNat_lt;rw[UInt8.ofNat_toNat] at this;rw[this];congr 1;apply propext;omega
theorem Qx (s:By):Bg s=(decide (0 < s.length) && (decide (s.length<=6) && decide (Lib.trimS s M9=[]))):=by
 have:s.all low=decide (Lib.trimS s M9=[]):=by
  rw[Qcp,Qad,l8,Qa4];exact⟨fun h x hx=>by rw[Wk];exact h x hx,fun h x hx=>by rw[<-Wk];exact h x hx⟩
 unfold Bg;rw[this];cases decide (0 < s.length) <;>cases decide (s.length<=6) <;>simp
end Go.Proofs.YtpdfifdlhpmofaaGreatDoor
