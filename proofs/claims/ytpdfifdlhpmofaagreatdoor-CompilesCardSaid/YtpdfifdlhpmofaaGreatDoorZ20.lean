/-
  Part 20 of the proof, packed by program out of S1.
-/
import Derived.Test.YtpdfifdlhpmofaaGreatDoorZ12
import Derived.Lib.Split
import Derived.Lib.IndexBytes
import Derived.Lib.SlTrimSet
set_option linter.unusedVariables false
set_option linter.unusedSimpArgs false
set_option maxHeartbeats 3200000
set_option maxRecDepth 100000
namespace Go.Proofs.YtpdfifdlhpmofaaGreatDoor
open Go.RowKit
open Go.Lib (hid)
theorem La (c:UInt8) (l:By) (h:Lib.indexByte l c= -1):Ay c l=[l]:=by
 induction l with
 | nil=>rfl
 | cons x r ih=>
  unfold Lib.indexByte at h;by_cases hx:(x==c)=true
  ·rw[if_pos hx] at h;cases h
  ·rw[if_neg hx] at h;have Ff:¬x=c:=by simpa using hx
   have h0:Lib.indexByte r c= -1:=by
    have:=Lib.indexByte_ge r c;by_cases h1:(Lib.indexByte r c== -1)=true
    ·simpa using h1
    ·rw[if_neg h1] at h;omega
   show(if x=c then _ else _)=_;rw[if_neg Ff,ih h0]
theorem LQ (c:UInt8) (l:By) (i:Nat) (h:Lib.indexByte l c=i):Ay c l=l.take i::Ay c (l.drop (i+1))∧l.take (i+1)=l.take i++[c]∧i < l.length:=by
 induction l generalizing i with
 | nil=>unfold Lib.indexByte at h;omega
 | cons x r ih=>
  unfold Lib.indexByte at h;by_cases hx:(x==c)=true
  ·rw[if_pos hx] at h;have Ff:x=c:=by simpa using hx
   have h0:i=0:=by omega
   subst h0;subst Ff;exact⟨by show(if x=x then _ else _)=_;rw[if_pos rfl];rfl,rfl,by simp⟩
  ·rw[if_neg hx] at h;have Ff:¬x=c:=by simpa using hx
   have:=Lib.indexByte_ge r c;by_cases h1:(Lib.indexByte r c== -1)=true
   ·rw[if_pos h1] at h;exact absurd h (by omega)
   ·rw[if_neg h1] at h;obtain⟨j,rfl⟩:∃j,i=j+1:=⟨i - 1,by have:Lib.indexByte r c≠ -1:=(fun e=>h1 (by rw[e];rfl));omega⟩;obtain⟨h2,h3,h4⟩:=ih j (by omega);refine⟨?_,?_,by simpa using h4⟩
    ·show(if x=c then _ else _)=_;rw[if_neg Ff,h2];rfl
    ·show x::r.take (j+1)=x::r.take j++[c];rw[h3];rfl
def Mh (c:UInt8):List By→List By
 | []=>[]
 | [p]=>[p]
 | p::q::r=>(p++[c])::Mh c (q::r)
theorem dr (c:UInt8) (l:List By):(Mh c l).length=l.length:=by
 induction l with
 | nil=>rfl
 | cons p l ih=>cases l with
  | nil=>rfl
  | cons q r=>simp only[Mh,List.length_cons] at ih⊢;omega
theorem F5 (c:UInt8):∀(n:Nat) (l:By),l.length≤n→(Ay c l).length=Lib.count l [c]+1:=by
 intro n;induction n with
 | zero=>
  intro l h;have:l=[]:=List.eq_nil_of_length_eq_zero (by omega);subst this;rw[Lib.count_miss (by rfl)];rfl
 | succ n ih=>
  intro l h;rcases Classical.em (Lib.indexByte l c= -1) with h0 | h0
  ·rw[La c l h0,Lib.count_miss (by rw[Lib.index_one];exact h0)];rfl
  ·obtain⟨i,hi⟩:∃i:Nat,Lib.indexByte l c=i:=⟨(Lib.indexByte l c).toNat,by have:=Lib.indexByte_ge l c;omega⟩;obtain⟨h1,_,h3⟩:=LQ c l i hi;rw[h1,Lib.count_hit (i:=i) (by simp) (by rw[Lib.index_one];exact hi),List.length_cons,ih _ (by simp;omega)];simp;omega
theorem bq (c:UInt8):∀(k:Nat) (l:By),(Ay c l).length≤k+1→Lib.splitK [c] 0 k l=Ay c l∧Lib.splitK [c] 1 k l=Mh c (Ay c l):=by
 intro k;induction k with
 | zero=>
  intro l h;rcases Classical.em (Lib.indexByte l c= -1) with h0 | h0
  ·rw[La c l h0];exact⟨rfl,rfl⟩
  ·obtain⟨i,hi⟩:∃i:Nat,Lib.indexByte l c=i:=⟨(Lib.indexByte l c).toNat,by have:=Lib.indexByte_ge l c;omega⟩;obtain⟨h1,_,_⟩:=LQ c l i hi;rw[h1,List.length_cons] at h;have:=Cc c (l.drop (i+1));have:0 < (Ay c (l.drop (i+1))).length:=List.length_pos_iff.2 this;omega
 | succ k ih=>
  intro l h;unfold Lib.splitK;rw[Lib.index_one];rcases Classical.em (Lib.indexByte l c= -1) with h0 | h0
  ·rw[La c l h0,h0];exact⟨rfl,rfl⟩
  ·obtain⟨i,hi⟩:∃i:Nat,Lib.indexByte l c=i:=⟨(Lib.indexByte l c).toNat,by have:=Lib.indexByte_ge l c;omega⟩;obtain⟨h1,h2,_⟩:=LQ c l i hi;rw[h1,List.length_cons] at h;obtain⟨i1,i2⟩:=ih (l.drop (i+1)) (by omega);have BQ:(Lib.indexByte l c== -1)=false:=by rw[beq_eq_false_iff_ne];exact h0
   rw[BQ,hi,h1];simp only[Bool.false_eq_true,if_false,Int.toNat_natCast,List.length_singleton,Nat.add_zero];rw[i1,i2,h2];refine⟨rfl,?_⟩;cases hs:Ay c (l.drop (i+1)) with
   | nil=>exact absurd hs (Cc _ _)
   | cons q r=>rfl
theorem TY (c:UInt8) (s:ByteArray) (save:Nat) (hsv:save=0∨save=1):Lib.splitB ⟨#[c]⟩ save (Lib.countB s ⟨#[c]⟩) s=(if save=0 then Ay c (bs s) else Mh c (Ay c (bs s))).map AA:=by
 apply NX;have h:=Lib.splitB_data ⟨#[c]⟩ save (Lib.countB s ⟨#[c]⟩) s;have hb:(fun b:ByteArray=>b.data.toList)=bs:=rfl;rw[hb] at h;rw[h];have hc:(Ay c (bs s)).length=Lib.countB s ⟨#[c]⟩+1:=F5 c _ (bs s) (Nat.le_refl _);obtain⟨i1,i2⟩:=bq c (Lib.countB s ⟨#[c]⟩) (bs s) (by omega);rcases hsv with rfl | rfl
 ·exact i1
 ·exact i2
def Ll:By:=[97,98,99,100,101,102,103,104,105,106,107,108,109,110,111,112,113,114,115,116,117,118,119,120,121,122]
theorem Nh {α:Type} (p:α→Bool) (l:List α):l.dropWhile p=[]↔∀x,x∈l→p x=true:=by
 induction l with
 | nil=>simp
 | cons a l ih=>
  rw[List.dropWhile_cons];cases h:p a with
  | true=>simp[ih,h]
  | false=>simp[h]
theorem bf (l cs:By):Lib.trimS l cs=[]↔∀x,x∈l→cs.contains x=true:=by
 unfold Lib.trimS Lib.trimLeftS Lib.trimRightS;rw[Nh];constructor
 ·intro h;rcases Classical.em (l.reverse.dropWhile (cs.contains ·)=[]) with h0 | h0
  ·rw[Nh] at h0;intro x hx;exact h0 x (List.mem_reverse.2 hx)
  ·have h1:=List.head_dropWhile_not (cs.contains ·) (l:=l.reverse) h0;have h2:=h _ (List.mem_reverse.2 (List.head_mem h0));rw[h1] at h2;cases h2
 ·intro h x hx;have h1:=(List.dropWhile_sublist _).subset (List.mem_reverse.1 hx);exact h x (List.mem_reverse.1 h1)
theorem RM (b:UInt8):Ll.contains b=low b:=by
 rw[QL];have h:∀n,n < 256→Ll.contains (UInt8.ofNat n)=decide (97≤n∧n≤122):=by decide+kernel
 have:=h b.toNat b.toNat_lt;rw[UInt8.ofNat_toNat] at this;rw[this];congr 1;apply propext;omega
theorem NC (s:By):Bk s=(decide (0 < s.length) && (decide (s.length≤6) && decide (Lib.trimS s Ll=[]))):=by
 have:s.all low=decide (Lib.trimS s Ll=[]):=by
  rw[Bool.eq_iff_iff,decide_eq_true_eq,bf,List.all_eq_true];exact⟨fun h x hx=>by rw[RM];exact h x hx,fun h x hx=>by rw[←RM];exact h x hx⟩
 unfold Bk;rw[this];cases decide (0 < s.length) <;>cases decide (s.length≤6) <;>simp
end Go.Proofs.YtpdfifdlhpmofaaGreatDoor
