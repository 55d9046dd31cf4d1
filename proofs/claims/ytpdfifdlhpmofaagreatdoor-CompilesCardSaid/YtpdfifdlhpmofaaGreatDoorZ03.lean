/-
  Part 3 of the proof, packed by program out of W1, W2, W3, W4, W5.
-/
import Derived.Test.YtpdfifdlhpmofaaGreatDoorZ01
import Derived.WalkLawsBesides
import Derived.WalkSpells
import Derived.Lib.Explode
import Derived.Deep.DeepCutAuto
set_option linter.unusedVariables false
set_option linter.unusedSimpArgs false
set_option maxHeartbeats 3200000
set_option maxRecDepth 100000
namespace Go.Proofs.YtpdfifdlhpmofaaGreatDoor
open Go.RowKit
open Go.Lib (hid)
def low (c:UInt8):Bool:=97≤c && c≤122
def Bk (s:By):Bool:=s.all low && (decide (0 < s.length) && decide (s.length≤6))
theorem RD (l:By) (k:Nat) (hk:k < l.length) (h:low l[k]=false):Bk l=false:=by
 unfold Bk;have:l.all low=false:=by
  rw[List.all_eq_false];exact⟨l[k],List.getElem_mem hk,by simp[h]⟩
 simp[this]
theorem QL (c:UInt8):low c=decide (97≤(c.toNat:Int)∧(c.toNat:Int)≤122):=by
 unfold low;rw[Bool.eq_iff_iff];simp[UInt8.le_iff_toNat_le];omega
theorem Uj (s:ByteArray) (w:World) (hs:s.size≤maxLen):
  Calls Tryz.prog 54 #[.string s] w fun e w'=>e= .returned (.bool (Bk (bs s)))∧w'=w:=by
 unfold maxLen at hs;go_enter Tryz.func54,Tryz.ntmps54;go_wp2
 go_loop [3] (fun i=>∃k:Nat,k≤s.size∧i= .int .i64 k∧((bs s).take k).all low=true) (fun i=>s.size - (intOf i).toNat)
 case atStart=>exact⟨0,Nat.zero_le _,rfl,rfl⟩
 case round=>
  obtain⟨k,hk,rfl,FV⟩:=hrel;have TF:=hid FV;clear FV;by_cases Bi:k < s.size
  ·have hg:(bs s)[k]'(by rw[Bu];exact Bi)=s[k]:=rfl;have Hg:=hid hg;clear hg;go_wp2
   ·go_ret;refine⟨CU ?_,rfl⟩;rw[RD (bs s) k (by rw[Bu];exact Bi)];rw[Hg.out,QL,decide_eq_false_iff_not];omega
   ·go_round
    case rel=>
     refine⟨k+1,by omega,by go_num,?_⟩;rw[TC _ _ _ (by rw[Bu];exact Bi),TF.out,Hg.out,QL,Bool.true_and,decide_eq_true_eq];omega
    case measure=>simp[intOf];omega
   ·go_ret;refine⟨CU ?_,rfl⟩;rw[RD (bs s) k (by rw[Bu];exact Bi)];rw[Hg.out,QL,decide_eq_false_iff_not];omega
  ·have hE:(bs s).take k=bs s:=List.take_of_length_le (by rw[Bu];omega);have HE:=hid hE;clear hE;go_wp2;all_goals
    go_ret;refine⟨CU ?_,rfl⟩;have:=TF.out;rw[HE.out] at this;unfold Bk;rw[this,Bu,Bool.true_and];first | (rw[decide_eq_true (by assumption:0 < s.size),Bool.true_and];congr 1;exact propext ⟨fun _=>by omega,fun _=>by omega⟩) | (rw[decide_eq_false (by assumption:¬0 < s.size),Bool.false_and])
def D5 (below:Bool):By→Int→Option Int
 | [],v=>some v
 | c::r,v=>if (c.toNat:Int) < 48∨57 < (c.toNat:Int) then none else
   D5 below r (if below then wrap64 (wrap64 (10*v) - ((c.toNat:Int) - 48)) else wrap64 (wrap64 (10*v)+((c.toNat:Int) - 48)))
def IN:By:=[57,50,50,51,51,55,50,48,51,54,56,53,52,55,55,53,56,48,55]
def IP:By:=[57,50,50,51,51,55,50,48,51,54,56,53,52,55,55,53,56,48,56]
def Fy (below:Bool) (t:By) (B7:By):Bool:=
 t.isEmpty || decide (B7.length < t.length) || (decide (t.length=B7.length) && (!Op.bytesLess t B7 && !(t==B7))) || ((t.headD 0==48) && (decide (1 < t.length) || below))
def number (l:By):Option Int:=
 let below:=l.headD 0==45
 let t:=if below then l.tail else l
 if Fy below t (if below then IP else IN) then none else D5 below t 0
def J8 (l:By):Value:= .tuple #[.int .i64 ((number l).getD 0),.bool (number l).isSome]
theorem YH (B:Bool) (T M:ByteArray) (h:T.size=0):Fy B (bs T) (bs M)=true:=by
 have:(bs T)=[]:=List.eq_nil_of_length_eq_zero ((Bu T).trans h);simp[Fy,this]
theorem aD (T:ByteArray) (h:1≤T.size):(bs T).headD 0=T[0]:=by
 obtain⟨⟨l⟩⟩:=T;cases l with
 | nil=>exact absurd h (by decide)
 | cons c r=>rfl
theorem XD (s:ByteArray):bs (s.extract 1 s.size)=(bs s).tail:=by
 show(s.extract 1 s.size).data.toList=_;rw[Lib.extract_data];show((bs s).drop 1).take _=_;rw[List.take_of_length_le (by rw[List.length_drop,Bu];omega),List.drop_one]
theorem aC (c d:UInt8):(c==d)=decide ((c.toNat:Int)=(d.toNat:Int)):=by
 rw[Bool.eq_iff_iff,beq_iff_eq,decide_eq_true_eq];constructor
 ·intro h1;rw[h1]
 ·intro h1;apply UInt8.toNat_inj.1;omega
theorem bN (B:Bool) (T M:ByteArray) (h:1≤T.size):Fy B (bs T) (bs M)=
  (decide (M.size < T.size) || (decide (T.size=M.size) && (!Op.bytesLess T.toList M.toList && !(T.toList==M.toList))) || (decide ((T[0].toNat:Int)=48) && (decide (1 < T.size) || B))):=by
 have he:(bs T).isEmpty=false:=by
  rw[Bool.eq_false_iff];intro h0;rw[List.isEmpty_iff_length_eq_zero,Bu] at h0;omega
 unfold Fy;rw[he,aD T h,Bu,Bu,ByteArray.toList_eq,ByteArray.toList_eq,Bool.false_or,aC];rfl
theorem Mw (l:By) (B:Bool) (T M:By) (hB:(l.headD 0==45)=B) (hT:T=if B then l.tail else l) (hM:M=if B then IP else IN):
  number l=if Fy B T M then none else D5 B T 0:=by
 subst hB hT hM;rfl
theorem YG (l:By) (B:Bool) (T M:By) (hB:(l.headD 0==45)=B) (hT:T=if B then l.tail else l) (hM:M=if B then IP else IN) (hN:Fy B T M=true):
  J8 l= .tuple #[.int .i64 0,.bool false]:=by
 unfold J8;rw[Mw l B T M hB hT hM,if_pos hN];rfl
theorem PT (l:By) (B:Bool) (T M:By) (hB:(l.headD 0==45)=B) (hT:T=if B then l.tail else l) (hM:M=if B then IP else IN) (hN:Fy B T M=false)
  (h:D5 B T 0=none):J8 l= .tuple #[.int .i64 0,.bool false]:=by
 unfold J8;rw[Mw l B T M hB hT hM,if_neg (by rw[hN];simp),h];rfl
theorem WM (l:By) (B:Bool) (T M:By) (hB:(l.headD 0==45)=B) (hT:T=if B then l.tail else l) (hM:M=if B then IP else IN) (hN:Fy B T M=false)
  {v:Int} (h:D5 B T 0=some v):J8 l= .tuple #[.int .i64 v,.bool true]:=by
 unfold J8;rw[Mw l B T M hB hT hM,if_neg (by rw[hN];simp),h];rfl
theorem Jw (s:ByteArray) (w:World) (hs:s.size≤maxLen):
  Calls Tryz.prog 86 #[.string s] w fun e w'=>e= .returned (J8 (bs s))∧w'=w:=by
 unfold maxLen at hs;go_enter Tryz.func86,Tryz.ntmps86;go_upto_region 2 with(fail)
 go_cut [5] (fun b w'=>w'=w∧b= .bool ((bs s).headD 0==45))
 case first=>
  by_cases h0:s.size=0
  ·have HE:=hid (show(bs s).headD 0=0 by rw[List.eq_nil_of_length_eq_zero ((Bu s).trans h0)];rfl);go_wp2;all_goals go_meet
   refine⟨rfl,?_⟩;rw[HE.out];rfl
  ·have h1:1≤s.size:=by omega
   have HE:=hid (aD s h1);clear h0;go_wp2;all_goals go_meet
   refine⟨rfl,?_⟩;rw[HE.out,aC];rfl
 case rest=>
  obtain⟨rfl,rfl⟩:=hcut;generalize hB:((bs s).headD 0==45)=B;have HB:=hid hB;clear hB
  go_upto_if 19 with(fail)
  go_cut [4] (fun t w'=>w'=wc∧∃T:ByteArray,t= .string T∧bs T=(if B then (bs s).tail else bs s))
  case first=>
   cases B
   ·go_wp2
    go_meet
    exact⟨rfl,s,rfl,rfl⟩
   ·have h1:1≤s.size:=by
     rcases Nat.eq_zero_or_pos s.size with h | h
     ·have:=HB.out;rw[List.eq_nil_of_length_eq_zero ((Bu s).trans h)] at this;exact absurd this (by decide)
     ·exact h
    have HX:=hid (XD s);go_wp2
    go_meet
    exact⟨rfl,_,rfl,HX.out⟩
  case rest=>
   obtain⟨hw,T,rfl,hT⟩:=hcut;obtain rfl:=hw;have HT:=hid hT;clear hT
   go_upto_if 22 with(fail)
   go_cut [6] (fun m w'=>w'=wc∧∃M:ByteArray,m= .string M∧bs M=(if B then IP else IN))
   case first=>
    cases B
    ·go_wp2
     go_meet
     exact⟨rfl,_,rfl,rfl⟩
    ·go_wp2
     go_meet
     exact⟨rfl,_,rfl,rfl⟩
   case rest=>
    obtain⟨hw,M,rfl,hM⟩:=hcut;obtain rfl:=hw;have HM:=hid hM;clear hM;go_upto_region 8 with(fail)
    go_cut [56] (fun m w'=>w'=wc∧m= .bool (Fy B (bs T) (bs M)))
    case first=>
     by_cases sE:T.size=0
     ·have he:T.toList.isEmpty=true:=by rw[ByteArray.toList_eq,List.isEmpty_iff_length_eq_zero];exact(Bu T).trans sE
      have HB:=hid (YH B T M sE);clear sE;go_wp2;all_goals go_meet
      rw[HB.out];exact⟨rfl,rfl⟩
     ·have he:T.toList.isEmpty=false:=by rw[ByteArray.toList_eq,Bool.eq_false_iff];intro h;rw[List.isEmpty_iff_length_eq_zero] at h;exact sE ((Bu T).symm.trans h)
      have h1:1≤T.size:=by omega
      have HN:=hid (bN B T M h1);clear sE;go_wp2;all_goals go_meet
      all_goals (refine⟨rfl,?_⟩;rw[HN.out])
      all_goals first | (congr 1;grind) | (exfalso;grind) | skip
    case rest=>
     obtain⟨hw,rfl⟩:=hcut;obtain rfl:=hw;generalize hN:Fy B (bs T) (bs M)=N;have HN:=hid hN;clear hN;cases N
     ·go_wp2;have hTs:T.size≤s.size:=by
       rw[←Bu T,HT.out,←Bu s];cases B
       ·exact Nat.le_refl _
       ·show(bs s).tail.length≤_;rw[List.length_tail];omega
      go_loop [8,7] (fun i v=>∃(k:Nat) (x:Int),k≤T.size∧i= .int .i64 k∧v= .int .i64 x∧D5 B ((bs T).drop k) x=D5 B (bs T) 0) (fun i _=>T.size - (intOf i).toNat)
      case atStart=>exact⟨0,0,Nat.zero_le _,rfl,rfl,rfl⟩
      case round=>
       obtain⟨k,x,hk,rfl,rfl,hx⟩:=hrel;by_cases Bi:k < T.size
       ·have Ma:(bs T).drop k=T[k]::(bs T).drop (k+1):=List.drop_eq_getElem_cons (by rw[Bu];exact Bi);rw[Ma] at hx;have HX:=hid hx;clear hx Ma;cases B;all_goals
         go_wp2
         ·go_ret2;refine⟨Lc ?_,rfl⟩;rw[PT _ _ _ _ HB.out HT.out HM.out HN.out (by rw[←HX.out];unfold D5;rw[if_pos (by omega)])];rfl
         ·go_roundw;case rel=>
           refine⟨k+1,_,by omega,by go_num,rfl,?_⟩;rw[←HX.out];conv=>rhs;unfold D5
           rw[if_neg (by omega)];rfl
          case measure=>simp[intOf];omega
         ·go_ret2;refine⟨Lc ?_,rfl⟩;rw[PT _ _ _ _ HB.out HT.out HM.out HN.out (by rw[←HX.out];unfold D5;rw[if_pos (by omega)])];rfl
       ·rw[List.drop_of_length_le (by rw[Bu];omega)] at hx;have HX:=hid hx;clear hx;go_wp2;go_ret2;refine⟨Lc ?_,rfl⟩;rw[WM _ _ _ _ HB.out HT.out HM.out HN.out HX.out.symm];rfl
     ·go_wp2;go_ret2;refine⟨Lc ?_,rfl⟩;rw[YG _ _ _ _ HB.out HT.out HM.out HN.out];rfl
def Sl (w:World) (ok:Nat→Prop) (v:Value) (xs:List Value):Prop:=
 xs.length≤maxLen∧((v= .slice none 0 0∧xs=[])∨
  ∃b off cap,v= .slice (some ⟨b,off,none⟩) xs.length cap∧xs.length≤cap∧cap≤maxLen∧ok b∧b < w.heap.size∧∀i,(h:i < xs.length)→w.cell? ⟨b,off+i,none⟩=some xs[i])
theorem Sl.mono {w:World} {ok ok':Nat→Prop} {v:Value} {xs:List Value} (h:Sl w ok v xs) (hk:∀b,b < w.heap.size→ok b→ok' b):Sl w ok' v xs:=by
 obtain⟨hm,h | ⟨b,off,cap,rfl,h1,h2,h3,h4,h5⟩⟩:=h
 ·exact⟨hm,.inl h⟩
 ·exact⟨hm,.inr ⟨b,off,cap,rfl,h1,h2,hk b h4 h3,h4,h5⟩⟩
theorem Sl.Bh {M:List Nat} {w w':World} {ok:Nat→Prop} {v:Value} {xs:List Value} (h:Sl w ok v xs) (k:Av M w w') (hM:∀b,ok b→b∉M):Sl w' ok v xs:=by
 obtain⟨hm,h | ⟨b,off,cap,rfl,h1,h2,h3,h4,h5⟩⟩:=h
 ·exact⟨hm,.inl h⟩
 ·refine⟨hm,.inr ⟨b,off,cap,rfl,h1,h2,h3,Nat.lt_of_lt_of_le h4 k.size,fun i hi=> ?_⟩⟩;rw[←h5 i hi];exact World.cell?_of_block (w:=w) (k.block b h4 (hM b h3))
theorem Sl.JF {w:World} {ok:Nat→Prop} {v:Value} {xs:List Value} (h:Sl w ok v xs):∃p cap,v= .slice p xs.length cap∧xs.length≤cap∧cap≤maxLen:=by
 obtain⟨hm,⟨rfl,rfl⟩ | ⟨b,off,cap,rfl,h1,h2,h3,h4,h5⟩⟩:=h
 ·exact⟨none,0,rfl,Nat.le_refl _,Nat.zero_le _⟩
 ·exact⟨_,_,rfl,h1,h2⟩
def AY (l:List ByteArray):List Value:=l.map Value.string
theorem Cy (l:List ByteArray):(AY l).length=l.length:=List.length_map _
def DC:List ByteArray→ByteArray→Nat→Int
 | [],_,_=> -1
 | a::r,x,k=>if bs a=bs x then k else DC r x (k+1)
def Bf (l:List ByteArray) (x:ByteArray):Int:=DC l x 0
theorem PD {a b:ByteArray} (h:bs a=bs b):(a.toList==b.toList)=true:=by
 rw[ByteArray.toList_eq,ByteArray.toList_eq,beq_iff_eq];exact h
theorem N0 {a b:ByteArray} (h:¬bs a=bs b):(a.toList==b.toList)=false:=by
 rw[ByteArray.toList_eq,ByteArray.toList_eq,beq_eq_false_iff_ne];exact h
theorem FH (l:List ByteArray) (x:ByteArray) (v:Value) (w:World) (ok:Nat→Prop) (hv:Sl w ok v (AY l)):
  Calls Tryz.prog 58 #[v,.string x] w fun e w'=>e= .returned (.int .i64 (Bf l x))∧w'=w:=by
 obtain⟨hm,⟨rfl,hn⟩ | ⟨b,off,cap,rfl,h1,h2,h3,h4,h5⟩⟩:=hv
 ·have hl:l=[]:=by cases l with | nil=>rfl | cons a r=>simp[AY] at hn
  subst hl;clear hn hm;go_enter Tryz.func58,Tryz.ntmps58;go_wp2
  go_loop [5] (fun i=>i= .int .i64 0) (fun _=>0)
  case atStart=>rfl
  case round=>
   obtain rfl:=hrel;go_wp2;go_ret;exact⟨rfl,rfl⟩
 ·rw[Cy] at hm h1⊢;unfold maxLen at hm h2;clear h3 h4;have H5:=hid h5;clear h5;go_enter Tryz.func58,Tryz.ntmps58;go_wp2
  go_loop [5] (fun i=>∃k:Nat,k≤l.length∧i= .int .i64 k∧DC (l.drop k) x k=Bf l x) (fun i=>l.length - (intOf i).toNat)
  case atStart=>exact⟨0,Nat.zero_le _,rfl,rfl⟩
  case round=>
   obtain⟨k,hk,rfl,hp⟩:=hrel;by_cases Bi:k < l.length
   ·have hc:=H5.out k (by rw[Cy];exact Bi);simp only[AY,List.getElem_map] at hc;rw[List.drop_eq_getElem_cons Bi] at hp;by_cases he:bs l[k]=bs x
    ·have hq:=PD he;have HP:=hid (show Bf l x=(k:Int) by rw[←hp];simp only[DC];rw[if_pos he]);clear hp he;go_wp2;go_ret;exact⟨ZW HP.out.symm,rfl⟩
    ·have hq:=N0 he;have HP:=hid (show DC (l.drop (k+1)) x (k+1)=Bf l x by rw[←hp];simp only[DC];rw[if_neg he]);clear hp he;go_wp2
     go_round
     case rel=>exact⟨k+1,by omega,by go_num,HP.out⟩
     case measure=>simp[intOf];omega
   ·rw[List.drop_of_length_le (by omega)] at hp;have HP:=hid hp;clear hp;go_wp2;go_ret;exact⟨ZW HP.out,rfl⟩
theorem jn (s:ByteArray) (w:World) (hs:s.size≤maxLen):
  Calls Tryz.prog 55 #[.string s] w fun e w'=>e= .returned (.bool (Bk (bs s) || (number (bs s)).isSome))∧w'=w:=by
 unfold maxLen at hs;generalize hb:Bk (bs s)=b;generalize hn:number (bs s)=n;have h1:Calls Tryz.prog 54 #[.string s] w fun e w'=>e= .returned (.bool b)∧w'=w:=by rw[←hb];exact Uj s w hs
 have h2:Calls Tryz.prog 86 #[.string s] w fun e w'=>e= .returned (.tuple #[.int .i64 (n.getD 0),.bool n.isSome])∧w'=w:=by rw[←hn];exact Jw s w hs
 have H1:=hid h1;have H2:=hid h2;clear h1 h2 hb hn;generalize n.getD 0=x at*;generalize n.isSome=c at*;cases b <;>cases c <;>(
   go_enter Tryz.func55,Tryz.ntmps55;go_wp2_with (first | (go_at_call 54;refine H1.out.mono ?_;rintro e w' ⟨rfl,rfl⟩) | (go_at_call 86;refine H2.out.mono ?_;rintro e w' ⟨rfl,rfl⟩));go_ret;exact⟨rfl,rfl⟩)
def Fz (s:By) (B7:Int):Bool:=match number s with
 | some v=>decide (1≤v) && decide (v≤B7)
 | none=>false
theorem YR (s:ByteArray) (m:Int) (w:World) (hs:s.size≤maxLen):
  Calls Tryz.prog 56 #[.string s,.int .i64 m] w fun e w'=>e= .returned (.bool (Fz (bs s) m))∧w'=w:=by
 unfold maxLen at hs;unfold Fz;have h2:=Jw s w hs;unfold J8 at h2;generalize number (bs s)=n at*;have H2:=hid h2;clear h2;cases n with
 | none=>
  go_enter Tryz.func56,Tryz.ntmps56;go_wp2_with (first | (go_at_call 86;refine H2.out.mono ?_;rintro e w' ⟨rfl,rfl⟩));go_ret;exact⟨rfl,rfl⟩
 | some v=>
  by_cases h1:1≤v <;>by_cases h3:v≤m <;>(
    go_enter Tryz.func56,Tryz.ntmps56;go_wp2_with (first | (go_at_call 86;refine H2.out.mono ?_;rintro e w' ⟨rfl,rfl⟩));go_ret;exact⟨CU (by simp[*]),rfl⟩)
theorem Sl.new {w:World} (xs:List Value) (T:TypeId) (n:Nat) (hn:xs.length=n) (hb:n≤1000) (ok:Nat→Prop) (Qq:ok w.heap.size):
  Sl (w.alloc (.cells xs.toArray T)) ok (.slice (some ⟨w.heap.size,0,none⟩) n n) xs:=by
 subst hn;refine⟨by unfold maxLen;omega,.inr ⟨w.heap.size,0,xs.length,rfl,Nat.le_refl _,by unfold maxLen;omega,Qq,by show _ < (w.heap.push _).size;rw[Array.size_push];omega,fun i hi=> ?_⟩⟩;rw[(BR.new w xs.toArray T).cell];simp[hi]
def Dc:List ByteArray:=[⟨#[43]⟩,⟨#[45]⟩,⟨#[42]⟩,⟨#[47]⟩,⟨#[37]⟩,⟨#[38]⟩,⟨#[124]⟩,⟨#[94]⟩,⟨#[60,60]⟩,⟨#[62,62]⟩,⟨#[60]⟩,⟨#[61,61]⟩]
def Cn:List ByteArray:=[⟨#[97,100,100]⟩,⟨#[115,117,98]⟩,⟨#[109,117,108]⟩,⟨#[100,105,118]⟩,⟨#[109,111,100]⟩,⟨#[97,110,100]⟩,⟨#[111,114]⟩,⟨#[120,111,114]⟩,⟨#[115,104,108]⟩,⟨#[115,104,114]⟩,⟨#[108,116]⟩,⟨#[101,113]⟩]
def XM (l:List ByteArray) (w:World) (e:Ending) (w':World):Prop:=
 ∃v,e= .returned v∧Av [] w w'∧Sl w' (fun b=>w.heap.size≤b) v (AY l)
theorem T0 (w:World):Calls Tryz.prog 57 #[] w (XM Dc w):=by
 go_enter Tryz.func57,Tryz.ntmps57;go_wp2;go_ret;exact⟨_,rfl,(Av.refl _ _).alloc _,Sl.new (AY Dc) 9 12 rfl (by omega) _ (Nat.le_refl _)⟩
theorem TK (w:World):Calls Tryz.prog 88 #[] w (XM Cn w):=by
 go_enter Tryz.func88,Tryz.ntmps88;go_wp2;go_ret;exact⟨_,rfl,(Av.refl _ _).alloc _,Sl.new (AY Cn) 9 12 rfl (by omega) _ (Nat.le_refl _)⟩
def pL (r:Bool) (w:World) (e:Ending) (w':World):Prop:=e= .returned (.bool r)∧Av [] w w'
def CO (s:By):Bool:=Bk s || (number s).isSome
def AN:By:=[115,104,97,114,101,100]
def AE:By:=[116,104,114,101,97,100]
def D7:By:=[101,110,100]
def AF:By:=[97,116,111,109,105,99]
def CK:By:=[115,101,116]
def Cw:By:=[103,101,116]
def CL:By:=[112,117,116]
def Ds:By:=[111,117,116]
def I8:By:=[105,102]
def C6:By:=[108,111,111,112]
def YY:By:=[97,116]
def wd (l:List ByteArray) (i:Nat):ByteArray:=l.getD i ByteArray.empty
def ET (x:By) (n:Nat) (a b c g p v k1 l6 l4:Bool):Bool:=
 if x=AN then a && (decide (n=2) || (decide (n=3) && l6))
 else if x=AE then decide (n=1) else if x=D7 then decide (n=1) else if x=AF then decide (n=1)
 else if x=CK then a && b && (decide (n=3) || (decide (n=5) && (p && v)))
 else if x=Cw then a && (decide (2 < n) && g) && (decide (n=3) || (decide (n=5) && c))
 else if x=CL then a && b && (decide (n=3) || (decide (n=5) && c))
 else if x=Ds then decide (n=2) && k1 else if x=I8 then decide (n=2) && k1
 else if x=C6 then decide (n=2) && l4
 else false
def Bz (l:List ByteArray):Bool:=
 ET (bs (wd l 0)) l.length (decide (1 < l.length) && Bk (bs (wd l 1))) (decide (2 < l.length) && CO (bs (wd l 2)))
  (decide (4 < l.length) && (decide (bs (wd l 3)=YY) && CO (bs (wd l 4)))) (Bk (bs (wd l 2))) (decide (0≤Bf Dc (wd l 3))) (CO (bs (wd l 4)))
  (CO (bs (wd l 1))) (Fz (bs (wd l 2)) 6) (Fz (bs (wd l 1)) 4)
theorem Sl.Kl {w:World} {b off:Nat} {l:List ByteArray} (h:∀i,(hi:i < (AY l).length)→w.cell? ⟨b,off+i,none⟩=some (AY l)[i]) (i:Nat) (hi:i < l.length):
  w.cell? ⟨b,off+i,none⟩=some (.string (wd l i)):=by
 rw[h i (by rw[Cy];exact hi)];simp[AY,wd,hi]
theorem BN {x:ByteArray} {k:By} (h:bs x=k):(x.toList==k)=true:=by rw[ByteArray.toList_eq,beq_iff_eq];exact h
theorem Ar {x:ByteArray} {k:By} (h:¬bs x=k):(x.toList==k)=false:=by rw[ByteArray.toList_eq,beq_eq_false_iff_ne];exact h
theorem GO {l:List ByteArray} (h:∀s,s∈l→s.size≤maxLen) (i:Nat):(wd l i).size≤maxLen:=by
 unfold wd;rcases Nat.lt_or_ge i l.length with hi | hi
 ·rw[List.getD_eq_getElem?_getD,List.getElem?_eq_getElem hi];exact h _ (List.getElem_mem hi)
 ·rw[List.getD_eq_getElem?_getD,List.getElem?_eq_none hi];exact Nat.zero_le _
theorem gd (l:List ByteArray) (v:Value) (w:World) (ok:Nat→Prop) (hv:Sl w ok v (AY l)) (BQ:l≠[]) (hs:∀s,s∈l→s.size≤maxLen):
  Calls Tryz.prog 36 #[v] w (pL (Bz l) w):=by
 have hlen:0 < l.length:=by cases l with | nil=>exact absurd rfl BQ | cons a r=>simp
 obtain⟨hm,⟨rfl,hn⟩ | ⟨b,off,cap,rfl,h1,h2,h3,h4,h5⟩⟩:=hv
 ·exact absurd (by cases l with | nil=>rfl | cons a r=>simp[AY] at hn) BQ
 rw[Cy] at hm h1⊢;unfold maxLen at hm h2;have c0:=Sl.Kl h5 0 hlen;simp only[Nat.add_zero] at c0;have H5:=hid (Sl.Kl h5);have S:=fun i=>GO hs i
 have HS:=hid S;have HN:=fun (s:ByteArray) (hs:s.size≤maxLen) (w:World)=>Uj s w hs
 have HA:=fun (s:ByteArray) (hs:s.size≤maxLen) (w:World)=>jn s w hs
 have HL:=fun (s:ByteArray) (m:Int) (hs:s.size≤maxLen) (w:World)=>YR s m w hs
 have Wa:=hid HN;have TH:=hid HA;have IW:=hid HL;clear h5 h3 h4 hs S HN HA HL BQ;generalize hX:wd l 0=x at c0;have HX:=hid hX;clear hX;go_enter Tryz.func36,Tryz.ntmps36;go_upto_region 3 with(fail)
 go_cut [5] (fun a w'=>w'=w∧a= .bool (decide (1 < l.length) && Bk (bs (wd l 1))))
 case first=>
  by_cases hk:1 < l.length
  ·have c1:=H5.out 1 hk;have hK:=hid (decide_eq_true hk);go_wp2_with (go_at_call 54;refine(Wa.out _ (HS.out 1) _).mono ?_;rintro e w' ⟨rfl,rfl⟩)
   go_meet
   exact⟨rfl,by rw[hK.out,Bool.true_and]⟩
  ·have hK:=hid (decide_eq_false hk);go_wp2
   go_meet
   exact⟨rfl,by rw[hK.out,Bool.false_and]⟩
 case rest=>
  obtain⟨hw,rfl⟩:=hcut;obtain rfl:=hw;generalize hA:(decide (1 < l.length) && Bk (bs (wd l 1)))=A;have XR:=hid hA;clear hA;go_upto_region 4 with(fail)
  go_cut [6] (fun a w'=>w'=wc∧a= .bool (decide (2 < l.length) && CO (bs (wd l 2))))
  case first=>
   by_cases hk:2 < l.length
   ·have c1:=H5.out 2 hk;have hK:=hid (decide_eq_true hk);go_wp2_with (go_at_call 55;refine(TH.out _ (HS.out 2) _).mono ?_;rintro e w' ⟨rfl,rfl⟩)
    go_meet
    exact⟨rfl,by rw[hK.out,Bool.true_and];rfl⟩
   ·have hK:=hid (decide_eq_false hk);go_wp2
    go_meet
    exact⟨rfl,by rw[hK.out,Bool.false_and]⟩
  case rest=>
   obtain⟨hw,rfl⟩:=hcut;obtain rfl:=hw;generalize hB:(decide (2 < l.length) && CO (bs (wd l 2)))=B;have XQ:=hid hB;clear hB
   go_upto_if 35 with(fail)
   go_cut [7] (fun a w'=>w'=wc∧a= .bool (decide (4 < l.length) && (decide (bs (wd l 3)=YY) && CO (bs (wd l 4)))))
   case first=>
    by_cases hk:4 < l.length
    ·have c1:=H5.out 3 (by omega);have c2:=H5.out 4 hk;have hK:=hid (decide_eq_true hk);by_cases he:bs (wd l 3)=YY
     ·have hq:=BN he;have hE:=hid (decide_eq_true he);clear he;unfold YY at hq;go_wp2_with (go_at_call 55;refine(TH.out _ (HS.out 4) _).mono ?_;rintro e w' ⟨rfl,rfl⟩)
      go_meet
      exact⟨rfl,by rw[hK.out,hE.out,Bool.true_and,Bool.true_and];rfl⟩
     ·have hq:=Ar he;have hE:=hid (decide_eq_false he);clear he;unfold YY at hq;go_wp2
      go_meet
      exact⟨rfl,by rw[hK.out,hE.out,Bool.true_and,Bool.false_and]⟩
    ·have hK:=hid (decide_eq_false hk);go_wp2
     go_meet
     exact⟨rfl,by rw[hK.out,Bool.false_and]⟩
   case rest=>
    obtain⟨hw,rfl⟩:=hcut;obtain rfl:=hw;generalize hC:(decide (4 < l.length) && (decide (bs (wd l 3)=YY) && CO (bs (wd l 4))))=C;have XP:=hid hC;clear hC;have zQ:Bz l=ET (bs x) l.length A B C (Bk (bs (wd l 2))) (decide (0≤Bf Dc (wd l 3))) (CO (bs (wd l 4))) (CO (bs (wd l 1))) (Fz (bs (wd l 2)) 6) (Fz (bs (wd l 1)) 4):=by
     rw[←HX.out,←XR.out,←XQ.out,←XP.out];rfl
    have MT:=hid zQ;clear zQ;by_cases ML:bs x=AN
    ·have qShared:=BN ML;have HF:=hid (show Bz l=(A && (decide (l.length=2) || (decide (l.length=3) && Fz (bs (wd l 2)) 6))) from MT.out.trans (by rw[ML];rfl));clear ML;unfold AN at qShared;by_cases n3:l.length=3
     ·have c2:=H5.out 2 (by omega);go_wp2_with (go_at_call 56;refine(IW.out _ _ (HS.out 2) _).mono ?_;rintro e w' ⟨rfl,rfl⟩);all_goals (go_ret;refine⟨CU ?_,Av.refl _ _⟩;rw[HF.out];clear HF MT XR XQ XP HX Wa TH IW H5 HS;first | grind | (cases A <;>cases B <;>cases C <;>first | grind | simp_all))
     ·go_wp2;all_goals (go_ret;refine⟨CU ?_,Av.refl _ _⟩;rw[HF.out];clear HF MT XR XQ XP HX Wa TH IW H5 HS;first | grind | (cases A <;>cases B <;>cases C <;>first | grind | simp_all))
    have qShared:=Ar ML;unfold AN at qShared;by_cases MK:bs x=AE
    ·have qThread:=BN MK;have HF:=hid (show Bz l=(decide (l.length=1)) from MT.out.trans (by rw[MK];rfl));clear MK;unfold AE at qThread;go_wp2;all_goals (go_ret;refine⟨CU ?_,Av.refl _ _⟩;rw[HF.out];clear HF MT XR XQ XP HX Wa TH IW H5 HS;first | grind | (cases A <;>cases B <;>cases C <;>first | grind | simp_all))
    have qThread:=Ar MK;unfold AE at qThread;by_cases de:bs x=D7
    ·have qEnd:=BN de;have HF:=hid (show Bz l=(decide (l.length=1)) from MT.out.trans (by rw[de];rfl));clear de;unfold D7 at qEnd;go_wp2;all_goals (go_ret;refine⟨CU ?_,Av.refl _ _⟩;rw[HF.out];clear HF MT XR XQ XP HX Wa TH IW H5 HS;first | grind | (cases A <;>cases B <;>cases C <;>first | grind | simp_all))
    have qEnd:=Ar de;unfold D7 at qEnd;by_cases MM:bs x=AF
    ·have qAtomic:=BN MM;have HF:=hid (show Bz l=(decide (l.length=1)) from MT.out.trans (by rw[MM];rfl));clear MM;unfold AF at qAtomic;go_wp2;all_goals (go_ret;refine⟨CU ?_,Av.refl _ _⟩;rw[HF.out];clear HF MT XR XQ XP HX Wa TH IW H5 HS;first | grind | (cases A <;>cases B <;>cases C <;>first | grind | simp_all))
    have qAtomic:=Ar MM;unfold AF at qAtomic;by_cases cX:bs x=CK
    ·have qSet:=BN cX;have HF:=hid (show Bz l=(A && B && (decide (l.length=3) || (decide (l.length=5) && (decide (0≤Bf Dc (wd l 3)) && CO (bs (wd l 4)))))) from MT.out.trans (by rw[cX];rfl));clear cX;unfold CK at qSet;by_cases n5:l.length=5
     ·have c3:=H5.out 3 (by omega);have c4:=H5.out 4 (by omega);have Ey:=Gp c0;go_wp2_with fail;refine(T0 _).mono ?_;rintro e w1 ⟨v1,rfl,C9,JX⟩;have c3':=(BB C9 c3);have c4':=(BB C9 c4);have HP:=hid (FH Dc (wd l 3) v1 w1 _ JX);generalize hP:Bf Dc (wd l 3)=P at HF HP;have HPe:=hid hP;clear hP;have HM:=hid C9;clear C9 JX;go_wp2_with fail;refine(HP.out).mono ?_;rintro e w2 ⟨rfl,rfl⟩;go_wp2_with (go_at_call 55;refine(TH.out _ (HS.out 4) _).mono ?_;rintro e w' ⟨rfl,rfl⟩);all_goals (go_ret;refine⟨CU ?_,HM.out⟩;rw[HF.out];clear HPe HP HF MT XR XQ XP HX Wa TH IW H5 HS HM;first | grind | (simp only[CO];grind))
     ·go_wp2;all_goals (go_ret;refine⟨CU ?_,Av.refl _ _⟩;rw[HF.out];clear HF MT XR XQ XP HX Wa TH IW H5 HS;first | grind | (cases A <;>cases B <;>cases C <;>first | grind | simp_all))
    have qSet:=Ar cX;unfold CK at qSet;by_cases da:bs x=Cw
    ·have qGet:=BN da;have HF:=hid (show Bz l=(A && (decide (2 < l.length) && Bk (bs (wd l 2))) && (decide (l.length=3) || (decide (l.length=5) && C))) from MT.out.trans (by rw[da];rfl));clear da;unfold Cw at qGet;by_cases n2:2 < l.length
     ·have c2:=H5.out 2 n2;generalize hG:Bk (bs (wd l 2))=G at HF;have HG:=hid hG;clear hG;go_wp2_with (go_at_call 54;refine(Wa.out _ (HS.out 2) _).mono ?_;rintro e w' ⟨rfl,rfl⟩;rw[HG.out]);all_goals (go_ret;refine⟨CU ?_,Av.refl _ _⟩;rw[HF.out];clear HG HF MT XR XQ XP HX Wa TH IW H5 HS;first | grind | (cases A <;>cases B <;>cases C <;>first | grind | simp_all))
     ·go_wp2;all_goals (go_ret;refine⟨CU ?_,Av.refl _ _⟩;rw[HF.out];clear HF MT XR XQ XP HX Wa TH IW H5 HS;first | grind | (cases A <;>cases B <;>cases C <;>first | grind | simp_all))
    have qGet:=Ar da;unfold Cw at qGet;by_cases cZ:bs x=CL
    ·have qPut:=BN cZ;have HF:=hid (show Bz l=(A && B && (decide (l.length=3) || (decide (l.length=5) && C))) from MT.out.trans (by rw[cZ];rfl));clear cZ;unfold CL at qPut;go_wp2;all_goals (go_ret;refine⟨CU ?_,Av.refl _ _⟩;rw[HF.out];clear HF MT XR XQ XP HX Wa TH IW H5 HS;first | grind | (cases A <;>cases B <;>cases C <;>first | grind | simp_all))
    have qPut:=Ar cZ;unfold CL at qPut;by_cases hOut:bs x=Ds
    ·have qOut:=BN hOut;have HF:=hid (show Bz l=(decide (l.length=2) && CO (bs (wd l 1))) from MT.out.trans (by rw[hOut];rfl));clear hOut;unfold Ds at qOut;by_cases n2:l.length=2
     ·have c1:=H5.out 1 (by omega);go_wp2_with (go_at_call 55;refine(TH.out _ (HS.out 1) _).mono ?_;rintro e w' ⟨rfl,rfl⟩);all_goals (go_ret;refine⟨CU ?_,Av.refl _ _⟩;rw[HF.out];clear HF MT XR XQ XP HX Wa TH IW H5 HS;first | grind | (simp only[CO];grind))
     ·go_wp2;all_goals (go_ret;refine⟨CU ?_,Av.refl _ _⟩;rw[HF.out];clear HF MT XR XQ XP HX Wa TH IW H5 HS;first | grind | (cases A <;>cases B <;>cases C <;>first | grind | simp_all))
    have qOut:=Ar hOut;unfold Ds at qOut;by_cases iF:bs x=I8
    ·have qIf:=BN iF;have HF:=hid (show Bz l=(decide (l.length=2) && CO (bs (wd l 1))) from MT.out.trans (by rw[iF];rfl));clear iF;unfold I8 at qIf;by_cases n2:l.length=2
     ·have c1:=H5.out 1 (by omega);go_wp2_with (go_at_call 55;refine(TH.out _ (HS.out 1) _).mono ?_;rintro e w' ⟨rfl,rfl⟩);all_goals (go_ret;refine⟨CU ?_,Av.refl _ _⟩;rw[HF.out];clear HF MT XR XQ XP HX Wa TH IW H5 HS;first | grind | (simp only[CO];grind))
     ·go_wp2;all_goals (go_ret;refine⟨CU ?_,Av.refl _ _⟩;rw[HF.out];clear HF MT XR XQ XP HX Wa TH IW H5 HS;first | grind | (cases A <;>cases B <;>cases C <;>first | grind | simp_all))
    have qIf:=Ar iF;unfold I8 at qIf;by_cases Uy:bs x=C6
    ·have qLoop:=BN Uy;have HF:=hid (show Bz l=(decide (l.length=2) && Fz (bs (wd l 1)) 4) from MT.out.trans (by rw[Uy];rfl));clear Uy;unfold C6 at qLoop;by_cases n2:l.length=2
     ·have c1:=H5.out 1 (by omega);go_wp2_with (go_at_call 56;refine(IW.out _ _ (HS.out 1) _).mono ?_;rintro e w' ⟨rfl,rfl⟩);all_goals (go_ret;refine⟨CU ?_,Av.refl _ _⟩;rw[HF.out];clear HF MT XR XQ XP HX Wa TH IW H5 HS;first | grind | (simp only[CO];grind))
     ·go_wp2;all_goals (go_ret;refine⟨CU ?_,Av.refl _ _⟩;rw[HF.out];clear HF MT XR XQ XP HX Wa TH IW H5 HS;first | grind | (cases A <;>cases B <;>cases C <;>first | grind | simp_all))
    have qLoop:=Ar Uy;unfold C6 at qLoop;have HF:=hid (show Bz l=false from MT.out.trans (by unfold ET;simp only[if_neg ML,if_neg MK,if_neg de,if_neg MM,if_neg cX,if_neg da,if_neg cZ,if_neg hOut,if_neg iF,if_neg Uy]));clear ML MK de MM cX da cZ hOut iF Uy;go_wp2;go_ret;exact⟨CU HF.out.symm,Av.refl _ _⟩
end Go.Proofs.YtpdfifdlhpmofaaGreatDoor
