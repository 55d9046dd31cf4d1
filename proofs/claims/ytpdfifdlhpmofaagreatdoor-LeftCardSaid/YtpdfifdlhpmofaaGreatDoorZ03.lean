/-
  Part 3 of the proof.
-/
import Derived.Test.YtpdfifdlhpmofaaGreatDoorZ01
set_option linter.unusedVariables false
set_option linter.unusedSimpArgs false
set_option maxHeartbeats 3200000
set_option maxRecDepth 100000
namespace Go.Proofs.YtpdfifdlhpmofaaGreatDoor
open Go.RowKit Tryz
open Go.Lib (hid)
theorem mal {p:Prop} (h:p:=by
 go_wp2;all_goals (go_ret;refine⟨Dc ?_,Av.refl _ _⟩;rw[HF.out];clear HF Ps fL fK fJ HX cy Yj J4 H5 HS;first | grind | (cases A <;>cases B <;>cases C <;>first | grind | simp_all))):p:=h
theorem maR {p:Prop} (h:p:=by
 have c1:=H5.out 1 Y;go_wp2_with (go_at_call 55;refine(Yj _ (HS 1) _).mono ?_;rintro e w' ⟨rfl,rfl⟩);all_goals (go_ret;refine⟨Dc ?_,Av.refl _ _⟩;rw[HF.out];clear HF Ps fL fK fJ HX cy Yj J4 H5 HS;first | grind | (simp only[C7];grind))):p:=h
theorem mbh {p:Prop} (h:p:=by
 have hK:=hid (Qal hk);go_wp2
 go_meet
 exact⟨rfl,by rw[hK.out,Bool.false_and]⟩):p:=h
theorem mbT {p:Prop} (h:p:=by
 go_ret;refine⟨Dc ?_,rfl⟩;rw[Wb (bs s) k (by rw[Bw];exact AX)];rw[Hg.out,U9,decide_eq_false_iff_not];omega):p:=h
variable {w:World} {ok:Nat->Prop} {v:Value} {xs:List Value} {a b x:ByteArray} {l:List ByteArray} {k:By}
def low (c:UInt8):Bool:=97<=c && c<=122
def Bg (s:By):Bool:=s.all low && (decide (0 < s.length) && decide (s.length<=6))
theorem Wb (l:By) (k:Nat) (hk:k < l.length) (h:low l[k]=false):Bg l=false:=by
 unfold Bg;have:l.all low=false:=by
  rw[List.all_eq_false];exact⟨l[k],Qab hk,by simp[h]⟩
 simp[this]
theorem U9 (c:UInt8):low c=decide (97<=(c.toNat:Int)/\(c.toNat:Int)<=122):=by
 unfold low;rw[Qcp];simp[UInt8.le_iff_toNat_le];omega
theorem YY (s:ByteArray) (w:World) (hs:s.size<=maxLen):
  Calls prog 54 #[.string s] w fun e w'=>e= .returned (.bool (Bg (bs s)))/\w'=w:=by
 unfold maxLen at hs;go_enter func54,ntmps54;go_wp2
 go_loop [3] (fun i=>∃k:Nat,k<=s.size/\i= i5 k/\((bs s).take k).all low=true) (fun i=>s.size - (intOf i).toNat)
 case atStart=>exact⟨0,d6 _,rfl,rfl⟩
 case round=>
  obtain⟨k,hk,rfl,Ie⟩:=hrel;have QT:=hid Ie;clear Ie;by_cases AX:k < s.size
  ·have hg:(bs s)[k]'(by rw[Bw];exact AX)=s[k]:=rfl;have Hg:=hid hg;clear hg;go_wp2
   ·exact mbT
   ·go_round
    case rel=>
     refine⟨k+1,Y,by go_num,?_⟩;rw[Yf _ _ _ (by rw[Bw];exact AX),QT.out,Hg.out,U9,Qb2,Qad];omega
    case measure=>simp[intOf];omega
   ·exact mbT
  ·have hE:(bs s).take k=bs s:=Qbo (by rw[Bw];omega);have HE:=hid hE;clear hE;go_wp2;all_goals
    go_ret;refine⟨Dc ?_,rfl⟩;have:=QT.out;rw[HE.out] at this;unfold Bg;rw[this,Bw,Qb2];first | (rw[Qa0 (by assumption:0 < s.size),Qb2];congr 1;exact propext ⟨fun _=>Y,fun _=>Y⟩) | (rw[Qal (by assumption:¬0 < s.size),Bool.false_and])
def Ev (below:Bool):By->Int->Option Int
 | [],v=>some v
 | c::r,v=>if (c.toNat:Int) < 48\/57 < (c.toNat:Int) then none else
   Ev below r (if below then wrap64 (wrap64 (10*v) - ((c.toNat:Int) - 48)) else wrap64 (wrap64 (10*v)+((c.toNat:Int) - 48)))
def JX:By:=[57,50,50,51,51,55,50,48,51,54,56,53,52,55,55,53,56,48,55]
def JY:By:=[57,50,50,51,51,55,50,48,51,54,56,53,52,55,55,53,56,48,56]
def F8 (below:Bool) (t:By) (BH:By):Bool:=
 t.isEmpty || decide (BH.length < t.length) || (decide (t.length=BH.length) && (!Op.bytesLess t BH && !(t==BH))) || ((t.headD 0==48) && (decide (1 < t.length) || below))
def number (l:By):Option Int:=
 let below:=l.headD 0==45
 let t:=if below then l.tail else l
 if F8 below t (if below then JY else JX) then none else Ev below t 0
def Lz (l:By):Value:= .tuple #[i5 ((number l).getD 0),.bool (number l).isSome]
theorem gS (B:Bool) (T M:ByteArray) (h:T.size=0):F8 B (bs T) (bs M)=true:=by
 have:(bs T)=[]:=RK ((Bw T).trans h);simp[F8,this]
theorem lD (T:ByteArray) (h:1<=T.size):(bs T).headD 0=T[0]:=by
 obtain⟨⟨l⟩⟩:=T;cases l with
 | nil=>exact UV h AC
 | cons c r=>rfl
theorem fu (s:ByteArray):bs (s.extract 1 s.size)=(bs s).tail:=by
 show(s.extract 1 s.size).data.toList=_;rw[Lib.extract_data];show((bs s).drop 1).take _=_;rw[Qbo (by rw[List.length_drop,Bw];omega),List.drop_one]
theorem lC (c d:UInt8):(c==d)=decide ((c.toNat:Int)=(d.toNat:Int)):=by
 rw[Qcp,Qbu,Qad];constructor
 ·intro h1;rw[h1]
 ·intro h1;apply UInt8.toNat_inj.1;omega
theorem na (B:Bool) (T M:ByteArray) (h:1<=T.size):F8 B (bs T) (bs M)=
  (decide (M.size < T.size) || (decide (T.size=M.size) && (!Op.bytesLess T.toList M.toList && !(T.toList==M.toList))) || (decide ((T[0].toNat:Int)=48) && (decide (1 < T.size) || B))):=by
 have he:(bs T).isEmpty=false:=by
  rw[Qc3];intro h0;rw[Qck,Bw] at h0;omega
 unfold F8;rw[he,lD T h,Bw,Bw,ByteArray.toList_eq,ByteArray.toList_eq,Qcj,lC];rfl
theorem O4 (l:By) (B:Bool) (T M:By) (hB:(l.headD 0==45)=B) (hT:T=if B then l.tail else l) (hM:M=if B then JY else JX):
  number l=if F8 B T M then none else Ev B T 0:=by
 subst hB hT hM;rfl
theorem gR (l:By) (B:Bool) (T M:By) (hB:(l.headD 0==45)=B) (hT:T=if B then l.tail else l) (hM:M=if B then JY else JX) (hN:F8 B T M=true):
  Lz l= .tuple #[i5 0,.bool false]:=by
 unfold Lz;rw[O4 l B T M hB hT hM,In hN];rfl
theorem T0 (l:By) (B:Bool) (T M:By) (hB:(l.headD 0==45)=B) (hT:T=if B then l.tail else l) (hM:M=if B then JY else JX) (hN:F8 B T M=false)
  (h:Ev B T 0=none):Lz l= .tuple #[i5 0,.bool false]:=by
 unfold Lz;rw[O4 l B T M hB hT hM,I (by rw[hN];simp),h];rfl
theorem dx (l:By) (B:Bool) (T M:By) (hB:(l.headD 0==45)=B) (hT:T=if B then l.tail else l) (hM:M=if B then JY else JX) (hN:F8 B T M=false)
  {v:Int} (h:Ev B T 0=some v):Lz l= .tuple #[i5 v,.bool true]:=by
 unfold Lz;rw[O4 l B T M hB hT hM,I (by rw[hN];simp),h];rfl
theorem KD (s:ByteArray) (w:World) (hs:s.size<=maxLen):
  Calls prog 86 #[.string s] w fun e w'=>e= .returned (Lz (bs s))/\w'=w:=by
 unfold maxLen at hs;go_enter func86,ntmps86;go_upto_region 2 with(fail)
 go_cut [5] (fun b w'=>w'=w/\b= .bool ((bs s).headD 0==45))
 case first=>
  by_cases h0:s.size=0
  ·have HE:=hid (show(bs s).headD 0=0 by rw[RK ((Bw s).trans h0)];rfl);go_wp2;all_goals go_meet
   refine⟨rfl,?_⟩;rw[HE.out];rfl
  ·have h1:1<=s.size:=Y
   have HE:=hid (lD s h1);clear h0;go_wp2;all_goals go_meet
   refine⟨rfl,?_⟩;rw[HE.out,lC];rfl
 case rest=>
  obtain⟨rfl,rfl⟩:=hcut;generalize hB:((bs s).headD 0==45)=B;have HB:=hid hB;clear hB
  go_upto_if 19 with(fail)
  go_cut [4] (fun t w'=>w'=wc/\∃T:ByteArray,t= .string T/\bs T=(if B then (bs s).tail else bs s))
  case first=>
   cases B
   ·go_wp2
    go_meet
    exact⟨rfl,s,rfl,rfl⟩
   ·have h1:1<=s.size:=by
     rcases Qc2 s.size with h | h
     ·have:=HB.out;rw[RK ((Bw s).trans h)] at this;exact UV this AC
     ·exact h
    have HX:=hid (fu s);go_wp2
    go_meet
    exact⟨rfl,_,rfl,HX⟩
  case rest=>
   obtain⟨hw,T,rfl,hT⟩:=hcut;obtain rfl:=hw;have HT:=hid hT;clear hT
   go_upto_if 22 with(fail)
   go_cut [6] (fun m w'=>w'=wc/\∃M:ByteArray,m= .string M/\bs M=(if B then JY else JX))
   case first=>
    cases B
    ·go_wp2
     go_meet
     exact⟨rfl,_,rfl,rfl⟩
    ·go_wp2
     go_meet
     exact⟨rfl,_,rfl,rfl⟩
   case rest=>
    obtain⟨hw,M,rfl,hM⟩:=hcut;obtain rfl:=hw;have HM:=hid hM;clear hM;go_upto_region 8 with(fail)
    go_cut [56] (fun m w'=>w'=wc/\m= .bool (F8 B (bs T) (bs M)))
    case first=>
     by_cases hT0:T.size=0
     ·have he:T.toList.isEmpty=true:=by rw[ByteArray.toList_eq,Qck];exact(Bw T).trans hT0
      have HB:=hid (gS B T M hT0);clear hT0;go_wp2;all_goals go_meet
      rw[HB.out];exact⟨rfl,rfl⟩
     ·have he:T.toList.isEmpty=false:=by rw[ByteArray.toList_eq,Qc3];intro h;rw[Qck] at h;exact hT0 ((Bw T).symm.trans h)
      have h1:1<=T.size:=Y
      have HN:=hid (na B T M h1);clear hT0;go_wp2;all_goals go_meet
      all_goals (refine⟨rfl,?_⟩;rw[HN.out])
      all_goals first | (congr 1;grind) | (exfalso;grind) | skip
    case rest=>
     obtain⟨hw,rfl⟩:=hcut;obtain rfl:=hw;generalize hN:F8 B (bs T) (bs M)=N;have HN:=hid hN;clear hN;cases N
     ·go_wp2;have hTs:T.size<=s.size:=by
       rw[<-Bw T,HT.out,<-Bw s];cases B
       ·exact LE _
       ·show(bs s).tail.length<=_;rw[Qb8];omega
      go_loop [8,7] (fun i v=>∃(k:Nat) (x:Int),k<=T.size/\i= i5 k/\v= i5 x/\Ev B ((bs T).drop k) x=Ev B (bs T) 0) (fun i _=>T.size - (intOf i).toNat)
      case atStart=>exact⟨0,0,d6 _,rfl,rfl,rfl⟩
      case round=>
       obtain⟨k,x,hk,rfl,rfl,hx⟩:=hrel;by_cases AX:k < T.size
       ·have OE:(bs T).drop k=T[k]::(bs T).drop (k+1):=Qa6 (by rw[Bw];exact AX);rw[OE] at hx;have HX:=hid hx;clear hx OE;cases B;all_goals
         go_wp2
         ·go_ret2;refine⟨MU ?_,rfl⟩;rw[T0 _ _ _ _ HB.out HT.out HM.out HN.out (by rw[<-HX.out];unfold Ev;rw[In Y])];rfl
         ·go_roundw;case rel=>
           refine⟨k+1,_,Y,by go_num,rfl,?_⟩;rw[<-HX.out];conv=>rhs;unfold Ev
           rw[I Y];rfl
          case measure=>simp[intOf];omega
         ·go_ret2;refine⟨MU ?_,rfl⟩;rw[T0 _ _ _ _ HB.out HT.out HM.out HN.out (by rw[<-HX.out];unfold Ev;rw[In Y])];rfl
       ·rw[Qbc (by rw[Bw];omega)] at hx;have HX:=hid hx;clear hx;go_wp2;go_ret2;refine⟨MU ?_,rfl⟩;rw[dx _ _ _ _ HB.out HT.out HM.out HN.out HX.out.symm];rfl
     ·go_wp2;go_ret2;refine⟨MU ?_,rfl⟩;rw[gR _ _ _ _ HB.out HT.out HM.out HN.out];rfl
def Sl (w:World) (ok:Nat->Prop) (v:Value) (xs:List Value):Prop:=
 xs.length<=maxLen/\((v= .slice none 0 0/\xs=[])\/
  ∃b off cap,v= .slice (some ⟨b,off,none⟩) xs.length cap/\xs.length<=cap/\cap<=maxLen/\ok b/\b < w.heap.size/\∀i,(h:i < xs.length)->w.cell? ⟨b,off+i,none⟩=some xs[i])
theorem Sl.mono {ok':Nat->Prop} (h:Sl w ok v xs) (hk:∀b,b < w.heap.size->ok b->ok' b):Sl w ok' v xs:=by
 obtain⟨hm,h | ⟨b,off,cap,rfl,h1,h2,h3,h4,h5⟩⟩:=h
 ·exact⟨hm,.inl h⟩
 ·exact⟨hm,.inr ⟨b,off,cap,rfl,h1,h2,hk b h4 h3,h4,h5⟩⟩
theorem Sl.Bf {M:List Nat} {w':World} (h:Sl w ok v xs) (k:Av M w w') (hM:∀b,ok b->b∉M):Sl w' ok v xs:=by
 obtain⟨hm,h | ⟨b,off,cap,rfl,h1,h2,h3,h4,h5⟩⟩:=h
 ·exact⟨hm,.inl h⟩
 ·refine⟨hm,.inr ⟨b,off,cap,rfl,h1,h2,h3,Qaq h4 k.size,fun i hi=> ?_⟩⟩;rw[<-h5 i hi];exact Qdf (w:=w) (k.block b h4 (hM b h3))
theorem Sl.KO (h:Sl w ok v xs):∃p cap,v= .slice p xs.length cap/\xs.length<=cap/\cap<=maxLen:=by
 obtain⟨hm,⟨rfl,rfl⟩ | ⟨b,off,cap,rfl,h1,h2,h3,h4,h5⟩⟩:=h
 ·exact⟨none,0,rfl,LE _,d6 _⟩
 ·exact⟨_,_,rfl,h1,h2⟩
def A3 (l:List ByteArray):List Value:=l.map Value.string
theorem CK (l:List ByteArray):(A3 l).length=l.length:=z9 _
def DZ:List ByteArray->ByteArray->Nat->Int
 | [],_,_=> -1
 | a::r,x,k=>if bs a=bs x then k else DZ r x (k+1)
def A6 (l:List ByteArray) (x:ByteArray):Int:=DZ l x 0
theorem TN (h:bs a=bs b):(a.toList==b.toList)=true:=by
 rw[ByteArray.toList_eq,ByteArray.toList_eq,Qbu];exact h
theorem Q8 (h:¬bs a=bs b):(a.toList==b.toList)=false:=by
 rw[ByteArray.toList_eq,ByteArray.toList_eq,NE];exact h
theorem Gm (l:List ByteArray) (x:ByteArray) (v:Value) (w:World) (ok:Nat->Prop) (hv:Sl w ok v (A3 l)):
  Calls prog 58 #[v,.string x] w fun e w'=>e= .returned (i5 (A6 l x))/\w'=w:=by
 obtain⟨hm,⟨rfl,hn⟩ | ⟨b,off,cap,rfl,h1,h2,h3,h4,h5⟩⟩:=hv
 ·have hl:l=[]:=by cases l with | nil=>rfl | cons a r=>simp[A3] at hn
  subst hl;clear hn hm;go_enter func58,ntmps58;go_wp2
  go_loop [5] (fun i=>i= i5 0) (fun _=>0)
  case atStart=>rfl
  case round=>
   obtain rfl:=hrel;go_wp2;go_ret;exact⟨rfl,rfl⟩
 ·rw[CK] at hm h1⊢;unfold maxLen at hm h2;clear h3 h4;have H5:=hid h5;clear h5;go_enter func58,ntmps58;go_wp2
  go_loop [5] (fun i=>∃k:Nat,k<=l.length/\i= i5 k/\DZ (l.drop k) x k=A6 l x) (fun i=>l.length - (intOf i).toNat)
  case atStart=>exact⟨0,d6 _,rfl,rfl⟩
  case round=>
   obtain⟨k,hk,rfl,hp⟩:=hrel;by_cases AX:k < l.length
   ·have hc:=H5.out k (by rw[CK];exact AX);simp only[A3,List.getElem_map] at hc;rw[Qa6 AX] at hp;by_cases he:bs l[k]=bs x
    ·have hq:=TN he;have HP:=hid (show A6 l x=(k:Int) by rw[<-hp];simp only[DZ];rw[In he]);clear hp he;go_wp2;go_ret;exact⟨au HP.symm,rfl⟩
    ·have hq:=Q8 he;have HP:=hid (show DZ (l.drop (k+1)) x (k+1)=A6 l x by rw[<-hp];simp only[DZ];rw[I he]);clear hp he;go_wp2
     go_round
     case rel=>exact⟨k+1,Y,by go_num,HP⟩
     case measure=>simp[intOf];omega
   ·rw[Qbc Y] at hp;have HP:=hid hp;clear hp;go_wp2;go_ret;exact⟨au HP,rfl⟩
theorem wg (s:ByteArray) (w:World) (hs:s.size<=maxLen):
  Calls prog 55 #[.string s] w fun e w'=>e= .returned (.bool (Bg (bs s) || (number (bs s)).isSome))/\w'=w:=by
 unfold maxLen at hs;generalize hb:Bg (bs s)=b;generalize hn:number (bs s)=n;have h1:Calls prog 54 #[.string s] w fun e w'=>e= .returned (.bool b)/\w'=w:=by rw[<-hb];exact YY s w hs
 have h2:Calls prog 86 #[.string s] w fun e w'=>e= .returned (.tuple #[i5 (n.getD 0),.bool n.isSome])/\w'=w:=by rw[<-hn];exact KD s w hs
 have H1:=hid h1;have H2:=hid h2;clear h1 h2 hb hn;generalize n.getD 0=x at*;generalize n.isSome=c at*;cases b <;>cases c <;>(
   go_enter func55,ntmps55;go_wp2_with (first | (go_at_call 54;refine H1.mono ?_;rintro e w' ⟨rfl,rfl⟩) | (go_at_call 86;refine H2.mono ?_;rintro e w' ⟨rfl,rfl⟩));go_ret;exact⟨rfl,rfl⟩)
def Fx (s:By) (BH:Int):Bool:=match number s with
 | some v=>decide (1<=v) && decide (v<=BH)
 | none=>false
theorem iz (s:ByteArray) (m:Int) (w:World) (hs:s.size<=maxLen):
  Calls prog 56 #[.string s,i5 m] w fun e w'=>e= .returned (.bool (Fx (bs s) m))/\w'=w:=by
 unfold maxLen at hs;unfold Fx;have h2:=KD s w hs;unfold Lz at h2;generalize number (bs s)=n at*;have H2:=hid h2;clear h2;cases n with
 | none=>
  go_enter func56,ntmps56;go_wp2_with (first | (go_at_call 86;refine H2.mono ?_;rintro e w' ⟨rfl,rfl⟩));go_ret;exact⟨rfl,rfl⟩
 | some v=>
  by_cases h1:1<=v <;>by_cases h3:v<=m <;>(
    go_enter func56,ntmps56;go_wp2_with (first | (go_at_call 86;refine H2.mono ?_;rintro e w' ⟨rfl,rfl⟩));go_ret;exact⟨Dc (by simp[*]),rfl⟩)
theorem Sl.new (xs:List Value) (T:TypeId) (n:Nat) (hn:xs.length=n) (hb:n<=1000) (ok:Nat->Prop) (hok:ok w.heap.size):
  Sl (w.alloc (.cells xs.toArray T)) ok (.slice (some ⟨w.heap.size,0,none⟩) n n) xs:=by
 subst hn;refine⟨by unfold maxLen;omega,.inr ⟨w.heap.size,0,xs.length,rfl,LE _,by unfold maxLen;omega,hok,by show _ < (w.heap.push _).size;rw[Qcg];omega,fun i hi=> ?_⟩⟩;rw[(BM.new w xs.toArray T).cell];simp[hi]
def Dx:List ByteArray:=[⟨#[43]⟩,⟨#[45]⟩,⟨#[42]⟩,⟨#[47]⟩,⟨#[37]⟩,⟨#[38]⟩,⟨#[124]⟩,⟨#[94]⟩,⟨#[60,60]⟩,⟨#[62,62]⟩,⟨#[60]⟩,⟨#[61,61]⟩]
def Cj:List ByteArray:=[⟨#[97,100,100]⟩,⟨#[115,117,98]⟩,⟨#[109,117,108]⟩,⟨#[100,105,118]⟩,⟨#[109,111,100]⟩,⟨#[97,110,100]⟩,⟨#[111,114]⟩,⟨#[120,111,114]⟩,⟨#[115,104,108]⟩,⟨#[115,104,114]⟩,⟨#[108,116]⟩,⟨#[101,113]⟩]
def fG (l:List ByteArray) (w:World) (e:Ending) (w':World):Prop:=
 ∃v,e= .returned v/\Av [] w w'/\Sl w' (fun b=>w.heap.size<=b) v (A3 l)
theorem YD (w:World):Calls prog 57 #[] w (fG Dx w):=by
 go_enter func57,ntmps57;go_wp2;go_ret;exact⟨_,rfl,(Av.refl _ _).alloc _,Sl.new (A3 Dx) 9 12 rfl Y _ (LE _)⟩
theorem Ym (w:World):Calls prog 88 #[] w (fG Cj w):=by
 go_enter func88,ntmps88;go_wp2;go_ret;exact⟨_,rfl,(Av.refl _ _).alloc _,Sl.new (A3 Cj) 9 12 rfl Y _ (LE _)⟩
def AcG (r:Bool) (w:World) (e:Ending) (w':World):Prop:=e= .returned (.bool r)/\Av [] w w'
def C7 (s:By):Bool:=Bg s || (number s).isSome
def AK:By:=[115,104,97,114,101,100]
def AE:By:=[116,104,114,101,97,100]
def Ey:By:=[101,110,100]
def AH:By:=[97,116,111,109,105,99]
def CY:By:=[115,101,116]
def CF:By:=[103,101,116]
def CZ:By:=[112,117,116]
def DI:By:=[111,117,116]
def Kb:By:=[105,102]
def Dp:By:=[108,111,111,112]
def iF:By:=[97,116]
def wd (l:List ByteArray) (i:Nat):ByteArray:=l.getD i ByteArray.empty
def Fh (x:By) (n:Nat) (a b c g p v k1 l6 l4:Bool):Bool:=
 if x=AK then a && (decide (n=2) || (decide (n=3) && l6))
 else if x=AE then decide (n=1) else if x=Ey then decide (n=1) else if x=AH then decide (n=1)
 else if x=CY then a && b && (decide (n=3) || (decide (n=5) && (p && v)))
 else if x=CF then a && (decide (2 < n) && g) && (decide (n=3) || (decide (n=5) && c))
 else if x=CZ then a && b && (decide (n=3) || (decide (n=5) && c))
 else if x=DI then decide (n=2) && k1 else if x=Kb then decide (n=2) && k1
 else if x=Dp then decide (n=2) && l4
 else false
def Br (l:List ByteArray):Bool:=
 Fh (bs (wd l 0)) l.length (decide (1 < l.length) && Bg (bs (wd l 1))) (decide (2 < l.length) && C7 (bs (wd l 2)))
  (decide (4 < l.length) && (decide (bs (wd l 3)=iF) && C7 (bs (wd l 4)))) (Bg (bs (wd l 2))) (decide (0<=A6 Dx (wd l 3))) (C7 (bs (wd l 4)))
  (C7 (bs (wd l 1))) (Fx (bs (wd l 2)) 6) (Fx (bs (wd l 1)) 4)
theorem Sl.Lv {b off:Nat} (h:∀i,(hi:i < (A3 l).length)->w.cell? ⟨b,off+i,none⟩=some (A3 l)[i]) (i:Nat) (hi:i < l.length):
  w.cell? ⟨b,off+i,none⟩=some (.string (wd l i)):=by
 rw[h i (by rw[CK];exact hi)];simp[A3,wd,hi]
theorem BO (h:bs x=k):(x.toList==k)=true:=by rw[ByteArray.toList_eq,Qbu];exact h
theorem An (h:¬bs x=k):(x.toList==k)=false:=by rw[ByteArray.toList_eq,NE];exact h
theorem Iy (h:∀s,s∈l->s.size<=maxLen) (i:Nat):(wd l i).size<=maxLen:=by
 unfold wd;rcases Qbs i l.length with hi | hi
 ·rw[GE,Id hi];exact h _ (Qab hi)
 ·rw[GE,Qcr hi];exact d6 _
theorem tz (l:List ByteArray) (v:Value) (w:World) (ok:Nat->Prop) (hv:Sl w ok v (A3 l)) (Bi:l≠[]) (hs:∀s,s∈l->s.size<=maxLen):
  Calls prog 36 #[v] w (AcG (Br l) w):=by
 have hlen:0 < l.length:=by cases l with | nil=>exact UV rfl Bi | cons a r=>simp
 obtain⟨hm,⟨rfl,hn⟩ | ⟨b,off,cap,rfl,h1,h2,h3,h4,h5⟩⟩:=hv
 ·exact UV (by cases l with | nil=>rfl | cons a r=>simp[A3] at hn) Bi
 rw[CK] at hm h1⊢;unfold maxLen at hm h2;have c0:=Sl.Lv h5 0 hlen;simp only[Qaj] at c0;have H5:=hid (Sl.Lv h5);have S:=fun i=>Iy hs i
 have HS:=hid S;have HN:=fun (s:ByteArray) (hs:s.size<=maxLen) (w:World)=>YY s w hs
 have HA:=fun (s:ByteArray) (hs:s.size<=maxLen) (w:World)=>wg s w hs
 have HL:=fun (s:ByteArray) (m:Int) (hs:s.size<=maxLen) (w:World)=>iz s m w hs
 have cy:=hid HN;have Yj:=hid HA;have J4:=hid HL;clear h5 h3 h4 hs S HN HA HL Bi;generalize hX:wd l 0=x at c0;have HX:=hid hX;clear hX;go_enter func36,ntmps36;go_upto_region 3 with(fail)
 go_cut [5] (fun a w'=>w'=w/\a= .bool (decide (1 < l.length) && Bg (bs (wd l 1))))
 case first=>
  by_cases hk:1 < l.length
  ·have c1:=H5.out 1 hk;have hK:=hid (Qa0 hk);go_wp2_with (go_at_call 54;refine(cy _ (HS 1) _).mono ?_;rintro e w' ⟨rfl,rfl⟩)
   go_meet
   exact⟨rfl,by rw[hK.out,Qb2]⟩
  ·exact mbh
 case rest=>
  obtain⟨hw,rfl⟩:=hcut;obtain rfl:=hw;generalize hA:(decide (1 < l.length) && Bg (bs (wd l 1)))=A;have fL:=hid hA;clear hA;go_upto_region 4 with(fail)
  go_cut [6] (fun a w'=>w'=wc/\a= .bool (decide (2 < l.length) && C7 (bs (wd l 2))))
  case first=>
   by_cases hk:2 < l.length
   ·have c1:=H5.out 2 hk;have hK:=hid (Qa0 hk);go_wp2_with (go_at_call 55;refine(Yj _ (HS 2) _).mono ?_;rintro e w' ⟨rfl,rfl⟩)
    go_meet
    exact⟨rfl,by rw[hK.out,Qb2];rfl⟩
   ·exact mbh
  case rest=>
   obtain⟨hw,rfl⟩:=hcut;obtain rfl:=hw;generalize hB:(decide (2 < l.length) && C7 (bs (wd l 2)))=B;have fK:=hid hB;clear hB
   go_upto_if 35 with(fail)
   go_cut [7] (fun a w'=>w'=wc/\a= .bool (decide (4 < l.length) && (decide (bs (wd l 3)=iF) && C7 (bs (wd l 4)))))
   case first=>
    by_cases hk:4 < l.length
    ·have c1:=H5.out 3 Y;have c2:=H5.out 4 hk;have hK:=hid (Qa0 hk);by_cases he:bs (wd l 3)=iF
     ·have hq:=BO he;have hE:=hid (Qa0 he);clear he;unfold iF at hq;go_wp2_with (go_at_call 55;refine(Yj _ (HS 4) _).mono ?_;rintro e w' ⟨rfl,rfl⟩)
      go_meet
      exact⟨rfl,by rw[hK.out,hE.out,Qb2,Qb2];rfl⟩
     ·have hq:=An he;have hE:=hid (Qal he);clear he;unfold iF at hq;go_wp2
      go_meet
      exact⟨rfl,by rw[hK.out,hE.out,Qb2,Bool.false_and]⟩
    ·exact mbh
   case rest=>
    obtain⟨hw,rfl⟩:=hcut;obtain rfl:=hw;generalize hC:(decide (4 < l.length) && (decide (bs (wd l 3)=iF) && C7 (bs (wd l 4))))=C;have fJ:=hid hC;clear hC;have HB0:Br l=Fh (bs x) l.length A B C (Bg (bs (wd l 2))) (decide (0<=A6 Dx (wd l 3))) (C7 (bs (wd l 4))) (C7 (bs (wd l 1))) (Fx (bs (wd l 2)) 6) (Fx (bs (wd l 1)) 4):=by
     rw[<-HX.out,<-fL.out,<-fK.out,<-fJ.out];rfl
    have Ps:=hid HB0;clear HB0;by_cases Pd:bs x=AK
    ·have qShared:=BO Pd;have HF:=hid (show Br l=(A && (decide (l.length=2) || (decide (l.length=3) && Fx (bs (wd l 2)) 6))) from Ps.trans (by rw[Pd];rfl));clear Pd;unfold AK at qShared;by_cases n3:l.length=3
     ·have c2:=H5.out 2 Y;go_wp2_with (go_at_call 56;refine(J4 _ _ (HS 2) _).mono ?_;rintro e w' ⟨rfl,rfl⟩);all_goals (go_ret;refine⟨Dc ?_,Av.refl _ _⟩;rw[HF.out];clear HF Ps fL fK fJ HX cy Yj J4 H5 HS;first | grind | (cases A <;>cases B <;>cases C <;>first | grind | simp_all))
     ·exact mal
    have qShared:=An Pd;unfold AK at qShared;by_cases Pc:bs x=AE
    ·have qThread:=BO Pc;have HF:=hid (show Br l=(decide (l.length=1)) from Ps.trans (by rw[Pc];rfl));clear Pc;unfold AE at qThread;exact mal
    have qThread:=An Pc;unfold AE at qThread;by_cases oR:bs x=Ey
    ·have qEnd:=BO oR;have HF:=hid (show Br l=(decide (l.length=1)) from Ps.trans (by rw[oR];rfl));clear oR;unfold Ey at qEnd;exact mal
    have qEnd:=An oR;unfold Ey at qEnd;by_cases Pe:bs x=AH
    ·have qAtomic:=BO Pe;have HF:=hid (show Br l=(decide (l.length=1)) from Ps.trans (by rw[Pe];rfl));clear Pe;unfold AH at qAtomic;exact mal
    have qAtomic:=An Pe;unfold AH at qAtomic;by_cases oN:bs x=CY
    ·have qSet:=BO oN;have HF:=hid (show Br l=(A && B && (decide (l.length=3) || (decide (l.length=5) && (decide (0<=A6 Dx (wd l 3)) && C7 (bs (wd l 4)))))) from Ps.trans (by rw[oN];rfl));clear oN;unfold CY at qSet;by_cases n5:l.length=5
     ·have c3:=H5.out 3 Y;have c4:=H5.out 4 Y;have Fs:=H9 c0;go_wp2_with fail;refine(YD _).mono ?_;rintro e w1 ⟨v1,rfl,CS,Lk⟩;have c3':=(AU CS c3);have c4':=(AU CS c4);have HP:=hid (Gm Dx (wd l 3) v1 w1 _ Lk);generalize hP:A6 Dx (wd l 3)=P at HF HP;have HPe:=hid hP;clear hP;have HM:=hid CS;clear CS Lk;go_wp2_with fail;refine(HP).mono ?_;rintro e w2 ⟨rfl,rfl⟩;go_wp2_with (go_at_call 55;refine(Yj _ (HS 4) _).mono ?_;rintro e w' ⟨rfl,rfl⟩);all_goals (go_ret;refine⟨Dc ?_,HM⟩;rw[HF.out];clear HPe HP HF Ps fL fK fJ HX cy Yj J4 H5 HS HM;first | grind | (simp only[C7];grind))
     ·exact mal
    have qSet:=An oN;unfold CY at qSet;by_cases oQ:bs x=CF
    ·have qGet:=BO oQ;have HF:=hid (show Br l=(A && (decide (2 < l.length) && Bg (bs (wd l 2))) && (decide (l.length=3) || (decide (l.length=5) && C))) from Ps.trans (by rw[oQ];rfl));clear oQ;unfold CF at qGet;by_cases n2:2 < l.length
     ·have c2:=H5.out 2 n2;generalize hG:Bg (bs (wd l 2))=G at HF;have HG:=hid hG;clear hG;go_wp2_with (go_at_call 54;refine(cy _ (HS 2) _).mono ?_;rintro e w' ⟨rfl,rfl⟩;rw[HG.out]);all_goals (go_ret;refine⟨Dc ?_,Av.refl _ _⟩;rw[HF.out];clear HG HF Ps fL fK fJ HX cy Yj J4 H5 HS;first | grind | (cases A <;>cases B <;>cases C <;>first | grind | simp_all))
     ·exact mal
    have qGet:=An oQ;unfold CF at qGet;by_cases oP:bs x=CZ
    ·have qPut:=BO oP;have HF:=hid (show Br l=(A && B && (decide (l.length=3) || (decide (l.length=5) && C))) from Ps.trans (by rw[oP];rfl));clear oP;unfold CZ at qPut;exact mal
    have qPut:=An oP;unfold CZ at qPut;by_cases hOut:bs x=DI
    ·have qOut:=BO hOut;have HF:=hid (show Br l=(decide (l.length=2) && C7 (bs (wd l 1))) from Ps.trans (by rw[hOut];rfl));clear hOut;unfold DI at qOut;by_cases n2:l.length=2
     ·exact maR
     ·exact mal
    have qOut:=An hOut;unfold DI at qOut;by_cases u7:bs x=Kb
    ·have qIf:=BO u7;have HF:=hid (show Br l=(decide (l.length=2) && C7 (bs (wd l 1))) from Ps.trans (by rw[u7];rfl));clear u7;unfold Kb at qIf;by_cases n2:l.length=2
     ·exact maR
     ·exact mal
    have qIf:=An u7;unfold Kb at qIf;by_cases Zj:bs x=Dp
    ·have qLoop:=BO Zj;have HF:=hid (show Br l=(decide (l.length=2) && Fx (bs (wd l 1)) 4) from Ps.trans (by rw[Zj];rfl));clear Zj;unfold Dp at qLoop;by_cases n2:l.length=2
     ·have c1:=H5.out 1 Y;go_wp2_with (go_at_call 56;refine(J4 _ _ (HS 1) _).mono ?_;rintro e w' ⟨rfl,rfl⟩);all_goals (go_ret;refine⟨Dc ?_,Av.refl _ _⟩;rw[HF.out];clear HF Ps fL fK fJ HX cy Yj J4 H5 HS;first | grind | (simp only[C7];grind))
     ·exact mal
    have qLoop:=An Zj;unfold Dp at qLoop;have HF:=hid (show Br l=false from Ps.trans (by unfold Fh;simp only[I Pd,I Pc,I oR,I Pe,I oN,I oQ,I oP,I hOut,I u7,I Zj]));clear Pd Pc oR Pe oN oQ oP hOut u7 Zj;go_wp2;go_ret;exact⟨Dc HF.symm,Av.refl _ _⟩
end Go.Proofs.YtpdfifdlhpmofaaGreatDoor
