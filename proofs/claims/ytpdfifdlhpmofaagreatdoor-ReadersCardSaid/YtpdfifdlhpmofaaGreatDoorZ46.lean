/-
  Part 46 of the proof.
-/
import Derived.Test.YtpdfifdlhpmofaaGreatDoorZ44
set_option linter.unusedVariables false
set_option linter.unusedSimpArgs false
set_option maxHeartbeats 3200000
set_option maxRecDepth 100000
namespace Go.Proofs.YtpdfifdlhpmofaaGreatDoor
open Go.RowKit Tryz
open Go.Lib (hid)
theorem naz {p:Prop} (h:p:=by
 go_wp2;go_roundw;case rel=>exact⟨t+1,Do,NY,HS⟩
 case measure=>have:=NY.out;simp[intOf];omega):p:=h
variable {p:RP} {k T t:Nat}
def mayR (p:RP) (k t:Nat):Bool:= !(p.BJ.getD t false) || decide (t=k)
def mayL (p:RP) (k n T:Nat):List Bool:=(List.range T).map fun u=>if u < n then mayR p k u else false
theorem mayL_len {n:Nat}:(mayL p k n T).length=T:=by unfold mayL;rw[z9,Qdw]
theorem mayL_zero:mayL p k 0 T=List.replicate T false:=by
 unfold mayL;apply Qc7;intro i;rw[Qax,Qcn];split
 ·rename_i h;rw[Qcx h];rfl
 ·rename_i h;rw[Qcr (by rw[Qdw];omega)];rfl
theorem mayL_set (h:t < T):((mayL p k t T).map Value.bool).set t (.bool (mayR p k t))=(mayL p k (t+1) T).map .bool:=by
 unfold mayL;apply Qc7;intro i;rw[Qb3,Qax,Qax,Qax,Qax];by_cases hi:i < T
 ·rw[Qcx hi];split
  ·rename_i he;subst he;rw[In (by simp;omega)];simp
  ·rename_i he;show some (Value.bool (if i < t then _ else false))=some (Value.bool (if i < t+1 then _ else false));by_cases hit:i < t
   ·rw[In hit,In Y]
   ·rw[I hit,I Y]
 ·rw[Qcr (l:=List.range T) (by rw[Qdw];omega),I Y];rfl
theorem mayL_no (ht:t < T) (Bi:t≠k) (h:(mayL p k T T).getD t false=true):p.BJ.getD t false=false:=by
 unfold mayL at h;rw[GE,Qax,Qcx ht] at h;have h':(if t < T then mayR p k t else false)=true:=h;rw[In ht] at h';unfold mayR at h';rw[Qal Bi,Bool.or_false] at h';simpa using h'
theorem readers_any (s:ByteArray) (w:World) (hM:s.size<=1000000->Calls prog 10 #[.string s] w (Ur (bs s) w)) (pp:Option Addr) (pc:Nat) (pk:List Int) (hp:ca w pp pk) (hi:∀p,p∈pk->i64 p) (hb:s.size+pk.length < 4611686018427387904) (u:Int) (hu:i64 u):
  Calls prog 7 #[.string s,.slice pp pk.length pc,i5 u] w fun e w'=>e= .returned (.bool true)/\Av [] w w':=by
 have j6:True->wrap64 ((s.size:Int)+(pk.length:Int))=(s.size:Int)+(pk.length:Int):=fun _=>IntWalk.wrap64_in _ Y
 have HM:=hid hM;have HP:=hid hp;have HI:=hid hi;clear hM hp hi;by_cases u3:262144 < s.size+pk.length
 ·have Ad9:(262144:Int) < (s.size:Int)+(pk.length:Int):=Y
  clear u3;go_enter func7,ntmps7;go_wp2;go_ret;exact⟨rfl,Av.refl _ _⟩
 ·have Ad9:¬(262144:Int) < (s.size:Int)+(pk.length:Int):=Y
  have Ia:s.size<=262144:=Y
  have hpk:pk.length<=262144:=Y
  have Hma:=hid (HM Y);have Hpk:=hid hpk;clear u3 hb hpk Ia;cases hr:Fp (bs s) with
  | error c=>
   have Hr:=hid hr;clear hr;go_enter func7,ntmps7;exact naf
  | ok p=>
   obtain⟨f,z,fO⟩:=rZ hr;have Hr:=hid hr;have Ty:=hid fO;clear hr fO;go_enter func7,ntmps7;go_wp2_with fail;refine Hma.mono ?_;intro e w1 hm;obtain⟨y,g,R,F,gs,Ug,hRp,hlen,rfl,AD,hok⟩:=yE Hr hm;have hpg:=Ac1 AD.Am (fun o ho=>ho) hlen;rw[hRp] at hpg;have Ni:=vj AD;have hT:(gs.map GY.ptr).length=y.Aa.length:=by rw[z9,hok.gl,Xk Ug]
   have CS:=(AD.Am.Au (i:=0) rfl).cell 1;rw[hT] at CS;have hT0:0 < y.Aa.length:=Qae.2 Ug.ne;have hT3:y.Aa.length<=3:=(JG Ug).2.2.2;have XY:p.Ao.length=y.Aa.length:=by rw[Ty.out.tl,Ug.Aa,z9]
   have wO:=hid (dk u (y.Aa.length:Int) Y hu w1);obtain⟨PG,Iu⟩:=dm u (n:=(y.Aa.length:Int)) Y;obtain⟨k,hk⟩:∃k:Nat,JW u (y.Aa.length:Int)=k:=⟨(JW u (y.Aa.length:Int)).toNat,Y⟩;rw[hk] at wO Iu;have hkT:k < y.Aa.length:=Y
   have XG:=hid Ug;have Hfr:=hid Ni;have Hok:=hid hok;have Hpg:=hid hpg;have HT:=hid hT;obtain⟨qb,qc,WD,hq2⟩:=hpg.q;have hqlen:p.BJ.length=y.Aa.length:=by rw[Ty.out.pl,Ug.Aa,z9]
   rw[hqlen] at WD hq2;have Hq2:=hid hq2;have hkT':(k:Int) < (y.Aa.length:Int):=Y
   have Sr:(0:Int)<=(k:Int):=Y
   clear hm AD Ug hRp hlen Ni hok hpg hT hk PG XY hu hq2 hqlen;have qg:=mkB y.Aa.length Y w1;have RU:=hid (vV y.Aa.length Y w1);go_wp2_with fail;refine wO.mono ?_;rintro e w2 ⟨rfl,rfl⟩;go_wp2;generalize FT:w2.heap.size=b at*;go_loopw [12] (fun i wr=>∃t:Nat,i= i5 t/\t<=y.Aa.length/\Ak w2 [] wr [JQ b y.Aa.length (mayL p k t y.Aa.length)]) (fun i _=>y.Aa.length - (intOf i).toNat);case atStart=>exact⟨0,rfl,d6 _,by rw[mayL_zero];exact RU.out⟩
   case round=>
    obtain⟨t,rfl,uk,hs⟩:=hrel;have hm1':=AU hs.Bf CS;have hq1':=AU hs.Bf WD;by_cases AX:t < y.Aa.length
    ·have DJ:(t:Int) < (y.Aa.length:Int):=Y
     have ht0:(0:Int)<=(t:Int):=Y
     have inc:True->wrap64 ((t:Int)+1)=((t:Int)+1):=fun _=>IntWalk.wrap64_in _ Y
     obtain⟨a,rfl,hqa⟩:=Hq2.out t AX;have hqa':=AU hs.Bf hqa;obtain⟨q1,q2,q3⟩:=Bm (hs.Am.row (i:=0) rfl);have Db:=q1 t (by rw[z9,mayL_len];exact AX);obtain⟨cv,uY⟩:∃v,wr.cell? ⟨b,t,none⟩=some v:=⟨_,Db⟩;have hfz:=q2 t;have s1:=hs.trans (hs.Am.HU (i:=0) (g:=b) (n:=y.Aa.length) (cap:=y.Aa.length) (e:=4) (size:=1) (xs:=(mayL p k t y.Aa.length).map .bool) rfl t (by rw[z9,mayL_len];exact AX) (.bool (mayR p k t)));rw[mayL_set AX] at s1;have HS:=hid s1;have NY:=hid AX;clear hs q1 q2 q3 Db s1 AX uk qg CS WD hqa;unfold mayR at HS;cases hpu:p.BJ.getD t false with
     | false=>
      rw[hpu] at hqa' HS;exact naz
     | true=>
      rw[hpu] at hqa' HS;by_cases hk:t=k
      ·have LH:((t:Int)==(k:Int))=true:=by rw[hk];simp
       rw[show decide (t=k)=true from Qa0 hk] at HS;clear hk;exact naz
      ·have LH:((t:Int)==(k:Int))=false:=by rw[NE];omega
       rw[show decide (t=k)=false from Qal hk] at HS;clear hk;go_wp2;go_roundw;case rel=>exact⟨t+1,Do,NY,HS⟩
       case measure=>have:=NY.out;simp[intOf];omega
    ·have DJ:¬(t:Int) < (y.Aa.length:Int):=Y
     have PC:t=y.Aa.length:=Y
     rw[PC] at hs;have hs3:=hs;have s3:=Ak.frame (L:=[]) (E:=MO F gs (R0 y) (g.Ar R).tail) Hfr.Am hs3;have AeF:=hid (Hfr.step (s3.trans (Ak.Ux s3.Am (sZ b y.Aa.length (mayL p k y.Aa.length y.Aa.length)))));have zx:=Xk XG.out;have Cq:=sa (EZ y) F gs (R0 y) (JQ b y.Aa.length (mayL p k y.Aa.length y.Aa.length)::(g.Ar R).tail) w wr AeF Hok (by rw[zx];exact Sb XG) 0 (YH XG) pp pc pk HP HI (mayL p k y.Aa.length y.Aa.length) b y.Aa.length (by rw[zx];exact J ..) (by rw[zx];exact mayL_len ..) (by have:=Hpk.out;omega);rw[zx] at Cq;have Hpl:=hid Cq;have HRl:=hid zx;clear hs3 s3 Cq zx hs;go_wp2_with fail;refine Hpl.mono ?_;rintro e w4 ⟨rfl,gs4,hs4,AdL,he4⟩;have kO:((R0 y).IQ (EZ y) (mayL p k y.Aa.length y.Aa.length) pk).ts.length=y.Aa.length:=(mU pk (R0 y)).trans HRl.out;have ur:=mT (may:=mayL p k y.Aa.length y.Aa.length) pk (YH XG);have hk4:k < ((R0 y).IQ (EZ y) (mayL p k y.Aa.length y.Aa.length) pk).ts.length:=by rw[kO];exact hkT
     have kU:=lK F gs4 _ _ w4 hs4.Am AdL k hk4 (EZ y) ((Sb XG).ok k hkT) (ur k hk4).1 ((Sb XG).ln k hkT) 200000 (by have:=(ur k hk4).2;have:=Hpk.out;omega);rw[show((200000:Nat):Int)=200000 from rfl] at kU;have Hal:=hid kU;have AeG:=hid (readers_end XG Ty hkT (mayL p k y.Aa.length y.Aa.length) (fun t' FI Bi hmy=>mayL_no FI Bi hmy) pk (by have:=Hpk.out;omega));have wR:=hid (AeF.step hs4);clear hs4 AdL he4 kO ur hk4 kU Hpl;go_wp2_with fail;refine Hal.mono ?_;rintro e w5 ⟨rfl,gs5,p7,_,_⟩;have Af9:=hid (wR.step p7);clear p7;have AD:((Al.Df (EZ y) k 200000 ((R0 y).IQ (EZ y) (mayL p k y.Aa.length y.Aa.length) pk)).th k).BG !=0:=by simpa using AeG.out
     generalize hx:(((Al.Df (EZ y) k 200000 ((R0 y).IQ (EZ y) (mayL p k y.Aa.length y.Aa.length) pk)).th k).BG !=0)=x at*;have IG:x=true:=AD;subst IG;clear AD hx Hal AeG;go_wp2;go_ret;exact⟨rfl,Af9.Bf⟩
end Go.Proofs.YtpdfifdlhpmofaaGreatDoor
