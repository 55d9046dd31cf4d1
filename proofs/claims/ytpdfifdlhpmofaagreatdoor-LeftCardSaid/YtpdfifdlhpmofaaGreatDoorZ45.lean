/-
  Part 45 of the proof.
-/
import Derived.Test.YtpdfifdlhpmofaaGreatDoorZ44
import Derived.Test.YtpdfifdlhpmofaaGreatDoorZ43
set_option linter.unusedVariables false
set_option linter.unusedSimpArgs false
set_option maxHeartbeats 3200000
set_option maxRecDepth 100000
namespace Go.Proofs.YtpdfifdlhpmofaaGreatDoor
open Go.RowKit Tryz
open Go.Lib (hid)
variable {F:VG} {gs:List GY} {M:Al} {E:List Ob} {w:World}
theorem pd (h:Az w (MO F gs M E)) (ho:cg gs M) {t:Nat} (ht:t < M.ts.length):((M.th t).waits).length<=4:=by
 have _:=h;have:M.th t∈M.ts:=by
  show M.ts.getD t C9.new∈M.ts;rw[GE,Id ht];exact Qab _
 exact(ho.th _ this).2.1
theorem dJ (h:Az w (MO F gs M E)) (ho:cg gs M) {T:Nat} (hT:M.ts.length=T):w.cell? ⟨F.mb,1,none⟩=some (.slice F.t.p T F.t.c):=by
 have CS:=(h.Au (i:=0) rfl).cell 1;rw[show(gs.map GY.ptr).length=T by rw[z9,ho.gl,hT]] at CS;exact CS
theorem tC (s:ByteArray) (w:World) (hM:s.size<=1000000->Calls prog 10 #[.string s] w (Ur (bs s) w)) (pp:Option Addr) (pc:Nat) (pk:List Int) (hp:ca w pp pk) (hi:∀p,p∈pk->i64 p) (hb:s.size+pk.length < 4611686018427387904) (u:Int) (hu:i64 u):
  Calls prog 8 #[.string s,.slice pp pk.length pc,i5 u] w fun e w'=>e= .returned (.bool true)/\Av [] w w':=by
 have j6:True->wrap64 ((s.size:Int)+(pk.length:Int))=(s.size:Int)+(pk.length:Int):=fun _=>IntWalk.wrap64_in _ Y
 have HM:=hid hM;have HP:=hid hp;have HI:=hid hi;clear hM hp hi;by_cases u3:262144 < s.size+pk.length
 ·have Ad9:(262144:Int) < (s.size:Int)+(pk.length:Int):=Y
  clear u3;go_enter func8,ntmps8;go_wp2;go_ret;exact⟨rfl,Av.refl _ _⟩
 ·have Ad9:¬(262144:Int) < (s.size:Int)+(pk.length:Int):=Y
  have Ia:s.size<=262144:=Y
  have hpk:pk.length<=262144:=Y
  have Hma:=hid (HM Y);have Hpk:=hid hpk;clear u3 hb hpk Ia;cases hr:Fp (bs s) with
  | error c=>
   have Hr:=hid hr;clear hr;go_enter func8,ntmps8;exact naf
  | ok p=>
   obtain⟨f,z,fO⟩:=rZ hr;have Hr:=hid hr;have Ty:=hid fO;clear hr fO;go_enter func8,ntmps8;go_wp2_with fail;refine Hma.mono ?_;intro e w1 hm;obtain⟨y,g,R,F,gs,Ug,hRp,hlen,rfl,AD,hok⟩:=yE Hr hm;have hpg:=Ac1 AD.Am (fun o ho=>ho) hlen;rw[hRp] at hpg;have Ni:=vj AD;have hT:(gs.map GY.ptr).length=y.Aa.length:=by rw[z9,hok.gl,Xk Ug]
   have CS:=(AD.Am.Au (i:=0) rfl).cell 1;rw[hT] at CS;have hT0:0 < y.Aa.length:=Qae.2 Ug.ne;have hT3:y.Aa.length<=3:=(JG Ug).2.2.2;have XG:=hid Ug;have Hfr:=hid Ni;have Hok:=hid hok;have HT:=hid hT;have hpn:True->True:=id;clear hm AD Ug hRp hlen Ni hok hpg hT;have Hu:=hid hu;clear hu;have QT:=hid (Aah y.Aa.length Y w1);go_wp2_with fail;refine QT.mono ?_;rintro e w3 ⟨b,rfl,hs3⟩;have s3:=Ak.frame (L:=[]) (E:=MO F gs (R0 y) (g.Ar R).tail) Hfr.Am hs3;have AeF:=hid (Hfr.step (s3.trans (Ak.Ux s3.Am (sZ b y.Aa.length (List.replicate y.Aa.length true)))));have zx:=Xk XG.out;have Cq:=sa (EZ y) F gs (R0 y) (JQ b y.Aa.length (List.replicate y.Aa.length true)::(g.Ar R).tail) w w3 AeF Hok (by rw[zx];exact Sb XG) 0 (YH XG) pp pc pk HP HI (List.replicate y.Aa.length true) b y.Aa.length (by rw[zx];exact J ..) (by rw[zx];exact Qcs ..) (by have:=Hpk.out;omega);rw[zx] at Cq;have Hpl:=hid Cq;have HRl:=hid zx;clear hs3 s3 Cq zx QT;go_wp2_with fail;refine Hpl.mono ?_;rintro e w4 ⟨rfl,gs4,hs4,AdL,he4⟩;have kO:((R0 y).IQ (EZ y) (List.replicate y.Aa.length true) pk).ts.length=y.Aa.length:=(mU pk (R0 y)).trans HRl.out;have ur:=mT (may:=List.replicate y.Aa.length true) pk (YH XG);have hL0:=fun k=>pR.start (k:=k) XG Ty (List.replicate y.Aa.length true) pk (by have:=Hpk.out;omega) (by rw[Qaw] at ur;exact ur) kO
   have HL0:=hid hL0;have wR:=hid (AeF.step hs4);have Aap:=hid AdL;obtain⟨M4,OF⟩:∃z,z=(R0 y).IQ (EZ y) (List.replicate y.Aa.length true) pk:=⟨_,rfl⟩;rw[<-OF] at HL0 wR Aap kO;have qe:=dJ wR.Am Aap kO;have wO:=hid (dk u (y.Aa.length:Int) Y Hu w4);obtain⟨PG,Iu⟩:=dm u (n:=(y.Aa.length:Int)) Y;obtain⟨k,hk⟩:∃k:Nat,JW u (y.Aa.length:Int)=k:=⟨(JW u (y.Aa.length:Int)).toNat,Y⟩;rw[hk] at wO Iu;have hkT:k < y.Aa.length:=Y
   have AgA:=Hpk.out;clear hs4 AdL he4 ur Hpl hL0 OF hk PG CS;go_wp2_with fail;refine wO.mono ?_;rintro e w5 ⟨rfl,rfl⟩;clear wO qe;obtain⟨E,hE⟩:∃z,z=JQ b y.Aa.length (List.replicate y.Aa.length true)::(g.Ar R).tail:=⟨_,rfl⟩;rw[<-hE] at wR;clear hE;go_wp2;go_loopw [12] (fun i wr=>∃(t:Nat) (gs:List GY) (M:Al),i= i5 t/\t<=y.Aa.length/\pR y p f z k t (40*pk.length+10000*t) M/\Xo w wr (MO F gs M E)/\cg gs M) (fun i _=>y.Aa.length - (intOf i).toNat);case atStart=>exact⟨0,gs4,M4,rfl,d6 _,HL0 k,wR,Aap⟩
   case round=>
    clear HL0 wR Aap kO;obtain⟨t,gs5,M,rfl,uk,hL,hF,hO⟩:=hrel;have qe:=dJ hF.Am hO hL.len;have HL:=hid hL;have HF:=hid hF;have HO:=hid hO;clear hL hF hO;by_cases AX:t < y.Aa.length
    ·have DJ:(t:Int) < (y.Aa.length:Int):=Y
     have ht0:(0:Int)<=(t:Int):=Y
     have inc:True->wrap64 ((t:Int)+1)=((t:Int)+1):=fun _=>IntWalk.wrap64_in _ Y
     by_cases PB:t=k
     ·have Ae7:((t:Int)==(k:Int))=true:=by rw[PB];simp
      have wU:=hid (show pR y p f z k (t+1) (40*pk.length+10000*(t+1)) M by
        have q:=HL.out;subst PB;have q2:=q.skip;exact⟨q2.mj,fun j hj=>⟨(q2.run j hj).1,by have:=(q2.run j hj).2;omega⟩,q2.len,q2.FB⟩)
      have NY:=hid AX;clear PB AX uk HL;go_wp2;go_roundw;case rel=>exact⟨t+1,gs5,M,Do,NY,wU,HF,HO⟩
      case measure=>have:=NY.out;simp[intOf];omega
     ·have Ae7:((t:Int)==(k:Int))=false:=by rw[NE];omega
      have htM:t < M.ts.length:=by rw[HL.out.len];exact AX
      have kU:=lK F gs5 M E wr HF.Am HO t htM (EZ y) ((Sb XG).ok t AX) (HL.run t htM).1 ((Sb XG).ln t AX) 10000 (by have:=(HL.run t htM).2;omega);rw[show((10000:Nat):Int)=10000 from rfl] at kU;have Hal:=hid kU;have NY:=hid AX;have HtM:=hid htM;clear kU PB AX uk htM;go_wp2_with fail;refine Hal.mono ?_;rintro e w6 ⟨rfl,gs6,hs6,AbX,_⟩;have HF6:=hid (HF.step hs6);have HO6:=hid AbX;have eu:(Al.Df (EZ y) t 10000 M).ts.length=y.Aa.length:=(Tr HtM).trans HL.len;have hw6:=pd HF6.Am AbX (t:=t) (by rw[eu];exact NY.out);clear hs6 AbX Hal HF HO qe;cases hx:(((Al.Df (EZ y) t 10000 M).th t).BG !=0) with
      | false=>
       clear hx hw6 eu;go_wp2;go_ret;exact⟨rfl,HF6.Bf⟩
      | true=>
       have wU:=hid (pR.next XG Ty HL NY (by have:=NY.out;omega) (by simpa using hx) hw6);obtain⟨M6,hM6⟩:∃z,z=Al.Df (EZ y) t 10000 M:=⟨_,rfl⟩;rw[<-hM6] at wU HF6 HO6 eu;have AaY:=hid eu;clear hx hw6 hM6 HL eu;go_wp2;go_loopw [14] (fun j wr2=>∃(i:Nat) (gs:List GY),j= i5 i/\i<=4/\Xo w wr2 (MO F gs (Al.Dt i M6 t) E)/\cg gs (Al.Dt i M6 t)) (fun j _=>4 - (intOf j).toNat);case atStart=>exact⟨0,gs6,rfl,Y,HF6,HO6⟩
       case round=>
        clear HF6 HO6;obtain⟨i,gs7,rfl,hi4,hF7,hO7⟩:=hrel;have HF7:=hid hF7;have HO7:=hid hO7;clear hF7 hO7;by_cases hi:i < 4
        ·have XZ:(i:Int) < 4:=Y
         have inc2:True->wrap64 ((i:Int)+1)=((i:Int)+1):=fun _=>IntWalk.wrap64_in _ Y
         have zj:=lh F gs7 (Al.Dt i M6 t) E wr HF7.Am HO7 t (by rw[(Zx (by rw[AaY.out];exact NY.out) i).2.2.2,AaY.out];exact NY.out);have Hfl:=hid zj;have Hi:=hid hi;clear zj hi hi4;go_wp2_with fail;refine Hfl.mono ?_;rintro e w7 ⟨rfl,gs8,hs8,AbW,_⟩;rw[<-eV] at hs8 AbW;have HF8:=hid (HF7.step hs8);have HO8:=hid AbW;clear hs8 AbW Hfl HF7 HO7;go_wp2;go_roundw;case rel=>exact⟨i+1,gs8,Do,Hi,HF8,HO8⟩
         case measure=>have:=Hi.out;simp[intOf];omega
        ·have hie:i=4:=Y
         subst hie;clear hi hi4;go_wp2;go_roundw;case rel=>exact⟨t+1,gs7,_,Do,NY,by have:=wU.out;rw[show 40*pk.length+10000*t+10000=40*pk.length+10000*(t+1) by omega] at this;exact this,HF7,HO7⟩
         case measure=>have:=NY.out;simp[intOf];omega
    ·have DJ:¬(t:Int) < (y.Aa.length:Int):=Y
     have PC:t=y.Aa.length:=Y
     rw[PC] at HL;have hkM:k < M.ts.length:=by rw[HL.out.len];exact hkT
     have kU:=lK F gs5 M E wr HF.Am HO k hkM (EZ y) ((Sb XG).ok k hkT) (HL.run k hkM).1 ((Sb XG).ln k hkT) 200000 (by have:=(HL.run k hkM).2;omega);rw[show((200000:Nat):Int)=200000 from rfl] at kU;have Hal:=hid kU;have AeG:=hid (tB XG Ty hkT hT3 HL);clear kU hkM PC uk;go_wp2_with fail;refine Hal.mono ?_;rintro e w6 ⟨rfl,gs6,hs6,_,_⟩;have Af9:=hid (HF.step hs6);clear hs6;have AD:((Al.Df (EZ y) k 200000 M).th k).BG !=0:=by simpa using AeG.out
     generalize hx:(((Al.Df (EZ y) k 200000 M).th k).BG !=0)=x at*;have IG:x=true:=AD;subst IG;clear AD hx Hal AeG;go_wp2;go_ret;exact⟨rfl,Af9.Bf⟩
end Go.Proofs.YtpdfifdlhpmofaaGreatDoor
