/-
  Part 42 of the proof.
-/
import Derived.Test.YtpdfifdlhpmofaaGreatDoorZ41
set_option linter.unusedVariables false
set_option linter.unusedSimpArgs false
set_option maxHeartbeats 3200000
set_option maxRecDepth 100000
namespace Go.Proofs.YtpdfifdlhpmofaaGreatDoor
open Go.RowKit Tryz
open Go.Lib (hid)
theorem nak {p:Prop} (h:p:=by
 go_wp2;go_roundw;case rel=>exact⟨j+1,M',gs',Do,NY,HS,HO,HE,Gz,fun k hk=>⟨(pT k hk).1,by have:=(pT k hk).2;omega⟩,pV⟩
 case measure=>have:=NY.out;simp[intOf];omega):p:=h
theorem naH {p:Prop} (h:p:=by
 go_enter func18,ntmps18;go_wp2;go_ret;rw[<-hq.out];exact⟨rfl,rfl⟩):p:=h
variable {Ab:Nat->List GI} {M:Al} {N k n t mb:Nat} {F:VG} {gs:List GY} {E:List Ob} {w w':World} {may:List Bool} {xs:List TV} {mv:Nat->Prop} {tv:Value}
def JW (c n:Int):Int:=(if c < 0 then -(c+1) else c) % n
theorem dm (c:Int) {n:Int} (hn:0 < n):0<=JW c n/\JW c n < n:=⟨Int.emod_nonneg _ Y,Int.emod_lt_of_pos _ hn⟩
theorem dk (c n:Int) (hn:0 < n) (hc:i64 c) (w:World):Calls prog 18 #[i5 c,i5 n] w fun e w'=>e= .returned (i5 (JW c n))/\w'=w:=by
 unfold i64 at hc;obtain⟨h1,h2⟩:=hc;have Gu:(n==0)=false:=by rw[NE];omega
 by_cases h0:c < 0
 ·have w1:True->wrap64 (c+1)=c+1:=fun _=>IntWalk.wrap64_in _ Y
  have w2:True->wrap64 (-(c+1))= -(c+1):=fun _=>IntWalk.wrap64_in _ Y
  have hq:=hid (show -((c+1).tmod n)=JW c n by unfold JW;rw[In h0,<-Int.neg_tmod,Int.tmod_eq_emod_of_nonneg Y]);exact naH
 ·have hq:=hid (show c % n=JW c n by unfold JW;rw[I h0]);exact naH
def Tt (p:Int):Nat×Nat:=((JW p 1073741824).toNat % 4,if (JW p 1073741824).toNat / 4 % 4=0 then 0 else 1+(JW p 1073741824).toNat / 16 % 40)
theorem bY (p:Int):(Tt p).1 < 4/\(Tt p).2<=40:=by
 unfold Tt;dsimp only;refine⟨Nat.mod_lt _ AC,?_⟩;split <;>omega
theorem Aai (p:Int) (hp:i64 p) (w:World):Calls prog 29 #[i5 p] w fun e w'=>e= .returned (.tuple #[i5 (Tt p).1,i5 (Tt p).2])/\w'=w:=by
 have Hp:=hid (dk p 1073741824 AC hp w);have RV:=dm p (n:=1073741824) AC;have hA:Tt p=((JW p 1073741824).toNat % 4,if (JW p 1073741824).toNat / 4 % 4=0 then 0 else 1+(JW p 1073741824).toNat / 16 % 40):=rfl;generalize JW p 1073741824=x at*;obtain⟨n,rfl⟩:∃n:Nat,x=n:=⟨x.toNat,Y⟩;rw[Qbq] at hA;have m4:(n:Int) % 4=((n % 4:Nat):Int):=rfl;have d4:(n:Int) / 4 % 4=((n / 4 % 4:Nat):Int):=rfl;have d16:(n:Int) / 16 % 40=((n / 16 % 40:Nat):Int):=rfl;have w1:True->wrap64 ((n:Int) / 4)=(n:Int) / 4:=fun _=>IntWalk.wrap64_in _ Y
 have w2:True->wrap64 ((n:Int) / 16)=(n:Int) / 16:=fun _=>IntWalk.wrap64_in _ Y
 have w3:True->wrap64 (1+(n:Int) / 16 % 40)=1+(n:Int) / 16 % 40:=fun _=>IntWalk.wrap64_in _ Y
 have t4:True->((n:Int) / 4).tmod 4=(n:Int) / 4 % 4:=fun _=>rfl
 have t16:True->((n:Int) / 16).tmod 40=(n:Int) / 16 % 40:=fun _=>rfl
 rw[hA];clear hA RV;have M4:=hid m4;have Z95:=hid d16;by_cases h0:n / 4 % 4=0
 ·rw[In h0];have qp:((n:Int) / 4 % 4==0)=true:=by rw[d4,h0];rfl
  clear d4 h0 d16 m4;go_enter func29,ntmps29;go_wp2_with fail;refine Hp.mono ?_;rintro e w1 ⟨rfl,rfl⟩;go_wp2;go_ret2;rw[<-M4.out];exact⟨rfl,rfl⟩
 ·rw[I h0];have qp:((n:Int) / 4 % 4==0)=false:=by rw[d4,NE];omega
  clear d4 h0 d16 m4;go_enter func29,ntmps29;go_wp2_with fail;refine Hp.mono ?_;rintro e w1 ⟨rfl,rfl⟩;go_wp2;go_ret2;rw[Int.natCast_add,<-M4.out,<-Z95.out];exact⟨rfl,rfl⟩
structure jV (Ab:Nat->List GI) (T:Nat):Prop where
 ok:∀k,k < T->∀i,i∈Ab k->Px 4000 i
 ln:∀k,k < T->(Ab k).length<=4000
def EU (Ab:Nat->List GI) (M:Al) (N:Nat):Prop:=∀k,k < M.ts.length->(M.th k).Ab=(Ab k).map GI.DR/\(M.th k).out.length<=N
theorem EU.put {N':Nat} (h:EU Ab M N) (hn:N<=N') {s:C9×List Int} (hc:s.1.Ab=(M.th k).Ab) (ho:s.1.out.length<=N'):EU Ab (M.put k s) N':=fun j hj=>by
 rw[Jo] at hj;obtain⟨h1,h2⟩:=h j hj;by_cases hk:k < M.ts.length
 ·have e:(M.put k s).th j=if j=k then s.1 else M.th j:=Qf hk
  rw[e];split
  ·rename_i he;subst he;exact⟨hc.trans h1,ho⟩
  ·exact⟨h1,Y⟩
 ·have e:(M.put k s).ts=M.ts:=List.set_eq_of_length_le Y;have e2:(M.put k s).th j=M.th j:=by unfold Al.th;rw[e]
  rw[e2];exact⟨h1,Y⟩
theorem EU.Cy (h:EU Ab M N) (hk:k < M.ts.length):EU Ab (M.Cy k) N:=by
 rw[Pj hk];exact h.put (LE _) rfl (h k hk).2
theorem EU.step (h:EU Ab M N) (hk:k < M.ts.length):EU Ab (M.step Ab k) (N+1):=by
 rw[Q9 hk];have K:=SA (Ab k) (M.th k,M.mem);have:=(h k hk).2;exact h.put (Qan _) K.1 (by have:=K.2;dsimp only at this;omega)
theorem pJ (l:List GI) (n:Nat) (s:C9×List Int):(wC l n s).1.Ab=s.1.Ab/\(wC l n s).1.out.length<=s.1.out.length+n:=by
 induction n generalizing s with
 | zero=>exact⟨rfl,LE _⟩
 | succ n ih=>
  unfold wC;split
  ·obtain⟨h1,h2⟩:=ih (IX (cN l s));obtain⟨k1,k2⟩:=SA l s;obtain⟨d1,d2⟩:=Um (cN l s);rw[h1,d1,k1];rw[d2] at h2;exact⟨rfl,Y⟩
  ·exact⟨rfl,Y⟩
theorem EU.alone (h:EU Ab M N) (hk:k < M.ts.length):EU Ab (Al.Df Ab k n M) (N+n):=by
 rw[Pq hk];have K:=pJ (Ab k) n (M.th k,M.mem);have:=(h k hk).2;exact h.put (Nat.le_add_right _ _) K.1 (by have:=K.2;dsimp only at this;omega)
theorem M8 (M:Al) (k:Nat):(M.Cy k).ts.length=M.ts.length:=by
 unfold Al.Cy;split
 ·rfl
 ·exact Qaa ..
theorem Rb (hk:k < M.ts.length):(M.step Ab k).ts.length=M.ts.length:=by rw[Q9 hk,Jo]
theorem Tr (hk:k < M.ts.length):(Al.Df Ab k n M).ts.length=M.ts.length:=by rw[Pq hk,Jo]
namespace Al
def Rc (Ab:Nat->List GI) (t:Nat):Nat->Al->Al
 | 0,M=>M
 | n+1,M=>Rc Ab t n (M.step Ab t)
def L0 (Ab:Nat->List GI) (M:Al) (t n:Nat):Al:=Rc Ab t n (if n=0 then M.Cy t else M)
end Al
theorem YA (n:Nat) {M:Al} (hk:t < M.ts.length):(Al.Rc Ab t n M).ts.length=M.ts.length:=by
 induction n generalizing M with
 | zero=>rfl
 | succ n ih=>exact(ih (by rw[Rb hk];exact hk)).trans (Rb hk)
theorem Yz (n:Nat) {M:Al} {N:Nat} (h:EU Ab M N) (hk:t < M.ts.length):EU Ab (Al.Rc Ab t n M) (N+n):=by
 induction n generalizing M N with
 | zero=>exact h
 | succ n ih=>
  have:=ih (h.step hk) (by rw[Rb hk];exact hk);rw[show N+1+n=N+(n+1) by omega] at this;exact this
theorem SN (hk:t < M.ts.length):(M.L0 Ab t n).ts.length=M.ts.length:=by
 unfold Al.L0;split
 ·rw[YA n (by rw[M8];exact hk),M8]
 ·exact YA n hk
theorem Y0 (h:EU Ab M N) (hk:t < M.ts.length):EU Ab (M.L0 Ab t n) (N+n):=by
 unfold Al.L0;split
 ·exact Yz n (h.Cy hk) (by rw[M8];exact hk)
 ·exact Yz n h hk
theorem Uq.trans {M1 M2:Al} {w1 w2:World} {gs1:List GY} (s1:Ak w (MO F gs M E) w1 (MO F gs1 M1 E)) (e1:gs1.map GY.ptr=gs.map GY.ptr) (h:Uq F gs1 M1 M2 E w1 w2):Uq F gs M M2 E w w2:=by
 obtain⟨gs2,s2,o2,e2⟩:=h;exact⟨gs2,s1.trans s2,o2,e2.trans e1⟩
theorem nk (Ab:Nat->List GI) (F:VG) (gs:List GY) (M:Al) (E:List Ob) (w:World) (h:Az w (MO F gs M E)) (ho:cg gs M) (hC:jV Ab M.ts.length) (N:Nat) (hR:EU Ab M N) (t n:Nat) (ht:t < M.ts.length) (hN:N+n<=1000000000):
  Calls prog 31 #[i6 F.mb,i5 t,i5 n] w fun e w'=>e= .returned (.tuple #[])/\Uq F gs M (M.L0 Ab t n) E w w':=by
 generalize AF:M.L0 Ab t n=res;unfold Al.L0 at AF;have H:=hid h;have Ho:=hid ho;have HC:=hid hC;have HR:=hid hR;have Ht:=hid ht;have Hf:=hid (lh F gs M E w h ho t ht);clear h ho hC hR ht;by_cases h0:n=0
 ·subst h0;have Hr:=hid (show M.Cy t=res from AF);clear AF;go_enter func31,ntmps31;go_wp2_with fail;refine Hf.mono ?_;rintro e w1 ⟨rfl,hm⟩;rw[Hr.out] at hm;have HM:=hid hm;clear hm;go_wp2;go_loopw [6] (fun i wr=>wr=w1/\i= i5 0) (fun _ _=>0);case atStart=>exact⟨rfl,rfl⟩
  case round=>
   obtain⟨rfl,rfl⟩:=hrel;go_wp2
   go_end0
   exact⟨rfl,HM⟩
 ·rw[I h0] at AF;have Hr:=hid AF;have qp:((n:Int)==0)=false:=by rw[NE];omega
  clear AF h0;go_enter func31,ntmps31;go_wp2;go_loopw [6] (fun i wr=>∃(j:Nat) (M':Al) (gs':List GY),i= i5 j/\j<=n/\Ak w (MO F gs M E) wr (MO F gs' M' E)/\cg gs' M'/\gs'.map GY.ptr=gs.map GY.ptr/\Al.Rc Ab t (n - j) M'=res/\EU Ab M' (N+j)/\M'.ts.length=M.ts.length) (fun i _=>n - (intOf i).toNat);case atStart=>exact⟨0,M,gs,rfl,d6 _,Ak.refl H,Ho,rfl,Hr,HR,rfl⟩
  case round=>
   obtain⟨j,M',gs',rfl,eC,hs,Oz,he,hr,SX,hlen⟩:=hrel;by_cases AX:j < n
   ·have DJ:(j:Int) < (n:Int):=Y
    have inc:True->wrap64 ((j:Int)+1)=((j:Int)+1):=fun _=>IntWalk.wrap64_in _ Y
    have XY:t < M'.ts.length:=by rw[hlen];exact Ht.out
    have KT:=hid (Abc F gs' M' E wr hs.Am Oz t XY Ab (HC.ok t Ht) (SX t XY).1 (HC.ln t Ht) (by have:=(SX t XY).2;omega));have Hr1:=hid (SX.step XY);have Hl1:=hid ((Rb (Ab:=Ab) XY).trans hlen);have Gz:=hid (show Al.Rc Ab t (n - (j+1)) (M'.step Ab t)=res by
      rw[<-hr,show n - j=n - (j+1)+1 by omega];rfl)
    have HS:=hid hs;have HE:=hid he;have NY:=hid AX;clear hs Oz he hr SX hlen XY AX eC;go_wp2_with fail;refine KT.mono ?_;rintro e w2 ⟨rfl,gs2,Uf,SY,fT⟩;have HS2:=hid (HS.trans Uf);have HO2:=hid SY;have HE2:=hid (fT.trans HE);clear Uf SY fT;go_wp2;go_roundw;case rel=>exact⟨j+1,_,gs2,Do,NY,HS2,HO2,HE2,Gz,Hr1,Hl1⟩
    case measure=>have:=NY.out;simp[intOf];omega
   ·have DJ:¬(j:Int) < (n:Int):=Y
    have e:M'=res:=by rw[<-hr,show n - j=0 by omega];rfl
    have HS:=hid hs;have HE:=hid he;have HO:=hid Oz;have He:=hid e;clear hs he Oz e hr SX hlen;go_wp2
    go_end0
    rw[<-He.out];exact⟨rfl,gs',HS,HO,HE⟩
structure Xo (w0 w:World) (L:List Ob):Prop where
 Bf:Av [] w0 w
 Am:Az w L
 new:∀b,b∈D4 L->w0.heap.size<=b
theorem Xo.step {w0:World} {L L':List Ob} (h:Xo w0 w L) (s:Ak w L w' L'):Xo w0 w' L':=by
 exact⟨h.Bf.trans s.Bf fun b hb=> .inr (h.new b hb),s.Am,fun b hb=>(s.fp b hb).elim (h.new b) fun h2=>Qb6 h.Bf.size h2⟩
def ca (w0:World) (pp:Option Addr) (pk:List Int):Prop:=∀i,i < pk.length->∃b o,pp=some ⟨b,o,none⟩/\w0.cell? ⟨b,o+i,none⟩=some (i5 (pk.getD i 0))
def Al.IQ (Ab:Nat->List GI) (may:List Bool):List Int->Al->Al
 | [],M=>M
 | p::r,M=>IQ Ab may r (if (Tt p).1 < M.ts.length/\may.getD (Tt p).1 false=true then M.L0 Ab (Tt p).1 (Tt p).2 else M)
theorem mU (l:List Int) (M:Al):(Al.IQ Ab may l M).ts.length=M.ts.length:=by
 induction l generalizing M with
 | nil=>rfl
 | cons p r ih=>
  unfold Al.IQ;rw[ih];split
  ·rename_i h;exact SN h.1
  ·rfl
theorem sa (Ab:Nat->List GI) (F:VG) (gs:List GY) (M:Al) (E:List Ob) (w0 w:World) (hf:Xo w0 w (MO F gs M E)) (ho:cg gs M) (hC:jV Ab M.ts.length) (N:Nat) (hR:EU Ab M N)
  (pp:Option Addr) (pc:Nat) (pk:List Int) (hp:ca w0 pp pk) (hi:∀p,p∈pk->i64 p) (may:List Bool) (mp mc:Nat) (hm:Ob.row (.slice (some ⟨mp,0,none⟩) M.ts.length mc) 4 1 M.ts.length (may.map .bool)∈E) (qe:may.length=M.ts.length) (hN:N+40*pk.length<=1000000000):
  Calls prog 20 #[i6 F.mb,.slice pp pk.length pc,.slice (some ⟨mp,0,none⟩) M.ts.length mc] w fun e w'=>e= .returned (.tuple #[])/\Uq F gs M (M.IQ Ab may pk) E w w':=by
 generalize AF:M.IQ Ab may pk=res;have Hf:=hid hf;have Ho:=hid ho;have HC:=hid hC;have HR:=hid hR;have Hp:=hid hp;have Hi:=hid hi;have Hm:=hid hm;have Hml:=hid qe;have AJ:=hid AF;have hT:M.ts.length<=3:=ho.tl;have hT':(M.ts.length:Int)<=3:=Y
 clear hf ho hC hR hp hi hm qe AF;generalize hTe:M.ts.length=T at*;go_enter func20,ntmps20;go_wp2;go_loopw [6] (fun i wr=>∃(j:Nat) (M':Al) (gs':List GY),i= i5 j/\j<=pk.length/\Ak w (MO F gs M E) wr (MO F gs' M' E)/\cg gs' M'/\gs'.map GY.ptr=gs.map GY.ptr/\M'.IQ Ab may (pk.drop j)=res/\EU Ab M' (N+40*j)/\M'.ts.length=T) (fun i _=>pk.length - (intOf i).toNat);case atStart=>exact⟨0,M,gs,rfl,d6 _,Ak.refl Hf.Am,Ho,rfl,AJ,HR,hTe⟩
 case round=>
  obtain⟨j,M',gs',rfl,eC,hs,Oz,he,hr,SX,hlen⟩:=hrel;by_cases AX:j < pk.length
  ·have DJ:(j:Int) < (pk.length:Int):=Y
   have hj0:(0:Int)<=(j:Int):=Y
   have inc:True->wrap64 ((j:Int)+1)=((j:Int)+1):=fun _=>IntWalk.wrap64_in _ Y
   obtain⟨b,o,rfl,Lm⟩:=Hp.out j AX;have hF:=Hf.step hs;have KM:wr.cell? ⟨b,o+j,none⟩=some (i5 (pk.getD j 0)):=AU hF.Bf Lm;have hdr:pk.drop j=pk.getD j 0::pk.drop (j+1):=by
    rw[Qa6 AX,GE,Id AX];rfl
   have AdJ:i64 (pk.getD j 0):=Hi.out _ (by rw[GE,Id AX];exact Qab AX);rw[hdr] at hr;have CS:=(hs.Am.Au (i:=0) rfl).cell 1;have Cq:(gs'.map GY.ptr).length=T:=by rw[z9,Oz.gl];exact hlen
   rw[Cq] at CS;have Age:=hid (Aai (pk.getD j 0) AdJ wr);have hai:=bY (pk.getD j 0);generalize pk.getD j 0=x at*;have ch:wr.ownsRow 0 4 1 (.slice (some ⟨mp,0,none⟩) T mc) T (may.map .bool):=hs.Am.holds (.row (.slice (some ⟨mp,0,none⟩) T mc) 4 1 T (may.map .bool)) (by unfold MO;exact GT _ (GT _ Hm));obtain⟨Cu,_,_⟩:=Bm ch;have AdT:∀n,(hn:n < T)->wr.cell? ⟨mp,n,none⟩=some (.bool (may.getD n false)):=fun n hn=>by
    have hn':n < may.length:=by rw[Hml.out];exact hn
    rw[Cu n (by rw[z9];exact hn'),List.getElem_map,GE,Id hn'];rfl
   unfold Al.IQ at hr;rw[hlen] at hr;generalize hA:Tt x=A at*;obtain⟨t,n⟩:=A;dsimp only at hai hr;have ht0:(0:Int)<=(t:Int):=Y
   have hC2:=HC.out;rw[<-hlen] at hC2;have HS:=hid hs;have HO:=hid Oz;have HE:=hid he;have Hr:=hid hr;have pT:=hid SX;have pV:=hid hlen;have NY:=hid AX;have HC2:=hid hC2;have Af6:=hid AdT;have Hai:=hid hai;clear hs Oz he hr SX hlen Lm hdr AdJ Cu ch AdT hF hC2 Cq hA;go_wp2_with fail;refine Age.mono ?_;rintro e w1 ⟨rfl,rfl⟩;by_cases uk:t < T
   ·have Ae9:(t:Int) < (T:Int):=Y
    have hmc:=Af6.out t uk;cases QZ:may.getD t false with
    | true=>
     rw[QZ] at hmc;have IK:=Hr.out;rw[In ⟨uk,QZ⟩] at IK;have XY:t < M'.ts.length:=by rw[pV.out];exact uk
     have Hmv:=hid (nk Ab F gs' M' E w1 HS.Am HO HC2 (N+40*j) pT t n XY (by have:=Hai.2;have:=NY.out;omega));have yV:EU Ab (M'.L0 Ab t n) (N+40*(j+1)):=fun k hk=>by
      obtain⟨q1,q2⟩:=Y0 (n:=n) pT XY k hk;exact⟨q1,by have:=Hai.2;omega⟩
     have Hrn:=hid yV;have Gz:=hid IK;have Hl2:=hid ((SN (Ab:=Ab) (n:=n) XY).trans pV);clear yV IK XY QZ uk;go_wp2_with fail;refine Hmv.mono ?_;rintro e w2 ⟨rfl,gs2,Uf,SY,fT⟩;have HS2:=hid (HS.trans Uf);have HO2:=hid SY;have HE2:=hid (fT.trans HE);clear Uf SY fT;go_wp2;go_roundw;case rel=>exact⟨j+1,_,gs2,Do,NY,HS2,HO2,HE2,Gz,Hrn,Hl2⟩
     case measure=>have:=NY.out;simp[intOf];omega
    | false=>
     rw[QZ] at hmc;have IK:=Hr.out;rw[I (fun h=>by rw[QZ] at h;exact UV h.2 AC)] at IK;have Gz:=hid IK;clear IK QZ uk;exact nak
   ·have Ae9:¬(t:Int) < (T:Int):=Y
    have IK:=Hr.out;rw[I (fun h=>uk h.1)] at IK;have Gz:=hid IK;clear IK uk;exact nak
  ·have DJ:¬(j:Int) < (pk.length:Int):=Y
   have e:M'=res:=by
    rw[<-hr,Qbc Y];rfl
   have HS:=hid hs;have HE:=hid he;have HO:=hid Oz;have He:=hid e;clear hs he Oz e hr SX;go_wp2
   go_end0
   rw[<-He.out];exact⟨rfl,gs',HS,HO,HE⟩
def SC:Value->SG
 | .slice p _ c=>⟨p,c⟩
 | _=>⟨none,0⟩
theorem LU {e:TypeId} {s:Nat} {v:Value} {xs:List Value} (h:w.ownsRow 0 e s v n xs):v= .slice (SC v).p n (SC v).c:=by
 obtain⟨p,c,rfl,_⟩:=Rl h;rfl
def TV.g (x:TV):GY:=⟨x.tb,SC x.cv,SC x.rv,SC x.wv,SC x.ov⟩
def X6 (mb:Nat) (mv tv:Value):VG:=⟨0,⟨none,0⟩,⟨none,0⟩,⟨none,0⟩,⟨none,0⟩,mb,SC mv,SC tv⟩
theorem Aa7 {x:TV} {t:C9} (h:NN w x t) (F:VG):(∀o,o∈(x.g.on F).U1 t->o.holds w)/\D4 ((x.g.on F).U1 t)=x.fp:=by
 obtain⟨h1,h2,h3,h4,h5⟩:=h;have e2:=LU h2;have e3:=LU h3;have e4:=LU h4;have e5:=LU h5;obtain⟨tb,cv,rv,wv,ov⟩:=x;dsimp only at*;generalize SC cv=a at*;generalize SC rv=b at*;generalize SC wv=c at*;generalize SC ov=d at*;subst e2 e3 e4 e5;refine⟨fun o ho=> ?_,?_⟩
 ·simp only[VG.U1,GY.on,TV.g,Pi,Qap,or_false] at ho;rcases ho with rfl | rfl | rfl | rfl | rfl
  ·exact h1
  ·exact h2
  ·exact h3
  ·exact h4
  ·exact h5
 ·simp[D4,VG.U1,GY.on,TV.g,SC,TV.fp,Ob.fp]
theorem xJ (F:VG) {xs:List TV} {ts:List C9} (h:∀p,p∈xs.zip ts->NN w p.1 p.2) (hl:xs.length=ts.length):(∀o,o∈Pu F (xs.map TV.g) ts->o.holds w)/\D4 (Pu F (xs.map TV.g) ts)=xs.flatMap TV.fp:=by
 induction xs generalizing ts with
 | nil=>exact⟨fun o ho=>UV ho (by unfold Pu;simp),by unfold Pu;rfl⟩
 | cons x xs ih=>
  cases ts with
  | nil=>cases hl
  | cons t ts=>
   obtain⟨a1,a2⟩:=Aa7 (h (x,t) (J ..)) F;obtain⟨b1,b2⟩:=ih (ts:=ts) (fun p hp=>h p (U _ hp)) (by simpa using hl);show(∀o,o∈(x.g.on F).U1 t++Pu F (xs.map TV.g) ts->o.holds w)/\D4 ((x.g.on F).U1 t++Pu F (xs.map TV.g) ts)=_;refine⟨fun o ho=>(Nm.1 ho).elim (a1 o) (b1 o),?_⟩;rw[A4,a2,b2,Qas]
theorem Adf {mv:Value} (h:Ex w mb mv tv xs M):Az w (MO (X6 mb mv tv) (xs.map TV.g) M [])/\D4 (MO (X6 mb mv tv) (xs.map TV.g) M [])=BD mb mv tv xs:=by
 obtain⟨h1,h2,h3,h4,h5,h6⟩:=h;obtain⟨t1,t2⟩:=xJ (X6 mb mv tv) h5 h4;have em:=LU h2;have et:=LU h3;have Afs:(xs.map TV.g).map GY.ptr=xs.map TV.ptr:=by rw[Qdo];rfl
 have Cq:(xs.map TV.ptr).length=xs.length:=z9 ..;have hM:(X6 mb mv tv).QC M.mem ((xs.map TV.g).map GY.ptr)=[.Au mb #[mv,tv] 34,.row mv 2 1 M.mem.length (Fy M.mem),.row tv 69 1 xs.length (xs.map TV.ptr)]:=by
  unfold VG.QC X6;dsimp only;rw[Afs,Cq,<-em,<-et]
 have kP:D4 (MO (X6 mb mv tv) (xs.map TV.g) M [])=BD mb mv tv xs:=by
  unfold MO;rw[hM,A4,i7,t2];simp[D4,Ob.fp,BD]
 refine⟨⟨fun o ho=> ?_,by rw[kP];exact h6⟩,kP⟩;unfold MO at ho;rw[hM,i7] at ho;rcases Nm.1 ho with ho | ho
 ·simp only[Pi,Qap,or_false] at ho;rcases ho with rfl | rfl | rfl
  ·exact h1
  ·exact h2
  ·exact h3
 ·exact t1 o ho
theorem yA {mv:Value} (hE:Az w E) (h:Ex w' mb mv tv xs M) (k:Av [] w w') (hn:∀b,b∈BD mb mv tv xs->w.heap.size<=b):Ak w E w' (MO (X6 mb mv tv) (xs.map TV.g) M E):=by
 obtain⟨o,f⟩:=Adf h;have e:MO (X6 mb mv tv) (xs.map TV.g) M E=MO (X6 mb mv tv) (xs.map TV.g) M []++E:=by unfold MO;simp
 have hE':=hE.Bf k EQ;refine⟨⟨fun x hx=> ?_,?_⟩,k.nil,fun b hb=> ?_⟩
 ·rw[e] at hx;exact(Nm.1 hx).elim (o.holds x) (hE'.holds x)
 ·rw[e,A4];refine i9.2 ⟨o.KE,hE.KE,fun a ha b hb Su=> ?_⟩;subst Su;rw[f] at ha;have:=hn a ha;have:=hE.lt a hb;omega
 ·rw[e,A4] at hb;rcases Nm.1 hb with hb | hb
  ·rw[f] at hb;exact .inr (hn b hb)
  ·exact .inl hb
theorem mkB (n:Nat) (h:n=1\/n=2\/n=3) (w:World):(Instr.makeSlice 51 (i5 n) (i5 n)).run prog w= .ok (.slice (some ⟨w.heap.size,0,none⟩) n n) (w.alloc (.cells (Array.replicate n (.bool false)) 4)):=by
 rcases h with rfl | rfl | rfl <;>kernel_rfl
def JQ (b n:Nat) (l:List Bool):Ob:= .row (.slice (some ⟨b,0,none⟩) n n) 4 1 n (l.map .bool)
theorem vV (n:Nat) (h:n=1\/n=2\/n=3) (w:World):Ak w [] (w.alloc (.cells (Array.replicate n (.bool false)) 4)) [JQ w.heap.size n (List.replicate n false)]:=by
 have m:Av [] w (w.alloc (.cells (Array.replicate n (.bool false)) 4)):=(Av.refl _ _).alloc _;have Ia:(w.alloc (.cells (Array.replicate n (.bool false)) 4)).heap[w.heap.size]?=some (.cells (Array.replicate n (.bool false)) 4 (0,0)):=BM.new w _ _;refine⟨⟨fun o ho=> ?_,by simp[D4,JQ,Ob.fp,Value.ownBlock]⟩,m.nil,fun b hb=> ?_⟩
 ·rw[Z] at ho;subst ho;show World.ownsRow _ 0 4 1 (.slice (some ⟨w.heap.size,0,none⟩) n n) n ((List.replicate n false).map .bool);refine⟨EQ,.inr ⟨w.heap.size,n,Array.replicate n (.bool false),rfl,d6 _,Ia,LE _,?_,?_,?_⟩⟩
  ·unfold maxLen;omega
  ·simp
  ·simp
 ·simp[D4,JQ,Ob.fp,Value.ownBlock] at hb;exact .inr Y
theorem Aah (n:Nat) (h:n=1\/n=2\/n=3) (w:World):Calls prog 19 #[i5 n] w fun e w'=>∃b,e= .returned (.slice (some ⟨b,0,none⟩) n n)/\Ak w [] w' [JQ b n (List.replicate n true)]:=by
 have qg:=mkB n h w;have s0:=hid (vV n h w);have hn:n<=3:=Y
 clear h;go_enter func19,ntmps19;go_wp2;generalize hb:w.heap.size=b at*;go_loopw [4] (fun i wr=>∃j:Nat,i= i5 j/\j<=n/\Ak w [] wr [JQ b n (List.replicate j true++List.replicate (n - j) false)]) (fun i _=>n - (intOf i).toNat);case atStart=>exact⟨0,rfl,d6 _,s0⟩
 case round=>
  obtain⟨j,rfl,eC,hs⟩:=hrel;by_cases AX:j < n
  ·have DJ:(j:Int) < (n:Int):=Y
   have hj0:(0:Int)<=(j:Int):=Y
   have inc:True->wrap64 ((j:Int)+1)=((j:Int)+1):=fun _=>IntWalk.wrap64_in _ Y
   obtain⟨q1,q2,q3⟩:=Bm (hs.Am.row (i:=0) rfl);have hc:=q1 j (by simp;omega);have hfz:=q2 j;have s1:=hs.Am.HU (i:=0) (g:=b) (n:=n) (cap:=n) (e:=4) (size:=1) (xs:=(List.replicate j true++List.replicate (n - j) false).map .bool) rfl j (by simp;omega) (.bool true);have e:((List.replicate j true++List.replicate (n - j) false).map Value.bool).set j (.bool true)=(List.replicate (j+1) true++List.replicate (n - (j+1)) false).map .bool:=by
    rw[show n - j=n - (j+1)+1 by omega,List.replicate_succ,List.replicate_succ',Qaz,d8,Qa9 _ _ EQ];simp
   have Uf:Ak w [] (wr.setCell ⟨b,j,none⟩ (.bool true)) [JQ b n (List.replicate (j+1) true++List.replicate (n - (j+1)) false)]:=by
    refine hs.trans ?_;have:=s1;rw[e] at this;exact this
   have HS:=hid Uf;have NY:=hid AX;obtain⟨cv,uY⟩:∃v,wr.cell? ⟨b,j,none⟩=some v:=⟨_,hc⟩;clear hs q1 q2 q3 s1 e Uf hc AX eC qg;go_wp2;go_roundw;case rel=>exact⟨j+1,Do,NY,HS⟩
   case measure=>have:=NY.out;simp[intOf];omega
  ·have DJ:¬(j:Int) < (n:Int):=Y
   have Afy:j=n:=Y
   subst Afy;rw[Qbt,List.replicate_zero,i7] at hs;have HS:=hid hs;clear hs;go_wp2;go_ret;exact⟨b,rfl,HS⟩
structure AfV (w:World) (pb:Nat) (p:RP):Prop where
 c1:w.cell? ⟨pb,1,none⟩=some (i5 p.cells)
 u:∃ub uc,(0 < p.Ao.length->∃b,ub=some (⟨b,0,none⟩:Addr))/\w.cell? ⟨pb,2,none⟩=some (.slice ub p.Ao.length uc)/\∀t,t < p.Ao.length->∃b db dc,ub=some ⟨b,0,none⟩/\w.cell? ⟨b,t,none⟩=some (.slice db (p.Ao.getD t []).length dc)/\∀c,c < (p.Ao.getD t []).length->∃a,db=some ⟨a,0,none⟩/\w.cell? ⟨a,c,none⟩=some (.bool ((p.Ao.getD t []).getD c false))
 q:∃qb qc,w.cell? ⟨pb,3,none⟩=some (.slice qb p.BJ.length qc)/\∀t,t < p.BJ.length->∃a,qb=some ⟨a,0,none⟩/\w.cell? ⟨a,t,none⟩=some (.bool (p.BJ.getD t false))
theorem lF {a:SG} {l:List Bool} (h:(Cd a l).holds w) {c:Nat} (hc:c < l.length):∃b,a.p=some ⟨b,0,none⟩/\w.cell? ⟨b,c,none⟩=some (.bool (l.getD c false)):=by
 have h':w.ownsRow 0 4 1 (.slice a.p l.length a.c) l.length (FK l):=h;obtain⟨b,cc,e,_,_,_,_,eF,_⟩:=AG h' Y;have hl:c < (FK l).length:=by unfold FK;rw[z9];exact hc
 refine⟨b,by injection e,?_⟩;have e2:(FK l)[c]?=some (.bool (l.getD c false)):=by
  unfold FK;rw[Qax,GE,Id hc];rfl
 rw[eF c hl,<-Id,e2]
theorem Ac1 {g:RG} {R:RS} (h:Az w (MO F gs M E)) (hE:∀o,o∈(g.Ar R).tail->o∈E) (hl:Dq g R):AfV w g.pb R.p:=by
 have RV:∀o,o∈(g.Ar R).tail->o.holds w:=fun o ho=>h.holds o (by unfold MO;exact GT _ (GT _ (hE o ho)))
 have J1:BM w g.pb #[.slice g.t.p R.p.Aa.length g.t.c,i5 R.p.cells,.slice g.u.p R.p.Ao.length g.u.c,.slice g.q.p R.p.BJ.length g.q.c] 53:=RV (.Au _ _ _) (by unfold RG.Ar;simp);have hu:w.ownsRow 0 51 1 (.slice g.u.p R.p.Ao.length g.u.c) R.p.Ao.length (BC g.dv R.p.Ao):=RV (.row (.slice g.u.p R.p.Ao.length g.u.c) 51 1 R.p.Ao.length (BC g.dv R.p.Ao)) (by unfold RG.Ar;simp);have hq:(Cd g.q R.p.BJ).holds w:=RV _ (by unfold RG.Ar;simp);have hd:∀t,(ht:t < R.p.Ao.length)->(Cd (g.dv[t]'(by rw[hl.dl];exact ht)) R.p.Ao[t]).holds w:=fun t ht=>RV _ (by
   unfold RG.Ar;have:Cd (g.dv[t]'(by rw[hl.dl];exact ht)) R.p.Ao[t]∈List.zipWith Cd g.dv R.p.Ao:=by
     rw[<-List.getElem_zipWith (f:=Cd) (h:=by rw[List.length_zipWith,hl.dl];omega)];exact Qab _
   exact GT [_,_,_,_,_,_,_,_,_] (GT _ this))
 refine⟨J1.cell 1,⟨g.u.p,g.u.c,fun h0=> ?_,J1.cell 2,fun t ht=> ?_⟩,⟨g.q.p,g.q.c,J1.cell 3,fun t ht=>lF hq ht⟩⟩
 ·obtain⟨b,cc,e,_⟩:=AG hu h0;exact⟨b,by injection e⟩
 ·obtain⟨b,cc,e,_,_,_,_,eF,_⟩:=AG hu Y;have iM:t < (BC g.dv R.p.Ao).length:=by rw[Cm _ _ hl.dl];exact ht
  have zo:t < g.dv.length:=by rw[hl.dl];exact ht
  have et:R.p.Ao.getD t []=R.p.Ao[t]:=by rw[GE,Id ht];rfl
  rw[et];refine⟨b,g.dv[t].p,g.dv[t].c,by injection e,?_,fun c hc=>lF (hd t ht) hc⟩;have e2:(BC g.dv R.p.Ao)[t]?=some (.slice g.dv[t].p R.p.Ao[t].length g.dv[t].c):=by
   unfold BC;rw[Qdb,Id zo,Id ht]
  rw[eF t iM,<-Id,e2]
section
variable {y:qr} {p:RP} (h:PS y p) {f z:List Int} (hp:PT p f z)
include h
theorem Xk:(R0 y).ts.length=y.Aa.length:=by
 have:=(ZP h).tl;exact this
theorem Sb:jV (EZ y) y.Aa.length:=by
 have hC:=Oj h;obtain⟨h1,_⟩:=JG h;refine⟨fun k hk=>hC.ok k hk,fun k hk=> ?_⟩;have:=(h1 _ (Qbg.2 ⟨k,Qbk.2 hk,rfl⟩)).1;show(Gf y.cells k (y.Aa.getD k .nil)).length<=4000;omega
theorem YH:EU (EZ y) (R0 y) 0:=fun k hk=>by
 rw[Xk h] at hk;rw[AaV h hk];exact⟨rfl,LE _⟩
theorem nw (hg:gs.length=(R0 y).ts.length):cg gs (R0 y):=by
 refine⟨hg,by rw[Xk h];exact(JG h).2.2.2,Qcs ..,fun t ht=> ?_⟩;obtain⟨c,_,rfl⟩:=Qbg.1 ht;exact⟨rfl,by show([]:List (Int×Int)).length<=4;decide,fun q hq=>by cases (show q∈([]:List (Int×Int)) from hq)⟩
include hp
theorem MJ.Rc (ht:t < y.Aa.length) (hm:mv t) (n:Nat):∀{K:Int} {R:Al},MJ y p f z mv K R->K+n<=100000000000000000->MJ y p f z mv (K+n) (Al.Rc (EZ y) t n R):=by
 induction n with
 | zero=>intro K R hj _;rw[show K+((0:Nat):Int)=K by omega];exact hj
 | succ n ih=>
  intro K R hj hK;have:=ih (MJ.step h hp hj Y ht hm) Y;rw[show K+1+(n:Int)=K+((n+1:Nat):Int) by omega] at this;exact this
theorem MJ.L0 (ht:t < y.Aa.length) (hm:mv t) (n:Nat) {K:Int} {R:Al} (hj:MJ y p f z mv K R) (hK:K+n < 100000000000000000):MJ y p f z mv (K+n) (R.L0 (EZ y) t n):=by
 unfold Al.L0;refine MJ.Rc h hp ht hm n ?_ Y;split
 ·exact MJ.Cy h hp hj Y ht hm
 ·exact hj
theorem MJ.IQ (hm:∀t,t < y.Aa.length->may.getD t false=true->mv t) (l:List Int):∀{K:Int} {R:Al},MJ y p f z mv K R->R.ts.length=y.Aa.length->K+40*l.length < 100000000000000000->∃K',K'<=K+40*l.length/\MJ y p f z mv K' (R.IQ (EZ y) may l):=by
 induction l with
 | nil=>intro K R hj _ _;exact⟨K,EQ,hj⟩
 | cons q r ih=>
  intro K R hj hl hK;rw[IR] at hK⊢;unfold Al.IQ;have ha:=(bY q).2;split
  ·rename_i hc;rw[hl] at hc;obtain⟨K',hk,uR⟩:=ih (MJ.L0 h hp hc.1 (hm _ hc.1 hc.2) (Tt q).2 hj Y) ((SN (by rw[hl];exact hc.1)).trans hl) Y;exact⟨K',Y,uR⟩
  ·obtain⟨K',hk,uR⟩:=ih hj hl Y;exact⟨K',Y,uR⟩
end
section
variable {y:qr} {p:RP} (h:PS y p) {f z:List Int} (hp:PT p f z)
include h hp
theorem apart_ho (hn:∀c:Nat,(c:Int) < p.cells->¬((p.Ao.getD t []).getD c false=true/\(p.Ao.getD k []).getD c false=true)):∀c,c < y.cells.toNat->PR p f z k c->¬PW p f z t c:=by
 have _:=h;rintro c _ ⟨i,a,s,hi,hz,h1,h2,hu⟩ ⟨⟨j,e,q,hj,hzj,g1,g2,gu⟩,_⟩;have oH:i=j:=by
  rcases Qct i j with AX | he | hgt
  ·have:=hp.vs.ap i j a s e AX hi hz hj;omega
  ·exact he
  ·have:=hp.vs.ap j i e q a hgt hj hzj hi;omega
 subst oH;rw[hi] at hj;injection hj with hj;subst hj
 have hl:=hp.vs.lt i a s hi hz;refine hn a.toNat Y ⟨?_,?_⟩
 ·rw[GE,gu];rfl
 ·rw[GE,hu];rfl
omit h hp in
theorem readers_ho (hn:p.BJ.getD t false=false):∀c,c < y.cells.toNat->PR p f z k c->¬PW p f z t c:=by
 rintro c _ _ ⟨_,hb⟩;rw[hn] at hb;cases hb
theorem apart_end (hk:k < y.Aa.length) (hn:∀t,t < y.Aa.length->t≠k->∀c:Nat,(c:Int) < p.cells->¬((p.Ao.getD t []).getD c false=true/\(p.Ao.getD k []).getD c false=true)) (may:List Bool) (l:List Int) (hl:l.length<=1000000):
  ((((R0 y).IQ (EZ y) may l).Df (EZ y) k 200000).th k).BG≠0:=by
 obtain⟨K',hK,hj⟩:=MJ.IQ h hp (mv:=fun _=>True) (may:=may) (fun _ _ _=>trivial) l (sU h hp _) (Xk h) Y;exact sV h hp hj Y hk fun t ht Bi _=>apart_ho h hp (hn t ht Bi)
theorem readers_end (hk:k < y.Aa.length) (may:List Bool) (hm:∀t,t < y.Aa.length->t≠k->may.getD t false=true->p.BJ.getD t false=false) (l:List Int) (hl:l.length<=1000000):
  ((((R0 y).IQ (EZ y) may l).Df (EZ y) k 200000).th k).BG≠0:=by
 obtain⟨K',hK,hj⟩:=MJ.IQ h hp (mv:=fun t=>may.getD t false=true) (may:=may) (fun _ _ hm=>hm) l (sU h hp _) (Xk h) Y;exact sV h hp hj Y hk fun t ht Bi XD=>readers_ho (hm t ht Bi XD)
end
end Go.Proofs.YtpdfifdlhpmofaaGreatDoor
