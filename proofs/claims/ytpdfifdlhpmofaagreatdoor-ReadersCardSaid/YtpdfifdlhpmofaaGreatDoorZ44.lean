/-
  Part 44 of the proof.
-/
import Derived.Test.YtpdfifdlhpmofaaGreatDoorZ42
import Derived.Test.YtpdfifdlhpmofaaGreatDoorZ36
set_option linter.unusedVariables false
set_option linter.unusedSimpArgs false
set_option maxHeartbeats 3200000
set_option maxRecDepth 100000
namespace Go.Proofs.YtpdfifdlhpmofaaGreatDoor
open Go.RowKit Tryz
open Go.Lib (hid)
theorem nan {p:Prop} (h:p:=by
 have Hno2:=hid Afp;clear Afp;go_wp2;go_roundw;case rel=>exact⟨by first | trivial | rfl,t+1,Do,NY,Hno2⟩
 case measure=>have:=NY.out;simp[intOf];omega):p:=h
theorem nap {p:Prop} (h:p:=by
 go_wp2;go_roundw;case rel=>exact⟨by first | trivial | rfl,c+1,Do,by have:=Hcl.out;omega,Hs2⟩
 case measure=>have:=Hcl.out;simp[intOf];omega):p:=h
variable {s:By} {w:World}
def Ur (s:By) (w:World) (e:Ending) (w':World):Prop:=match Fp s with
 | .error _=>e= .returned (.tuple #[.pointer none,.pointer none,.bool true])/\Av [] w w'
 | .ok p=>∃(y:qr) (g:RG) (R:RS) (F:VG) (gs:List GY),PS y p/\R.p=p/\Dq g R/\e= .returned (.tuple #[i6 F.mb,i6 g.pb,.bool true])/\Ak w [] w' (MO F gs (R0 y) (g.Ar R).tail)/\cg gs (R0 y)
theorem tt {c:Int×Nat} (hr:Fp s= .error c) {e:Ending} {w':World} (h:Ur s w e w'):e= .returned (.tuple #[.pointer none,.pointer none,.bool true])/\Av [] w w':=by unfold Ur at h;rw[hr] at h;exact h
theorem yE {p:RP} (hr:Fp s= .ok p) {e:Ending} {w':World} (h:Ur s w e w'):∃(y:qr) (g:RG) (R:RS) (F:VG) (gs:List GY),PS y p/\R.p=p/\Dq g R/\e= .returned (.tuple #[i6 F.mb,i6 g.pb,.bool true])/\Ak w [] w' (MO F gs (R0 y) (g.Ar R).tail)/\cg gs (R0 y):=by unfold Ur at h;rw[hr] at h;exact h
theorem mT {Ab:Nat->List GI} {may:List Bool} (l:List Int):∀{M:Al} {N:Nat},EU Ab M N->EU Ab (Al.IQ Ab may l M) (N+40*l.length):=by
 induction l with
 | nil=>intro M N h;exact h
 | cons q r ih=>
  intro M N h;unfold Al.IQ;rw[IR];have ha:=(bY q).2;split
  ·rename_i hc;intro k hk;obtain⟨h1,h2⟩:=ih (Y0 (n:=(Tt q).2) h hc.1) k hk;exact⟨h1,Y⟩
  ·intro k hk;obtain⟨h1,h2⟩:=ih h k hk;exact⟨h1,Y⟩
theorem sZ {F:VG} {gs:List GY} {M:Al} {E:List Ob} (b n:Nat) (l:List Bool):([JQ b n l]++MO F gs M E).Perm (MO F gs M (JQ b n l::E)):=by
 unfold MO;generalize F.QC M.mem (gs.map GY.ptr)=A;generalize Pu F gs M.ts=B;show(JQ b n l::(A++(B++E))).Perm (A++(B++JQ b n l::E));exact(List.perm_middle.symm).trans (Qbr _ List.perm_middle.symm)
theorem vj {w':World} {L:List Ob} (h:Ak w [] w' L):Xo w w' L:=⟨h.Bf,h.Am,fun b hb=>(h.fp b hb).elim (fun hx=>by cases hx) id⟩
theorem apart_any (s:ByteArray) (w:World) (hM:s.size<=1000000->Calls prog 10 #[.string s] w (Ur (bs s) w)) (pp:Option Addr) (pc:Nat) (pk:List Int) (hp:ca w pp pk) (hi:∀p,p∈pk->i64 p) (hb:s.size+pk.length < 4611686018427387904) (u:Int) (hu:i64 u):
  Calls prog 6 #[.string s,.slice pp pk.length pc,i5 u] w fun e w'=>e= .returned (.bool true)/\Av [] w w':=by
 have j6:True->wrap64 ((s.size:Int)+(pk.length:Int))=(s.size:Int)+(pk.length:Int):=fun _=>IntWalk.wrap64_in _ Y
 have HM:=hid hM;have HP:=hid hp;have HI:=hid hi;clear hM hp hi;by_cases u3:262144 < s.size+pk.length
 ·have Ad9:(262144:Int) < (s.size:Int)+(pk.length:Int):=Y
  clear u3;go_enter func6,ntmps6;go_wp2;go_ret;exact⟨rfl,Av.refl _ _⟩
 ·have Ad9:¬(262144:Int) < (s.size:Int)+(pk.length:Int):=Y
  have Ia:s.size<=262144:=Y
  have hpk:pk.length<=262144:=Y
  have Hma:=hid (HM Y);have Hpk:=hid hpk;clear u3 hb hpk Ia;cases hr:Fp (bs s) with
  | error c=>
   have Hr:=hid hr;clear hr;go_enter func6,ntmps6;exact naf
  | ok p=>
   obtain⟨f,z,fO⟩:=rZ hr;have Hr:=hid hr;have Ty:=hid fO;clear hr fO;go_enter func6,ntmps6;go_wp2_with fail;refine Hma.mono ?_;intro e w1 hm;obtain⟨y,g,R,F,gs,Ug,hRp,hlen,rfl,AD,hok⟩:=yE Hr hm;have hpg:=Ac1 AD.Am (fun o ho=>ho) hlen;rw[hRp] at hpg;have Ni:=vj AD;have hT:(gs.map GY.ptr).length=y.Aa.length:=by rw[z9,hok.gl,Xk Ug]
   have CS:=(AD.Am.Au (i:=0) rfl).cell 1;rw[hT] at CS;have hT0:0 < y.Aa.length:=Qae.2 Ug.ne;have hT3:y.Aa.length<=3:=(JG Ug).2.2.2;have XY:p.Ao.length=y.Aa.length:=by rw[Ty.out.tl,Ug.Aa,z9]
   have wO:=hid (dk u (y.Aa.length:Int) Y hu w1);obtain⟨PG,Iu⟩:=dm u (n:=(y.Aa.length:Int)) Y;obtain⟨k,hk⟩:∃k:Nat,JW u (y.Aa.length:Int)=k:=⟨(JW u (y.Aa.length:Int)).toNat,Y⟩;rw[hk] at wO Iu;have hkT:k < y.Aa.length:=Y
   have XG:=hid Ug;have Hfr:=hid Ni;have Hok:=hid hok;have Hpg:=hid hpg;have HT:=hid hT;have KM:=hpg.c1;obtain⟨ub,uc,hub,hu2,hu3⟩:=hpg.u;obtain⟨ubb,rfl⟩:=hub Y;rw[XY] at hu2 hu3;have Hu3:=hid hu3;have Htl:=hid XY;have hkT':(k:Int) < (y.Aa.length:Int):=Y
   have Sr:(0:Int)<=(k:Int):=Y
   clear hm AD Ug hRp hlen Ni hok hpg hT hk PG hu3 hub XY hu;have Hcell:Hid (∀t,t < y.Aa.length->((p.Ao.getD t []).length:Int)=p.cells):=hid fun t ht=>Ty.tc _ (by rw[GE,Id (by rw[Htl.out];exact ht)];exact Qab _)
   go_wp2_with fail;refine wO.mono ?_;rintro e w2 ⟨rfl,rfl⟩;go_wp2;go_loopw [11] (fun i wr=>wr=w2/\∃t:Nat,i= i5 t/\t<=y.Aa.length/\∀t',t' < t->t'≠k->∀c:Nat,(c:Int) < p.cells->¬((p.Ao.getD t' []).getD c false=true/\(p.Ao.getD k []).getD c false=true)) (fun i _=>y.Aa.length - (intOf i).toNat);case atStart=>exact⟨rfl,0,rfl,d6 _,fun t' h=>UV h (Nat.not_lt_zero _)⟩
   case round=>
    obtain⟨rfl,t,rfl,uk,RT⟩:=hrel;have Hno:=hid RT;clear RT;by_cases AX:t < y.Aa.length
    ·have DJ:(t:Int) < (y.Aa.length:Int):=Y
     have ht0:(0:Int)<=(t:Int):=Y
     have inc:True->wrap64 ((t:Int)+1)=((t:Int)+1):=fun _=>IntWalk.wrap64_in _ Y
     have NY:=hid AX;have hcell0:0<=p.cells:=by have:=Hcell.out t AX;omega
     have hcell6:p.cells<=6:=by have:=(JG XG).2.2.1;have:=XG.cells;omega
     clear AX uk;go_wp2;go_loopw [12] (fun i wr2=>wr2=wr/\∃c:Nat,i= i5 c/\(c:Int)<=p.cells/\∀c':Nat,c' < c->¬((p.Ao.getD t []).getD c' false=true/\(p.Ao.getD k []).getD c' false=true)) (fun i _=>p.cells.toNat - (intOf i).toNat);case atStart=>exact⟨rfl,0,rfl,hcell0,fun c' h=>UV h (Nat.not_lt_zero _)⟩
     case round=>
      obtain⟨rfl,c,rfl,eF,UG⟩:=hrel;have Hcn:=hid UG;clear UG;have inc2:True->wrap64 ((c:Int)+1)=((c:Int)+1):=fun _=>IntWalk.wrap64_in _ Y
      by_cases Db:(c:Int) < p.cells
      ·by_cases PB:t=k
       ·have Ae7:((t:Int)==(k:Int))=true:=by rw[PB];simp
        have Htk:=hid PB;clear PB eF;have Afp:∀t',t' < t+1->t'≠k->∀c:Nat,(c:Int) < p.cells->¬((p.Ao.getD t' []).getD c false=true/\(p.Ao.getD k []).getD c false=true):=fun t' FI Bi=>by
         by_cases he:t'=t
         ·subst he;exact(Bi Htk).elim
         ·exact Hno.out t' Y Bi
        exact nan
       ·have Ae7:((t:Int)==(k:Int))=false:=by rw[NE];omega
        obtain⟨b1,db,dc,e1,r1,r2⟩:=Hu3.out t NY.out;obtain⟨b2,eb,ec,e2,r3,r4⟩:=Hu3.out k hkT;cases e1;cases e2;have KL:=Hcell.out t NY.out;have LG:=Hcell.out k hkT;obtain⟨a1,rfl,r5⟩:=r2 c Y;obtain⟨a2,rfl,r6⟩:=r4 c Y;have GG:(c:Int) < ((p.Ao.getD t []).length:Int):=Y
        have IG:(c:Int) < ((p.Ao.getD k []).length:Int):=Y
        obtain⟨n1,K8⟩:∃n,(p.Ao.getD t []).length=n:=⟨_,rfl⟩;obtain⟨n2,hn2⟩:∃n,(p.Ao.getD k []).length=n:=⟨_,rfl⟩;rw[K8] at r1 GG;rw[hn2] at r3 IG;have Ui:(0:Int)<=(c:Int):=Y
        have Hcl:=hid Db;have KJ:∀c':Nat,c' < c->¬((p.Ao.getD t []).getD c' false=true/\(p.Ao.getD k []).getD c' false=true):=Hcn.out;have Hs:=hid KJ;clear KJ KL LG r2 r4 eF PB K8 hn2;cases h1:(p.Ao.getD t []).getD c false with
        | false=>
         rw[h1] at r5;have Uf:∀c':Nat,c' < c+1->¬((p.Ao.getD t []).getD c' false=true/\(p.Ao.getD k []).getD c' false=true):=fun c' UH hh=>by
          by_cases he:c'=c
          ·subst he;rw[h1] at hh;cases hh.1
          ·exact Hs.out c' Y hh
         have Hs2:=hid Uf;clear Uf h1;exact nap
        | true=>
         rw[h1] at r5;cases h2:(p.Ao.getD k []).getD c false with
         | true=>
          rw[h2] at r6;clear h1 h2;go_wp2;go_ret;exact⟨rfl,Hfr.Bf⟩
         | false=>
          rw[h2] at r6;have Uf:∀c':Nat,c' < c+1->¬((p.Ao.getD t []).getD c' false=true/\(p.Ao.getD k []).getD c' false=true):=fun c' UH hh=>by
           by_cases he:c'=c
           ·subst he;rw[h2] at hh;cases hh.2
           ·exact Hs.out c' Y hh
          have Hs2:=hid Uf;clear Uf h1 h2;exact nap
      ·have hce:(c:Int)=p.cells:=Y
       have Hce:=hid hce;clear hce eF;have Afp:∀t',t' < t+1->t'≠k->∀c:Nat,(c:Int) < p.cells->¬((p.Ao.getD t' []).getD c false=true/\(p.Ao.getD k []).getD c false=true):=fun t' FI Bi=>by
        by_cases he:t'=t
        ·subst he;exact fun c' UH=>Hcn.out c' (by have:=Hce.out;omega)
        ·exact Hno.out t' Y Bi
       exact nan
    ·have DJ:¬(t:Int) < (y.Aa.length:Int):=Y
     have PC:t=y.Aa.length:=Y
     rw[PC] at Hno;have QT:=hid (Aah y.Aa.length Y wr);clear PC uk DJ;go_wp2_with fail;refine QT.mono ?_;rintro e w3 ⟨b,rfl,hs3⟩;have s3:=Ak.frame (L:=[]) (E:=MO F gs (R0 y) (g.Ar R).tail) Hfr.Am hs3;have AeF:=hid (Hfr.step (s3.trans (Ak.Ux s3.Am (sZ b y.Aa.length (List.replicate y.Aa.length true)))));have zx:=Xk XG.out;have Cq:=sa (EZ y) F gs (R0 y) (JQ b y.Aa.length (List.replicate y.Aa.length true)::(g.Ar R).tail) w w3 AeF Hok (by rw[zx];exact Sb XG) 0 (YH XG) pp pc pk HP HI (List.replicate y.Aa.length true) b y.Aa.length (by rw[zx];exact J ..) (by rw[zx];exact Qcs ..) (by have:=Hpk.out;omega);rw[zx] at Cq;have Hpl:=hid Cq;have HRl:=hid zx;clear hs3 s3 Cq zx QT;go_wp2_with fail;refine Hpl.mono ?_;rintro e w4 ⟨rfl,gs4,hs4,AdL,he4⟩;have kO:((R0 y).IQ (EZ y) (List.replicate y.Aa.length true) pk).ts.length=y.Aa.length:=(mU pk (R0 y)).trans HRl.out;have ur:=mT (may:=List.replicate y.Aa.length true) pk (YH XG);have hk4:k < ((R0 y).IQ (EZ y) (List.replicate y.Aa.length true) pk).ts.length:=by rw[kO];exact hkT
     have kU:=lK F gs4 _ _ w4 hs4.Am AdL k hk4 (EZ y) ((Sb XG).ok k hkT) (ur k hk4).1 ((Sb XG).ln k hkT) 200000 (by have:=(ur k hk4).2;have:=Hpk.out;omega);rw[show((200000:Nat):Int)=200000 from rfl] at kU;have Hal:=hid kU;have AeG:=hid (apart_end XG Ty hkT (fun t' FI Bi=>Hno.out t' FI Bi) (List.replicate y.Aa.length true) pk (by have:=Hpk.out;omega));have wR:=hid (AeF.step hs4);clear hs4 AdL he4 kO ur hk4 kU Hpl;go_wp2_with fail;refine Hal.mono ?_;rintro e w5 ⟨rfl,gs5,p7,_,_⟩;have Af9:=hid (wR.step p7);clear p7;have AD:((Al.Df (EZ y) k 200000 ((R0 y).IQ (EZ y) (List.replicate y.Aa.length true) pk)).th k).BG !=0:=by simpa using AeG.out
     generalize hx:(((Al.Df (EZ y) k 200000 ((R0 y).IQ (EZ y) (List.replicate y.Aa.length true) pk)).th k).BG !=0)=x at*;have IG:x=true:=AD;subst IG;clear AD hx Hal AeG;go_wp2;go_ret;exact⟨rfl,Af9.Bf⟩
theorem dI (mb:Nat) (s:ByteArray) (w:World) (hg:Gl mb w) (ht:Yk w) (hs:s.size<=1000000):
  Calls prog 10 #[.string s] w (Ur (bs s) w):=by
 have Hc:=hid (bP mb s w hg ht hs);clear hg ht hs;generalize Ma:Ur (bs s) w=post;unfold Ur at Ma;cases hr:Fp (bs s) with
 | error c=>
  have H1:∀e w',jU (bs s) w e w'->e= .returned (.tuple #[.string ⟨#[]⟩,.pointer none,.bool true])/\Av [] w w':=fun e w' h=>by
   unfold jU at h;rw[hr] at h;exact h
  rw[hr] at Ma;have Hp:=hid Ma;have HH:=hid H1;clear Ma hr H1;go_enter func10,ntmps10;go_wp2_with fail;refine Hc.mono ?_;intro e w1 oL;obtain⟨rfl,hm⟩:=HH.out e w1 oL;have Hm:=hid hm;clear oL hm;go_wp2;go_ret3;rw[<-Hp.out];exact⟨rfl,Hm⟩
 | ok p=>
  have H1:∀e w',jU (bs s) w e w'->∃(y:qr) (g:RG) (R:RS),PS y p/\R.p=p/\Dq g R/\e= .returned (.tuple #[.string (Ay (F6 y)),i6 g.pb,.bool true])/\Ak w [] w' (g.rest R):=fun e w' h=>by
   unfold jU at h;rw[hr] at h;exact h
  rw[hr] at Ma;have Hp:=hid Ma;have HH:=hid H1;clear Ma hr H1;go_enter func10,ntmps10;go_wp2_with fail;refine Hc.mono ?_;intro e w1 oL;obtain⟨y,g,R,Ug,hR,hlen,rfl,AD⟩:=HH.out e w1 oL;have hld:=dL (Ay (F6 y)) w1 (by rw[Kd];exact U2 Ug);rw[Cw,show Lj (F6 y)= .ok (R0 y) from W7 Ug] at hld;have Hl:=hid hld;have XG:=hid Ug;have HRp:=hid hR;have pV:=hid hlen;have KT:=hid AD;clear oL hld Ug hR hlen AD;go_wp2_with fail;refine Hl.mono ?_;rintro e w2 ⟨mb2,mv,tv,xs,rfl,AbQ,LB,RU⟩;have s2:=yA KT.Am AbQ LB RU;have hok:=nw XG (gs:=xs.map TV.g) (by rw[z9];exact AbQ.2.2.2.1);have HS:=hid (KT.trans s2);have HO:=hid hok;clear AbQ LB RU s2 hok;go_wp2;go_ret3;rw[<-Hp.out];exact⟨y,g,R,X6 mb2 mv tv,xs.map TV.g,XG,HRp,pV,rfl,HS,HO⟩
end Go.Proofs.YtpdfifdlhpmofaaGreatDoor
