/- Part 13 of the proof. -/
import Derived.Test.YtpdfifdlhpmofaaGreatDoorA11
set_option linter.unusedVariables false
set_option linter.unusedSimpArgs false
set_option maxHeartbeats 0
set_option maxRecDepth 99999
namespace Go.Proofs.YtpdfifdlhpmofaaGreatDoor
open Go.RowKit Tryz
open Value renaming slice->qD,string->qE,bool->qF,tuple->qG,agg->qH,pointer->qI
open Ending renaming returned->qJ
open Obj renaming cells->qK
open Option renaming none->Z,some->U
open Bool renaming true->V,false->I
open Go.Lib renaming hid->D
open List renaming length->J
theorem XF (l:Ws) (lw:Value) (w:World) (g:RG) (R:RS) (n:Nat) (h:Aq w (g.Az R)) (hL:C5 g R) (hI:Ps R n) (hO:WX R) (hS:0<=R.Ai/\R.Ai<=1000)
  (hw:Sl w (λb=>b∉Er (g.Az R)) lw (Bp l)) (hs:∀a,a∈l->a.size<=maxLen) (hne:l≠[]) (MT:Bv l=V) (h1:¬bs (wd l 0)=AQ) (h2:¬bs (wd l 0)=AE) (h3:¬bs (wd l 0)=EM) (hsd:R.BC=I):
  Calls prog 37 #[iJ g.rb,lw] w (Fw (R.row l) g R w):=by
 have hl:0<J l:=JI.2 hne;have AF:R.row l=if R.p.Aa=[]\/(R.BC=I/\(bs (wd l 0)=DR\/bs (wd l 0)=EF))\/(R.BC=V/\bs (wd l 0)=A8) then .error 3
   else match R.node l with
    |.error c=> .error c
    |.ok (r,x)=>RS.Cr r x:=by
  unfold RS.row;simp only[h1,h2,h3,J7];rfl
 have Hsd:=D hsd;clear hsd;have hw0:=hw;obtain⟨wb,woff,wcap,rfl,hd⟩:=Nr hw hl;have c0:=hd.c 0 Y;simp only[J4] at c0;have q1:=Bz (x:=wd l 0) (k:=AQ) h1;have q2:=Bz (x:=wd l 0) (k:=AE) h2;have q3:=Bz (x:=wd l 0) (k:=EM) h3;unfold AQ at q1;unfold AE at q2;unfold EM at q3;have O0:(0:Int)<(J l:Int):=Y
 obtain⟨hrc,hrpc,hrf,hrpf,hlt,hpl,bW⟩:=BL h;have IL:=hd.n0;have Ud:=hd.n1;have NH:=hd.lt;unfold maxLen at Ud;have gP:J R.p.Aa<=2500:=by have:=hI.bn;have:=hI.nn;omega
 have Wv:J R.Ad<=3:=hO.ol;have H:=D h;have HL:=D hL;have HI:=D hI;have HO:=D hO;have HS:=D hS;have Hw:=D hw0;have Hs:=D hs;have M8:=D hne;have Hlb:=D MT;have H1:=D h1;have H2:=D h2;have H3:=D h3;have Hres:=D AF;have C0:=D c0;clear h hL hI hS hw hw0 hs hne MT h1 h2 h3 AF hd hl;rcases Jw R.p.Aa with hT|⟨ts,lth,hT⟩
 .exact mas
 .rw[Jz] at hT;have ep:J R.p.Aa=J ts+1:=by rw[hT];simp
  have Amm:J ts<=2500:=Y
  rw[ep] at hrpc;have ow:J lth<=100:=by rw[<-Dy hT];exact hO.nl
  have HT:=D hT;clear hO hT ep gP;have Fi:True->IntKind.i64.wrap ((J ts:Int)+1-1)=J ts:=λ_=>by rw[show(J ts:Int)+1-1=J ts by omega];exact IntWalk.i64_in _ Y
  have No:True->wrap64 ((J ts:Int)+1-1)=J ts:=λ_=>by rw[show(J ts:Int)+1-1=J ts by omega];exact IntWalk.wrap64_in _ Y
  have Aml:¬((J ts:Int)<0):=Y
  have Amk:(0:Int)<=(J ts:Int):=Y
  have Amj:(J ts:Int)<((J ts:Int)+1):=Y
  go_enter func37,ntmps37;go_wp2;clear Fi No c0 hrc hrpc hrf hrpf;go_loopw [6,7] (λa i wr=>∃k:Nat,i= iI k/\k<=J R.Ad/\a= qF ((R.Ad.take k).any λj=>(lth.getD j (.of 0)).kind==40)/\Aw [] w wr) (λ_ i _=>J R.Ad-(intOf i).toNat);case atStart=>exact⟨0,rfl,Jo _,rfl,Aw.refl _ _⟩
  case round=>
   obtain⟨k,rfl,hk,rfl,hm⟩:=hrel;have ho:=(Af.quiet H hm).Ak;obtain⟨hrc,hrpc,hrf,hrpf,Cy,AmC,_⟩:=BL ho;rw[show J R.p.Aa=J ts+1 by rw[HT.out];simp] at hrpc;by_cases Lo:(k:Int)<(J R.Ad:Int)
   .exact mac
   .have Pz:k=J R.Ad:=Y
    subst Pz;have LU:((R.Ad.take (J R.Ad)).any λj=>(lth.getD j (.of 0)).kind==40)=R.BC:=by rw[Qw];unfold RS.BC;rw[Dy HT.out]
    rw[LU];have C1:wr.cell? ⟨wb,woff,Z⟩=U (qE (wd l 0)):=AH hm C0.out;have hTn:R.p.Aa≠[]:=by rw[HT.out];simp
    have HTn:=D hTn;have Hm:=D hm;clear LU hm hrpf hrf hTn ho;cases Ii:R.BC with
    |true=>exact Jk (Hsd.symm.trans Ii) EQ
    |false=>
     have VR:=D Ii;clear Ii;by_cases kg:bs (wd l 0)=DR
     .have qa:=CZ kg;unfold DR at qa;have Hr3:=D (show R.row l=.error 3 by rw[Hres.out,Jd (.inr (.inl ⟨VR.out,.inl kg⟩))]);clear kg;exact mbP
     .by_cases kp:bs (wd l 0)=EF
      .have qa:=Bz (x:=wd l 0) (k:=DR) kg;have qb:=CZ kp;unfold DR at qa;unfold EF at qb;have Hr3:=D (show R.row l=.error 3 by rw[Hres.out,Jd (.inr (.inl ⟨VR.out,.inr kp⟩))]);clear kg kp;exact mbP
      .have qa:=Bz (x:=wd l 0) (k:=DR) kg;have qb:=Bz (x:=wd l 0) (k:=EF) kp;unfold DR at qa;unfold EF at qb;have tu:=D (show R.row l=match R.node l with|.error c=> .error c|.ok (r,x)=>RS.Cr r x by
         rw[Hres.out,In];rintro(h|⟨_,h⟩|⟨h,_⟩);exact HTn.out h;rcases h with h|h;exact kg h;exact kp h;rw[VR.out] at h;cases h)
       clear kg kp;exact maa
