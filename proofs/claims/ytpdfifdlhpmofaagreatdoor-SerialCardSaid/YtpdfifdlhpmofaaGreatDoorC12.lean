/- Part 12 of the proof. -/
import Derived.Test.YtpdfifdlhpmofaaGreatDoorC11
set_option linter.unusedVariables false
set_option linter.unusedSimpArgs false
set_option maxHeartbeats 0
set_option maxRecDepth 99999
namespace Go.Proofs.YtpdfifdlhpmofaaGreatDoor
open Go.RowKit Tryz
open Value renaming slice->m9,string->qA,bool->qB,tuple->qC,agg->qD,pointer->qE
open Ending renaming returned->qF
open Obj renaming cells->qG
open Option renaming none->Z,some->U
open Bool renaming true->V,false->I
open Go.Lib renaming hid->D
open List renaming length->J
theorem YD (l:Ws) (lw:Value) (w:World) (g:RG) (R:RS) (n:Nat) (h:Aq w (g.Ay R)) (hL:C9 g R) (hI:Pj R n) (hO:Wy R) (hS:0<=R.Ah/\R.Ah<=1000)
  (hw:Sl w (λb=>b∉Et (g.Ay R)) lw (Bq l)) (hs:∀a,a∈l->a.size<=maxLen) (hne:l≠[]) (N6:Bv l=V) (h1:¬bs (wd l 0)=AR) (h2:¬bs (wd l 0)=AE) (h3:¬bs (wd l 0)=EK) (hsd:R.BB=V):
  Calls prog 37 #[iJ g.rb,lw] w (Fs (R.row l) g R w):=by
 have hl:0<J l:=JE.2 hne;have AG:R.row l=if R.p.Aa=[]\/(R.BB=I/\(bs (wd l 0)=DQ\/bs (wd l 0)=EF))\/(R.BB=V/\bs (wd l 0)=A8) then .error 3
   else match R.node l with
    |.error c=> .error c
    |.ok (r,x)=>RS.Cs r x:=by
  unfold RS.row;simp only[h1,h2,h3,J1];rfl
 have Hsd:=D hsd;clear hsd;have hw0:=hw;obtain⟨wb,woff,wcap,rfl,hd⟩:=M3 hw hl;have c0:=hd.c 0 Y;simp only[JX] at c0;have q1:=Bx (x:=wd l 0) (k:=AR) h1;have q2:=Bx (x:=wd l 0) (k:=AE) h2;have q3:=Bx (x:=wd l 0) (k:=EK) h3;unfold AR at q1;unfold AE at q2;unfold EK at q3;have Le:(0:Int)<(J l:Int):=Y
 obtain⟨hrc,hrpc,hrf,hrpf,hlt,hpl,lA⟩:=BL h;have IN:=hd.n0;have TN:=hd.n1;have Ni:=hd.lt;unfold maxLen at TN;have xn:J R.p.Aa<=2500:=by have:=hI.bn;have:=hI.nn;omega
 have Ro:J R.Ad<=3:=hO.ol;have H:=D h;have HL:=D hL;have HI:=D hI;have HO:=D hO;have HS:=D hS;have Hw:=D hw0;have Hs:=D hs;have Np:=D hne;have Hlb:=D N6;have H1:=D h1;have H2:=D h2;have H3:=D h3;have Hres:=D AG;have C0:=D c0;clear h hL hI hS hw hw0 hs hne N6 h1 h2 h3 AG hd hl;rcases Jv R.p.Aa with hT|⟨ts,lth,hT⟩
 .exact mas
 .rw[Jy] at hT;have htl:J R.p.Aa=J ts+1:=by rw[hT];simp
  have AlU:J ts<=2500:=Y
  rw[htl] at hrpc;have aY:J lth<=100:=by rw[<-DB hT];exact hO.nl
  have HT:=D hT;clear hO hT htl xn;have Fu:True->IntKind.i64.wrap ((J ts:Int)+1-1)=J ts:=λ_=>by rw[show(J ts:Int)+1-1=J ts by omega];exact IntWalk.i64_in _ Y
  have Mi:True->wrap64 ((J ts:Int)+1-1)=J ts:=λ_=>by rw[show(J ts:Int)+1-1=J ts by omega];exact IntWalk.wrap64_in _ Y
  have AlT:¬((J ts:Int)<0):=Y
  have AlS:(0:Int)<=(J ts:Int):=Y
  have AlR:(J ts:Int)<((J ts:Int)+1):=Y
  go_enter func37,ntmps37;go_wp2;clear Fu Mi c0 hrc hrpc hrf hrpf;go_loopw [6,7] (λa i wr=>∃k:Nat,i= iI k/\k<=J R.Ad/\a= qB ((R.Ad.take k).any λj=>(lth.getD j (.of 0)).kind==40)/\Az [] w wr) (λ_ i _=>J R.Ad-(intOf i).toNat);case atStart=>exact⟨0,rfl,Jr _,rfl,Az.refl _ _⟩
  case round=>
   obtain⟨k,rfl,hk,rfl,hm⟩:=hrel;have ho:=(Ai.quiet H hm).Ak;obtain⟨hrc,hrpc,hrf,hrpf,C4,Al6,_⟩:=BL ho;rw[show J R.p.Aa=J ts+1 by rw[HT.out];simp] at hrpc;by_cases Kf:(k:Int)<(J R.Ad:Int)
   .exact mac
   .have Pt:k=J R.Ad:=Y
    subst Pt;have Pv:((R.Ad.take (J R.Ad)).any λj=>(lth.getD j (.of 0)).kind==40)=R.BB:=by rw[J2];unfold RS.BB;rw[DB HT.out]
    rw[Pv];have C1:wr.cell? ⟨wb,woff,Z⟩=U (qA (wd l 0)):=AK hm C0.out;have hTn:R.p.Aa≠[]:=by rw[HT.out];simp
    have HTn:=D hTn;have Hm:=D hm;clear Pv hm hrpf hrf hTn ho;cases Ia:R.BB with
    |true=>
     have Vy:=D Ia;clear Ia;by_cases ka:bs (wd l 0)=A8
     .have qa:=CZ ka;unfold A8 at qa;have Hr3:=D (show R.row l=.error 3 by rw[Hres.out,Jb (.inr (.inr ⟨Vy.out,ka⟩))]);clear ka;exact mbK
     .have qa:=Bx (x:=wd l 0) (k:=A8) ka;unfold A8 at qa;have Hr4:=D (show R.row l=match R.node l with|.error c=> .error c|.ok (r,x)=>RS.Cs r x by
        rw[Hres.out,In];rintro(h|⟨h,_⟩|⟨_,h⟩);exact HTn.out h;rw[Vy.out] at h;cases h;exact ka h)
      clear ka;exact maa
    |false=>exact Jk (Hsd.symm.trans Ia) EQ
