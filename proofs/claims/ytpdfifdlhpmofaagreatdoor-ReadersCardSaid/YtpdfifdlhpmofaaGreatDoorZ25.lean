/-
  Part 25 of the proof.
-/
import Derived.Test.YtpdfifdlhpmofaaGreatDoorZ23
set_option linter.unusedVariables false
set_option linter.unusedSimpArgs false
set_option maxHeartbeats 6400000
set_option maxRecDepth 100000
namespace Go.Proofs.YtpdfifdlhpmofaaGreatDoor
open Go.RowKit Tryz
open Go.Lib (hid)
theorem Uv (l:Ws) (lw:Value) (w:World) (g:RG) (R:RS) (n:Nat) (h:Az w (g.Ar R)) (hL:Dq g R) (hI:Mo R n) (hO:Tv R) (hS:0<=R.Ah/\R.Ah<=1000)
  (hw:Sl w (fun b=>b∉D4 (g.Ar R)) lw (A3 l)) (hs:∀a,a∈l->a.size<=maxLen) (Bi:l≠[]) (NH:Br l=true) (h1:¬bs (wd l 0)=AK) (h2:¬bs (wd l 0)=AE) (h3:¬bs (wd l 0)=Ey) (hsd:R.Bu=false):
  Calls prog 37 #[i6 g.rb,lw] w (FE (R.row l) g R w):=by
 have hl:0 < l.length:=Qae.2 Bi;have AF:R.row l=if R.p.Aa=[]\/(R.Bu=false/\(bs (wd l 0)=CF\/bs (wd l 0)=CZ))\/(R.Bu=true/\bs (wd l 0)=AH) then .error 3
   else match R.node l with
    | .error c=> .error c
    | .ok (r,x)=>RS.CQ r x:=by
  unfold RS.row;simp only[h1,h2,h3,y4];rfl
 have Hsd:=hid hsd;clear hsd;have xg:=hw;obtain⟨wb,woff,wcap,rfl,hd⟩:=Fz hw hl;have c0:=hd.c 0 Y;simp only[Qaj] at c0;have q1:=An (x:=wd l 0) (k:=AK) h1;have q2:=An (x:=wd l 0) (k:=AE) h2;have q3:=An (x:=wd l 0) (k:=Ey) h3;unfold AK at q1;unfold AE at q2;unfold Ey at q3;have Mu:(0:Int) < (l.length:Int):=Y
 obtain⟨Cu,A8,C6,Bv,AX,Cq,oC⟩:=AI h;have Gu:=hd.n0;have K8:=hd.n1;have Fb:=hd.lt;unfold maxLen at K8;have oy:R.p.Aa.length<=2500:=by have:=hI.bn;have:=hI.nn;omega
 have XC:R.Af.length<=3:=hO.ol;have H:=hid h;have HL:=hid hL;have HI:=hid hI;have HO:=hid hO;have HS:=hid hS;have Hw:=hid xg;have Hs:=hid hs;have Mr:=hid Bi;have Hlb:=hid NH;have H1:=hid h1;have H2:=hid h2;have H3:=hid h3;have AJ:=hid AF;have C0:=hid c0;clear h hL hI hS hw xg hs Bi NH h1 h2 h3 AF hd hl;rcases f5 R.p.Aa with hT | ⟨ts,lth,hT⟩
 ·exact maw
 ·rw[m8] at hT;have XY:R.p.Aa.length=ts.length+1:=by rw[hT];simp
  have Ae6:ts.length<=2500:=Y
  rw[XY] at A8;have fS:lth.length<=100:=by rw[<-DH hT];exact hO.nl
  have HT:=hid hT;clear hO hT XY oy;have Pz:True->IntKind.i64.wrap ((ts.length:Int)+1 - 1)=ts.length:=fun _=>by rw[show(ts.length:Int)+1 - 1=ts.length by omega];exact IntWalk.i64_in _ Y
  have aX:True->wrap64 ((ts.length:Int)+1 - 1)=ts.length:=fun _=>by rw[show(ts.length:Int)+1 - 1=ts.length by omega];exact IntWalk.wrap64_in _ Y
  have Ae5:¬((ts.length:Int) < 0):=Y
  have Ae4:(0:Int)<=(ts.length:Int):=Y
  have Ae3:(ts.length:Int) < ((ts.length:Int)+1):=Y
  go_enter func37,ntmps37;go_wp2;clear Pz aX c0 Cu A8 C6 Bv;go_loopw [6,7] (fun a i wr=>∃k:Nat,i= i5 k/\k<=R.Af.length/\a= .bool ((R.Af.take k).any fun j=>(lth.getD j (.of 0)).kind==40)/\Av [] w wr) (fun _ i _=>R.Af.length - (intOf i).toNat);case atStart=>exact⟨0,rfl,d6 _,rfl,Av.refl _ _⟩
  case round=>
   obtain⟨k,rfl,hk,rfl,hm⟩:=hrel;have ho:=(Ak.quiet H hm).Am;obtain⟨Cu,A8,C6,Bv,DJ,Afh,_⟩:=AI ho;rw[show R.p.Aa.length=ts.length+1 by rw[HT.out];simp] at A8;by_cases Jc:(k:Int) < (R.Af.length:Int)
   ·exact mac
   ·have NS:k=R.Af.length:=Y
    subst NS;have RV:((R.Af.take R.Af.length).any fun j=>(lth.getD j (.of 0)).kind==40)=R.Bu:=by rw[Qcc];unfold RS.Bu;rw[DH HT.out]
    rw[RV];have C1:wr.cell? ⟨wb,woff,none⟩=some (.string (wd l 0)):=AU hm C0.out;have hTn:R.p.Aa≠[]:=by rw[HT.out];simp
    have HTn:=hid hTn;have Hm:=hid hm;clear RV hm Bv C6 hTn ho;cases Ic:R.Bu with
    | true=>exact UV (Hsd.symm.trans Ic) EQ
    | false=>
     have Sj:=hid Ic;clear Ic;by_cases kg:bs (wd l 0)=CF
     ·have qa:=BO kg;unfold CF at qa;have Hr3:=hid (show R.row l= .error 3 by rw[AJ.out,In (.inr (.inl ⟨Sj.out,.inl kg⟩))]);clear kg;exact mch
     ·by_cases kp:bs (wd l 0)=CZ
      ·have qa:=An (x:=wd l 0) (k:=CF) kg;have qb:=BO kp;unfold CF at qa;unfold CZ at qb;have Hr3:=hid (show R.row l= .error 3 by rw[AJ.out,In (.inr (.inl ⟨Sj.out,.inr kp⟩))]);clear kg kp;exact mch
      ·have qa:=An (x:=wd l 0) (k:=CF) kg;have qb:=An (x:=wd l 0) (k:=CZ) kp;unfold CF at qa;unfold CZ at qb;have wN:=hid (show R.row l=match R.node l with | .error c=> .error c | .ok (r,x)=>RS.CQ r x by
         rw[AJ.out,I];rintro(h | ⟨_,h⟩ | ⟨h,_⟩);exact HTn.out h;rcases h with h | h;exact kg h;exact kp h;rw[Sj.out] at h;cases h)
       clear kg kp;exact maa
end Go.Proofs.YtpdfifdlhpmofaaGreatDoor
