/-
  Part 44 of the proof, packed by program out of G17.
-/
import Derived.Test.YtpdfifdlhpmofaaGreatDoorZ40
import Derived.Test.YtpdfifdlhpmofaaGreatDoorZ43
import Derived.Test.YtpdfifdlhpmofaaGreatDoorZ34
import Derived.Test.YtpdfifdlhpmofaaGreatDoorZ42
set_option linter.unusedVariables false
set_option linter.unusedSimpArgs false
set_option maxHeartbeats 3200000
set_option maxRecDepth 100000
namespace Go.Proofs.YtpdfifdlhpmofaaGreatDoor
open Go.RowKit
open Go.Lib (hid)
theorem kT:(Tryz.prog.info? 158).map (fun i=>(i.zero,i.size,i.bytes))=some (some (.slice none 0 0),1,24):=by kernel_rfl
def nr (cells:Int) (ts:List Ck) (w:World) (e:Ending) (w':World):Prop:=
 ∃op oc cs,e= .returned (.slice op ts.length oc)∧cs.length=ts.length∧Ad w [] w' (GZ op ts.length oc cs (CS cells ts ts.length))
theorem dt (F:List (Nat×Obj)) (cells:Int) (Dp:0≤cells∧cells≤6) (hA:OL F cells) (ts:List Ck) (pb:Nat) (tp:Option Addr) (tc:Nat) (tvs:List Value) (w:World) (hK:Ba w [] F)
  (hF:(pb,Obj.cells #[.slice tp ts.length tc,.int .i64 cells] 146 (0,0))∈F) (hr:D4 F (.slice tp ts.length tc) tvs) (hT:Gg F ts tvs) (h3:ts.length≤3) (hw:∀t,t∈ts→WF cells t 0 false∧Ci t≤5000∧EX t≤100):
  Calls Tryz.prog 52 #[.pointer (some ⟨pb,0,none⟩)] w (nr cells ts w):=by
 obtain⟨j0,hj,I9,EK,JW⟩:=info_parts kT;have kc:=hK.cell hF;have HK:=hid hK;have HF:=hid hF;have Hr:=hid hr;have HT:=hid hT;have Hw:=hid hw;have HM:=hid (YK F cells Dp hA 100 (by omega) false);have vZ:=Dp;clear hK hF hr hT hw hA Dp;go_enter Tryz.func52,Tryz.ntmps52;go_wp2;clear kc;go_loopw [12,3] (fun i o wr=>∃(k:Nat) (op:Option Addr) (oc:Nat) (cs:List SG),i= .int .i64 k∧o= .slice op k oc∧k≤ts.length∧cs.length=k∧Ad w [] wr (GZ op k oc cs (CS cells ts k))) (fun i _ _=>ts.length - (intOf i).toNat);case atStart=>
  exact⟨0,none,0,[],rfl,rfl,Nat.zero_le _,rfl,Rz (AK.nil w) (Db _ _ _ _) rfl⟩
 case round=>
  obtain⟨k,op,oc,cs,rfl,rfl,hk,JZ,st⟩:=hrel;have nj:=hid JZ;clear JZ;by_cases Bi:(k:Int) < (ts.length:Int)
  ·obtain⟨sl,ws,us,hd,yB,JX⟩:=HT.out.A5 k (by omega);have K:=hid (HK.out.step st);obtain⟨hzz,XY,tb,mm,Qd⟩:=Hr.out.A5 K.out hd;clear hzz;subst mm;have kc:=K.out.cell HF.out;have kl:=K.out.lt HF.out;have cR:ts.getD k .nil∈ts:=by rw[List.getD_eq_getElem?_getD,List.getElem?_eq_getElem (by omega)];exact List.getElem_mem _
   have nU:=Hw.out _ cR;have oW:=VR cells ts k;obtain⟨t,hT⟩:∃t,t=ts.getD k .nil:=⟨_,rfl⟩;rw[←hT] at JX nU oW;have tQ:=hid nU;have xR:=hid oW;clear nU oW;have S:=hid st;have Hr1:=hid yB;have Hs1:=hid JX;have dP:=hid (IntWalk.wrap64_in (64*(k:Int)) (by omega));have V9:=hid (IntWalk.wrap64_in (32+64*(k:Int)) (by omega));clear st yB JX hd cR hT;have hk5:k≤100:=by omega
   have inc:=RZ k (by omega);have oI:k+1≤maxLen:=by unfold maxLen;omega
   have oH:(k+1)*24≤140737488355328:=by omega
   have dU:=IY cells t vZ 0 false (GS.start k cells) tQ.out.1 rfl rfl;have ar:Ap (GS.start k cells).Ah:=by show 0≤32+64*(k:Int)∧32+64*(k:Int)≤100000;omega
   have MJ:=tQ.out.2.1;have gY:(GS.BX t (GS.start k cells)).Af.length≤5000:=by have:=dU.2.2;have e0:(GS.start k cells).Af.length=0:=rfl;omega
   have sj:=ID cells ts k;have Hsi:=hid dU;have tx:=hid ar;have jE:=hid MJ;have Hl5:=hid gY;have xT:=hid sj;clear dU ar MJ gY sj;have C9:=dP.out;have CY:=V9.out;clear dP V9;go_wp2_with fail;clear C9 CY;have a1:=Ad.Oi S.out.Al (.cells #[.slice none 0 0,.int .i64 (32+64*(k:Int)),.int .i64 cells,.bool false,.slice none 0 0,.int .i64 0] 169);have a2:=a1.trans (Ad.ZF (A:=[_]) (B:=GZ op k oc cs (CS cells ts k)) (o:=DG ⟨none,0⟩ []) a1.Al (Db _ _ _ _) rfl);have a3:Ad wr (GZ op k oc cs (CS cells ts k)) _ (MG.Ax ⟨wr.heap.size,⟨none,0⟩,⟨none,0⟩,[]⟩ (GS.start k cells)++GZ op k oc cs (CS cells ts k)):=
    a2.trans (Ad.ZF (A:=[_,_]) (B:=GZ op k oc cs (CS cells ts k)) (o:= .row (.slice none 0 0) 1 1 0 []) a2.Al (Db _ _ _ _) rfl)
   replace S:=hid (S.out.trans a3);replace K:=hid (K.out.step a3);clear a1 a2 a3;refine(HM.out t sl ws 0 _ ⟨wr.heap.size,⟨none,0⟩,⟨none,0⟩,[]⟩ (GS.start k cells) tQ.out.2.2 Hr1.out Hs1.out tQ.out.1 (by omega) S.out.Al.left K.out.left rfl rfl ⟨by show(0:Int)≤0;omega,by show(0:Int)≤((0:Nat):Int);omega⟩ tx.out (by have:=jE.out;show 0+_≤_;omega) (Nat.le_refl _)).mono ?_;rintro e w1 ⟨rfl,c1,a1,pF,ks,_⟩;dsimp only at ks;replace ks:=Ad.frame S.out.Al ks;replace S:=hid (S.out.trans ks);replace K:=hid (K.out.step ks);clear ks;go_wp2_with fail;refine(Dq .halt _ ⟨wr.heap.size,c1,a1,pF⟩ (GS.BX t (GS.start k cells)) S.out.Al.left (by have:=Hl5.out;omega)).mono ?_;rintro e w2 ⟨rfl,c2,p7⟩;dsimp only at p7;replace p7:=Ad.frame S.out.Al p7;replace S:=hid (S.out.trans p7);replace K:=hid (K.out.step p7);clear p7;have QR:=(AW S.out.Al.left).c 0;have Sj:=(AW S.out.Al.left).f;have aj:=(AW S.out.Al.left).lt;go_wp2_with (first | (at_builtin;refine CH 24 _ _ _ j0 _ #[.slice c2.p (GS.Aq (GS.BX t (GS.start k cells)) .halt).Af.length c2.c] _ S.out.Al (v:= .slice op k oc) (e:=158) (size:=1) (n:=k) (xs:=BL cs (CS cells ts k)) (k:=3) rfl (by rfl) (by rfl) Tryz.underlying121 hj I9 EK JW rfl Nat.zero_lt_one (by rfl) (by rfl) rfl (by simp[Value.oneCell']) oI oH ?_;intro g6 Bb w6 AI _;rw[Ka] at AI;have KS:=hid AI;clear AI QR Sj aj));go_roundw;case rel=>
    obtain⟨x1,DP⟩:∃x,x=((GS.BX t (GS.start k cells)).Aq .halt).Af:=⟨_,rfl⟩;have hco:IK cells k t=x1:=by rw[DP];rfl
    have hlen:cs.length=(CS cells ts k).length:=by rw[nj.out,xT.out]
    have s1:Ad w [] w6 ([.AP wr.heap.size #[.slice c2.p ((GS.BX t (GS.start k cells)).Aq .halt).Af.length c2.c,.int .i64 ((GS.BX t (GS.start k cells)).Aq .halt).Ah,.int .i64 ((GS.BX t (GS.start k cells)).Aq .halt).cells,.bool ((GS.BX t (GS.start k cells)).Aq .halt).block,.slice a1.p pF.length a1.c,.int .i64 ((GS.BX t (GS.start k cells)).Aq .halt).Aj] 169,
        DG c2 ((GS.BX t (GS.start k cells)).Aq .halt).Af,.row (.slice a1.p pF.length a1.c) 1 1 pF.length pF]++
        (.row (.slice (some ⟨g6,0,none⟩) (k+1) Bb) 158 1 (k+1) (BL cs (CS cells ts k)++[.slice c2.p ((GS.BX t (GS.start k cells)).Aq .halt).Af.length c2.c])::List.zipWith DG cs (CS cells ts k))):=S.out.trans KS.out
    rw[←DP] at s1;have p1:=Ad.fu s1.Al (qJ _ _ _ _ _);have s2:=s1.trans (p1.trans (Ad.AT p1.Al));refine⟨k+1,some ⟨g6,0,none⟩,Bb,cs++[c2],rfl,rfl,by omega,by rw[List.length_append,nj.out];rfl,?_⟩;have e:GZ (some ⟨g6,0,none⟩) (k+1) Bb (cs++[c2]) (CS cells ts (k+1))= .row (.slice (some ⟨g6,0,none⟩) (k+1) Bb) 158 1 (k+1) (BL cs (CS cells ts k)++[.slice c2.p x1.length c2.c])::(List.zipWith DG cs (CS cells ts k)++[DG c2 x1]):=by
     unfold GZ;rw[xR.out,hco,Bw _ _ _ _ hlen,List.zipWith_append hlen];rfl
    rw[e];exact s2
   case measure=>simp[intOf];omega
  ·have Pc:k=ts.length:=by omega
   subst Pc;have KS:=hid st;clear st;go_wp2_with fail;go_ret;exact⟨op,oc,cs,rfl,nj.out,KS.out⟩
theorem lP (F:List (Nat×Obj)) (cells:Int) (Dp:0≤cells∧cells≤6):OL F cells:=by
 intro b sp sn sc ws p w g G d h hK hF hn ha hb Ey JZ OM hd P7 ih hz h3 h4;exact WT cells b sp sn sc ws F p w g G h hK hF hn ha hb d Dp Ey JZ OM hd P7 ih h3 hz h4
theorem iZ (F:List (Nat×Obj)) (cells:Int) (Dp:0≤cells∧cells≤6) (ts:List Ck) (pb:Nat) (tp:Option Addr) (tc:Nat) (tvs:List Value) (w:World) (hK:Ba w [] F)
  (hF:(pb,Obj.cells #[.slice tp ts.length tc,.int .i64 cells] 146 (0,0))∈F) (hr:D4 F (.slice tp ts.length tc) tvs) (hT:Gg F ts tvs) (h3:ts.length≤3) (hw:∀t,t∈ts→WF cells t 0 false∧Ci t≤5000∧EX t≤100):
  Calls Tryz.prog 52 #[.pointer (some ⟨pb,0,none⟩)] w (nr cells ts w):=dt F cells Dp (lP F cells Dp) ts pb tp tc tvs w hK hF hr hT h3 hw
end Go.Proofs.YtpdfifdlhpmofaaGreatDoor
