/-
  Part 33 of the proof.
-/
import Derived.Test.YtpdfifdlhpmofaaGreatDoorZ30
import Derived.Test.YtpdfifdlhpmofaaGreatDoorZ32
import Derived.Test.YtpdfifdlhpmofaaGreatDoorZ23
set_option linter.unusedVariables false
set_option linter.unusedSimpArgs false
set_option maxHeartbeats 3200000
set_option maxRecDepth 100000
namespace Go.Proofs.YtpdfifdlhpmofaaGreatDoor
open Go.RowKit Tryz
open Go.Lib (hid)
theorem yQ:(prog.info? 158).map (fun i=>(i.zero,i.size,i.bytes))=some (some (.slice none 0 0),1,24):=Fd
def Aa0 (cells:Int) (ts:List Bt) (w:World) (e:Ending) (w':World):Prop:=
 ∃op oc cs,e= .returned (.slice op ts.length oc)/\cs.length=ts.length/\Ak w [] w' (IJ op ts.length oc cs (CL cells ts ts.length))
theorem pj (F:List (Nat×Obj)) (cells:Int) (Db:0<=cells/\cells<=6) (hA:Sn F cells) (ts:List Bt) (pb:Nat) (tp:Option Addr) (tc:Nat) (tvs:List Value) (w:World) (hK:A5 w [] F)
  (hF:(pb,Obj.cells #[.slice tp ts.length tc,i5 cells] 146 (0,0))∈F) (hr:EE F (.slice tp ts.length tc) tvs) (hT:GX F ts tvs) (h3:ts.length<=3) (hw:∀t,t∈ts->WF cells t 0 false/\Cg t<=5000/\FH t<=100):
  Calls prog 52 #[i6 pb] w (Aa0 cells ts w):=by
 obtain⟨j0,hj,KW,Fo,K7⟩:=info_parts yQ;have kc:=hK.cell hF;have HK:=hid hK;have HF:=hid hF;have Hr:=hid hr;have HT:=hid hT;have Hw:=hid hw;have HM:=hid (gY F cells Db hA 100 Y false);have zq:=Db;clear hK hF hr hT hw hA Db;go_enter func52,ntmps52;go_wp2;clear kc;go_loopw [12,3] (fun i o wr=>∃(k:Nat) (op:Option Addr) (oc:Nat) (cs:List SG),i= i5 k/\o= .slice op k oc/\k<=ts.length/\cs.length=k/\Ak w [] wr (IJ op k oc cs (CL cells ts k))) (fun i _ _=>ts.length - (intOf i).toNat);case atStart=>
  exact⟨0,none,0,[],rfl,rfl,d6 _,rfl,V5 (Az.nil w) (Da _ _ _ _) rfl⟩
 case round=>
  obtain⟨k,op,oc,cs,rfl,rfl,hk,Mv,st⟩:=hrel;have Hcs:=hid Mv;clear Mv;by_cases AX:(k:Int) < (ts.length:Int)
  ·obtain⟨sl,ws,us,hd,hr1,Lk⟩:=HT.AW k Y;have K:=hid (HK.step st);obtain⟨hzz,Sr,tb,yT,Lm⟩:=Hr.AW K hd;clear hzz;subst yT;have kc:=K.cell HF.out;have kl:=K.lt HF.out;have La:ts.getD k .nil∈ts:=by rw[GE,Id Y];exact Qab _
   have AbH:=Hw.out _ La;have Acd:=bQ cells ts k;obtain⟨t,hT⟩:∃t,t=ts.getD k .nil:=⟨_,rfl⟩;rw[<-hT] at Lk AbH Acd;have hwk:=hid AbH;have Agb:=hid Acd;clear AbH Acd;have S:=hid st;have Hr1:=hid hr1;have Hs1:=hid Lk;have pU:=hid (IntWalk.wrap64_in (64*(k:Int)) Y);have ZT:=hid (IntWalk.wrap64_in (32+64*(k:Int)) Y);clear st hr1 Lk hd La hT;have hk5:k<=100:=Y
   have inc:=Wv k Y;have Ab7:k+1<=maxLen:=by unfold maxLen;omega
   have Ab6:(k+1)*24<=140737488355328:=Y
   have hsi:=O0 cells t zq 0 false (GS.start k cells) hwk.1 rfl rfl;have kS:C2 (GS.start k cells).Ac:=by show 0<=32+64*(k:Int)/\32+64*(k:Int)<=100000;omega
   have Pb:=hwk.2.1;have uL:(GS.Dr t (GS.start k cells)).Ab.length<=5000:=by have:=hsi.2.2;have e0:(GS.start k cells).Ab.length=0:=rfl;omega
   have Ad5:=Is cells ts k;have Hsi:=hid hsi;have AeI:=hid kS;have wS:=hid Pb;have Hl5:=hid uL;have Agc:=hid Ad5;clear hsi kS Pb uL Ad5;have CS:=pU.out;have C4:=ZT.out;clear pU ZT;go_wp2_with fail;clear CS C4;have a1:=Ak.Ry S.Am (.cells #[.slice none 0 0,i5 (32+64*(k:Int)),i5 cells,.bool false,.slice none 0 0,i5 0] 169);have a2:=a1.trans (Ak.jI (A:=[_]) (B:=IJ op k oc cs (CL cells ts k)) (o:=D2 ⟨none,0⟩ []) a1.Am (Da _ _ _ _) rfl);have a3:Ak wr (IJ op k oc cs (CL cells ts k)) _ (MG.Ar ⟨wr.heap.size,⟨none,0⟩,⟨none,0⟩,[]⟩ (GS.start k cells)++IJ op k oc cs (CL cells ts k)):=
    a2.trans (Ak.jI (A:=[_,_]) (B:=IJ op k oc cs (CL cells ts k)) (o:= .row (.slice none 0 0) 1 1 0 []) a2.Am (Da _ _ _ _) rfl)
   replace S:=hid (S.trans a3);replace K:=hid (K.step a3);clear a1 a2 a3;refine(HM t sl ws 0 _ ⟨wr.heap.size,⟨none,0⟩,⟨none,0⟩,[]⟩ (GS.start k cells) hwk.2.2 Hr1 Hs1 hwk.1 Y S.Am.left K.left rfl rfl ⟨by show(0:Int)<=0;omega,by show(0:Int)<=((0:Nat):Int);omega⟩ AeI (by have:=wS.out;show 0+_<=_;omega) (LE _)).mono ?_;rintro e w1 ⟨rfl,c1,a1,av1,xY,_⟩;dsimp only at xY;replace xY:=Ak.frame S.Am xY;replace S:=hid (S.trans xY);replace K:=hid (K.step xY);clear xY;go_wp2_with fail;refine(KH .halt _ ⟨wr.heap.size,c1,a1,av1⟩ (GS.Dr t (GS.start k cells)) S.Am.left (by have:=Hl5.out;omega)).mono ?_;rintro e w2 ⟨rfl,c2,st2⟩;dsimp only at st2;replace st2:=Ak.frame S.Am st2;replace S:=hid (S.trans st2);replace K:=hid (K.step st2);clear st2;have Ui:=(Dm S.Am.left).c 0;have oF:=(Dm S.Am.left).f;have qe:=(Dm S.Am.left).lt;go_wp2_with (first | (at_builtin;refine B6 24 _ _ _ j0 _ #[.slice c2.p (GS.AP (GS.Dr t (GS.start k cells)) .halt).Ab.length c2.c] _ S.Am (v:= .slice op k oc) (e:=158) (size:=1) (n:=k) (xs:=BC cs (CL cells ts k)) (k:=3) rfl Do Do underlying121 hj KW Fo K7 rfl Nat.zero_lt_one Do Do rfl (by simp[Value.oneCell']) Ab7 Ab6 ?_;intro g6 AZ w6 AD _;rw[LA] at AD;have KT:=hid AD;clear AD Ui oF qe));go_roundw;case rel=>
    obtain⟨x1,GG⟩:∃x,x=((GS.Dr t (GS.start k cells)).AP .halt).Ab:=⟨_,rfl⟩;have hco:Gf cells k t=x1:=by rw[GG];rfl
    have hlen:cs.length=(CL cells ts k).length:=by rw[Hcs.out,Agc.out]
    have s1:Ak w [] w6 ([.Au wr.heap.size #[.slice c2.p ((GS.Dr t (GS.start k cells)).AP .halt).Ab.length c2.c,i5 ((GS.Dr t (GS.start k cells)).AP .halt).Ac,i5 ((GS.Dr t (GS.start k cells)).AP .halt).cells,.bool ((GS.Dr t (GS.start k cells)).AP .halt).block,.slice a1.p av1.length a1.c,i5 ((GS.Dr t (GS.start k cells)).AP .halt).Aj] 169,
        D2 c2 ((GS.Dr t (GS.start k cells)).AP .halt).Ab,.row (.slice a1.p av1.length a1.c) 1 1 av1.length av1]++
        (.row (.slice (some ⟨g6,0,none⟩) (k+1) AZ) 158 1 (k+1) (BC cs (CL cells ts k)++[.slice c2.p ((GS.Dr t (GS.start k cells)).AP .halt).Ab.length c2.c])::List.zipWith D2 cs (CL cells ts k))):=S.trans KT.out
    rw[<-GG] at s1;have p1:=Ak.Ux s1.Am (Ac2 _ _ _ _ _);have s2:=s1.trans (p1.trans (Ak.AN p1.Am));refine⟨k+1,some ⟨g6,0,none⟩,AZ,cs++[c2],rfl,rfl,Y,by rw[V,Hcs.out];rfl,?_⟩;have e:IJ (some ⟨g6,0,none⟩) (k+1) AZ (cs++[c2]) (CL cells ts (k+1))= .row (.slice (some ⟨g6,0,none⟩) (k+1) AZ) 158 1 (k+1) (BC cs (CL cells ts k)++[.slice c2.p x1.length c2.c])::(List.zipWith D2 cs (CL cells ts k)++[D2 c2 x1]):=by
     unfold IJ;rw[Agb.out,hco,Bx _ _ _ _ hlen,Qb4 hlen];rfl
    rw[e];exact s2
   case measure=>simp[intOf];omega
  ·have NS:k=ts.length:=Y
   subst NS;have KT:=hid st;clear st;go_wp2_with fail;go_ret;exact⟨op,oc,cs,rfl,Hcs,KT⟩
theorem Aae (F:List (Nat×Obj)) (cells:Int) (Db:0<=cells/\cells<=6):Sn F cells:=by
 intro b sp sn sc ws p w g G d h hK hF hn ha hb Fs Mv UF hd P0 ih hz h3 h4;exact dF cells b sp sn sc ws F p w g G h hK hF hn ha hb d Db Fs Mv UF hd P0 ih h3 hz h4
theorem vP (F:List (Nat×Obj)) (cells:Int) (Db:0<=cells/\cells<=6) (ts:List Bt) (pb:Nat) (tp:Option Addr) (tc:Nat) (tvs:List Value) (w:World) (hK:A5 w [] F)
  (hF:(pb,Obj.cells #[.slice tp ts.length tc,i5 cells] 146 (0,0))∈F) (hr:EE F (.slice tp ts.length tc) tvs) (hT:GX F ts tvs) (h3:ts.length<=3) (hw:∀t,t∈ts->WF cells t 0 false/\Cg t<=5000/\FH t<=100):
  Calls prog 52 #[i6 pb] w (Aa0 cells ts w):=pj F cells Db (Aae F cells Db) ts pb tp tc tvs w hK hF hr hT h3 hw
end Go.Proofs.YtpdfifdlhpmofaaGreatDoor
