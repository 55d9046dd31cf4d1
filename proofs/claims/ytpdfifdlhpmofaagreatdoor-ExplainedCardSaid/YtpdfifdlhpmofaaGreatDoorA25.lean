/- Part 25 of the proof. -/
import Derived.Test.YtpdfifdlhpmofaaGreatDoorA24
import Derived.Test.YtpdfifdlhpmofaaGreatDoorA18
set_option linter.unusedVariables false
set_option linter.unusedSimpArgs false
set_option maxHeartbeats 0
set_option maxRecDepth 99999
namespace Go.Proofs.YtpdfifdlhpmofaaGreatDoor
open Go.RowKit Tryz
open Value renaming slice->qD,string->qE,bool->qF,tuple->qG,agg->qH,pointer->qI
open Ending renaming returned->qJ
open Obj renaming cells->qK
open Option renaming none->Z,some->U
open Bool renaming true->V,false->I
open Go.Lib renaming hid->D
open List renaming length->J
variable {s:By} {w:World}
def XC (s:By) (w:World) (e:Ending) (w':World):Prop:=match FP s with
 |.error _=>e= qJ (qG #[qI Z,qI Z,qF V])/\Aw [] w w'
 |.ok p=>∃(y:qL) (g:RG) (R:RS) (F:VG) (gs:List H9),PS y p/\R.p=p/\C5 g R/\e= qJ (qG #[iJ F.mb,iJ g.pb,qF V])/\Af w [] w' (MO F gs (R0 y) (g.Az R).tail)/\cF gs (R0 y)
theorem Ab9 {c:Int×Nat} (hr:FP s=.error c) {e:Ending} {w':World} (h:XC s w e w'):e= qJ (qG #[qI Z,qI Z,qF V])/\Aw [] w w':=by unfold XC at h;rw[hr] at h;exact h
theorem Afc {p:RP} (hr:FP s=.ok p) {e:Ending} {w':World} (h:XC s w e w'):∃(y:qL) (g:RG) (R:RS) (F:VG) (gs:List H9),PS y p/\R.p=p/\C5 g R/\e= qJ (qG #[iJ F.mb,iJ g.pb,qF V])/\Af w [] w' (MO F gs (R0 y) (g.Az R).tail)/\cF gs (R0 y):=by unfold XC at h;rw[hr] at h;exact h
theorem Adb {w':World} {L:List Ob} (h:Af w [] w' L):VS w w' L:=⟨h.mod,h.Ak,λb hb=>(h.fp b hb).elim (λhx=>by cases hx) id⟩
theorem lW (mb:Nat) (s:ByteArray) (w:World) (hg:Gl mb w) (ht:cK w) (hs:s.size<=1000000):
  Calls prog 10 #[qE s] w (XC (bs s) w):=by
 have Hc:=D (ir mb s w hg ht hs);clear hg ht hs;generalize Om:XC (bs s) w=post;unfold XC at Om;cases hr:FP (bs s) with
 |error c=>
  have H1:∀e w',tz (bs s) w e w'->e= qJ (qG #[qE ⟨#[]⟩,qI Z,qF V])/\Aw [] w w':=λe w' h=>by
   unfold tz at h;rw[hr] at h;exact h
  rw[hr] at Om;have Hp:=D Om;have HH:=D H1;clear Om hr H1;go_enter func10,ntmps10;go_wp2_with fail;refine Hc.mono ?_;intro e w1 yD;obtain⟨rfl,hm⟩:=HH.out e w1 yD;have Hm:=D hm;clear yD hm;go_wp2;go_ret3;rw[<-Hp.out];exact⟨rfl,Hm⟩
 |ok p=>
  have H1:∀e w',tz (bs s) w e w'->∃(y:qL) (g:RG) (R:RS),PS y p/\R.p=p/\C5 g R/\e= qJ (qG #[qE (AR (F7 y)),iJ g.pb,qF V])/\Af w [] w' (g.rest R):=λe w' h=>by
   unfold tz at h;rw[hr] at h;exact h
  rw[hr] at Om;have Hp:=D Om;have HH:=D H1;clear Om hr H1;go_enter func10,ntmps10;go_wp2_with fail;refine Hc.mono ?_;intro e w1 yD;obtain⟨y,g,R,VW,hR,hlen,rfl,Ay⟩:=HH.out e w1 yD;have hld:=lY (AR (F7 y)) w1 (by rw[LF];exact Yd VW);rw[Di,show Nl (F7 y)=.ok (R0 y) from aF VW] at hld;have Hl:=D hld;have n7:=D VW;have HRp:=D hR;have AnE:=D hlen;have FZ:=D Ay;clear yD hld VW hR hlen Ay;go_wp2_with fail;refine Hl.mono ?_;rintro e w2 ⟨mb2,mv,tv,xs,rfl,Aij,NI,Vz⟩;have s2:=Ae8 FZ.Ak Aij NI Vz;have hok:=xE n7 (gs:=xs.map TV.g) (by rw[JY];exact Aij.2.2.2.1);have HS:=D (FZ.trans s2);have HO:=D hok;clear Aij NI Vz s2 hok;go_wp2;go_ret3;rw[<-Hp.out];exact⟨y,g,R,cd mb2 mv tv,xs.map TV.g,n7,HRp,AnE,rfl,HS,HO⟩
