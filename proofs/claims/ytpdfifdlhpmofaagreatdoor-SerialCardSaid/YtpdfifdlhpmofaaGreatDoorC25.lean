/- Part 25 of the proof. -/
import Derived.Test.YtpdfifdlhpmofaaGreatDoorC24
import Derived.Test.YtpdfifdlhpmofaaGreatDoorC18
set_option linter.unusedVariables false
set_option linter.unusedSimpArgs false
set_option maxHeartbeats 0
set_option maxRecDepth 99999
namespace Go.Proofs.YtpdfifdlhpmofaaGreatDoor
open Go.RowKit Tryz
open Value renaming slice->m9,string->qA,bool->qB,tuple->qC,agg->qD,pointer->qE
open Ending renaming returned->qF
open Obj renaming cells->qG
open Option renaming none->Z,some->U
open Bool renaming true->V,false->I
open Go.Lib renaming hid->D
open List renaming length->J
variable {s:By} {w:World}
def Xk (s:By) (w:World) (e:Ending) (w':World):Prop:=match FL s with
 |.error _=>e= qF (qC #[qE Z,qE Z,qB V])/\Az [] w w'
 |.ok p=>∃(y:qH) (g:RG) (R:RS) (F:VG) (gs:List Lf),PS y p/\R.p=p/\C9 g R/\e= qF (qC #[iJ F.mb,iJ g.pb,qB V])/\Ai w [] w' (MO F gs (R0 y) (g.Ay R).tail)/\rQ gs (R0 y)
theorem AbE {c:Int×Nat} (hr:FL s=.error c) {e:Ending} {w':World} (h:Xk s w e w'):e= qF (qC #[qE Z,qE Z,qB V])/\Az [] w w':=by unfold Xk at h;rw[hr] at h;exact h
theorem AeR {p:RP} (hr:FL s=.ok p) {e:Ending} {w':World} (h:Xk s w e w'):∃(y:qH) (g:RG) (R:RS) (F:VG) (gs:List Lf),PS y p/\R.p=p/\C9 g R/\e= qF (qC #[iJ F.mb,iJ g.pb,qB V])/\Ai w [] w' (MO F gs (R0 y) (g.Ay R).tail)/\rQ gs (R0 y):=by unfold Xk at h;rw[hr] at h;exact h
theorem AcI {w':World} {L:List Ob} (h:Ai w [] w' L):eK w w' L:=⟨h.mod,h.Ak,λb hb=>(h.fp b hb).elim (λhx=>by cases hx) id⟩
theorem kM (mb:Nat) (s:ByteArray) (w:World) (hg:Gl mb w) (ht:bL w) (hs:s.size<=1000000):
  Calls prog 10 #[qA s] w (Xk (bs s) w):=by
 have Hc:=D (gx mb s w hg ht hs);clear hg ht hs;generalize Ta:Xk (bs s) w=post;unfold Xk at Ta;cases hr:FL (bs s) with
 |error c=>
  have H1:∀e w',rX (bs s) w e w'->e= qF (qC #[qA ⟨#[]⟩,qE Z,qB V])/\Az [] w w':=λe w' h=>by
   unfold rX at h;rw[hr] at h;exact h
  rw[hr] at Ta;have Hp:=D Ta;have HH:=D H1;clear Ta hr H1;go_enter func10,ntmps10;go_wp2_with fail;refine Hc.mono ?_;intro e w1 xw;obtain⟨rfl,hm⟩:=HH.out e w1 xw;have Hm:=D hm;clear xw hm;go_wp2;go_ret3;rw[<-Hp.out];exact⟨rfl,Hm⟩
 |ok p=>
  have H1:∀e w',rX (bs s) w e w'->∃(y:qH) (g:RG) (R:RS),PS y p/\R.p=p/\C9 g R/\e= qF (qC #[qA (AU (FY y)),iJ g.pb,qB V])/\Ai w [] w' (g.rest R):=λe w' h=>by
   unfold rX at h;rw[hr] at h;exact h
  rw[hr] at Ta;have Hp:=D Ta;have HH:=D H1;clear Ta hr H1;go_enter func10,ntmps10;go_wp2_with fail;refine Hc.mono ?_;intro e w1 xw;obtain⟨y,g,R,Wa,hR,hlen,rfl,Aw⟩:=HH.out e w1 xw;have hld:=kO (AU (FY y)) w1 (by rw[Lt];exact XN Wa);rw[Dk,show MQ (FY y)=.ok (R0 y) from ZS Wa] at hld;have Hl:=D hld;have bI:=D Wa;have HRp:=D hR;have AiQ:=D hlen;have GK:=D Aw;clear xw hld Wa hR hlen Aw;go_wp2_with fail;refine Hl.mono ?_;rintro e w2 ⟨mb2,mv,tv,xs,rfl,AhW,Nj,Vg⟩;have s2:=AeN GK.Ak AhW Nj Vg;have hok:=vW bI (gs:=xs.map TV.g) (by rw[JZ];exact AhW.2.2.2.1);have HS:=D (GK.trans s2);have HO:=D hok;clear AhW Nj Vg s2 hok;go_wp2;go_ret3;rw[<-Hp.out];exact⟨y,g,R,bq mb2 mv tv,xs.map TV.g,bI,HRp,AiQ,rfl,HS,HO⟩
