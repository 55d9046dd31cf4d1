/- The tied card of Serial: whatever the text and the number, Serial answers true and leaves its arguments. -/
import Derived.Test.YtpdfifdlhpmofaaGreatDoorC19
import Derived.Test.YtpdfifdlhpmofaaGreatDoorC26
import Derived.Test.YtpdfifdlhpmofaaGreatDoorCards
set_option linter.unusedVariables false
set_option linter.unusedSimpArgs false
set_option maxHeartbeats 0
set_option maxRecDepth 99999
namespace Go.Proofs.YtpdfifdlhpmofaaGreatDoor
open Go.ChangeShapes Go.WideShapes Go.ChangeAt Go.WideMaps Go.WideElems Go.RowKit Go.Proofs.Tryz
open Value renaming slice->m9,string->qA,bool->qB,tuple->qC,agg->qD,pointer->qE
open Ending renaming returned->qF
open Obj renaming cells->qG
open Option renaming none->Z,some->U
open Bool renaming true->V,false->I
open Go.Lib renaming hid->D
open List renaming length->J
theorem aN (os:Os) (started:os.Started) (H:Type) (dM:TypeId×Value->H):
  ReturnsInHanded {} checked os 4 .any (λw args=>(Rows.serialSpec.pre dM prog f4 [] I w args/\laidMetH prog W9 w)/\sizedMet dM prog f4 (OpenSpec.ofChange Rows.serialSpec) I w args)
   (Rows.serialSpec.post dM prog f4 I V I I):=by
 refine YF (C:=checked) (X:=λw _=>laidMetH prog W9 w) (λ_ _ _ hh h=>h.of_heap hh) AlM started Fd func4
  (ChangeSpec.witness_shaped (enc:=dM) (C:=checked) (os:=os) (X:=λw _=>laidMetH prog W9 w) I (di os) #[.string ⟨#[]⟩,.int .i64 0] 8 (AbM os)
    (World.shaped_of_ZipB Fd Fd) Fd Fd Fd (wU os _)) ?_
 intro W Ac args ds gs before AjP hW _ hwt hL GU;have xj:∀(j:Nat) t v,f4.params[j]?=U t->args[j]?=U v->Value.okWide prog W .any Ac t v:=AjP;have hW':=hW;obtain⟨p,q,hA0,hV0,rfl,_,_⟩:=hW;have hA:DataW.TrodAll dM prog W 0 (λ_=>V) V f4.params.toList args.toList ds p:=hA0;have hV:DataW.TrodVars dM prog W (λ_=>V) [] gs q:=hV0;rw[params4] at hA xj;obtain⟨v0,v1,d0,d1,p0,p1,rfl,rfl,rfl,h0,h1⟩:=trodAll_two hA;obtain⟨rfl,rfl⟩:=trodVars_none hV;simp only[Jo] at hW';obtain⟨s,rfl,rfl,rfl,ws⟩:=Go.ChangeMaps.open_string underlying9 (xj 0 9 v0 rfl rfl) h0;obtain⟨u,rfl,rfl,rfl,wu⟩:=open_int underlying3 (xj 1 3 v1 rfl rfl) h1;obtain⟨mb,hG,hE⟩:=Aeq hL GU;have hu:i64 u:=by simpa[Lit.wf,i64,AhM] using wu
 have hs9:s.size<=reachBytes:=by
  have q:=Nm.1 hwt (J s.data.toList) (IR _ (GE.2 rfl));simpa using q
 have e1:Rows.serialSpec.fn H ([.lit (.string s.data.toList),.lit (.int .i64 u)]++[])={results:=[.lit (.bool V)],args:=[.lit (.string s.data.toList),.lit (.int .i64 u)]}:=by simp[Rows.serialSpec]
 refine(o8 s W (λhs=>kM mb s W hG hE hs) u hu (by unfold reachBytes at hs9;omega)).mono λe W' ⟨he,hm⟩=>?_
 subst he;refine⟨_,rfl,_,_,_,[],[]++[],[],hW',?_,?_,?_,Abx hm _,λh=>by cases h⟩
 .rw[e1];exact trodAll_mk1 (shut_bool underlying4 V)
 .rw[e1];exact trodAll_mk2 (Go.ChangeMaps.shut_string underlying9 ws) (shut_int underlying3 wu)
 .rw[e1];rfl
theorem serial_row:Rows.SerialSaid:=
 OpenClaim.holds_of_wide 4 f4 rfl rfl rfl rfl rfl rfl rfl ⟨rfl,rfl,rfl,rfl,rfl⟩ rfl rfl rfl rfl rfl Fd func4 Fd
  (of_decide_eq_true Fd) (by unfold Func.isWrapper;first|(rw[Jb (by decide+kernel)];kernel_rfl)|(rw[In (by decide+kernel)];exact⟨rfl,rfl⟩))
  (λos started H dM _=>aN os started H dM)
theorem serial_card:Rows.SerialCardSaid:=
 Claim7.holds_tied_plain_at .later [] [.data,.data,.data,.data,.handle,.sentinel,.sentinel,.mapped,.pinned] V (V,"7845aaeef35639c2a72e0852d15e3f46db0a75a699761104d11a59dcd92d4a22") V
  serial_row (λ_ h=>by cases h) Fd (λ_ h=>by cases h) serial_row_tie rfl ⟨rfl,rfl⟩ Fd rfl
  (λf fn hf hfn=>by
    obtain rfl:f=4:=Option.some.inj ((show prog.funcNamed "commits/commitslaw.Serial" =U 4 by kernel_rfl).symm.trans hf) |>.symm;obtain rfl:fn=f4:=(Option.some.inj (func4.symm.trans hfn)).symm;exact⟨Fd,λj t ht=>by
      rw[params4] at ht;have hm:t∈[9,3]:=by simpa using Array.mem_of_getElem? ht
      have DT:([9,3].all λu=> !Tryz.prog.wantsStandIn u)=V:=Fd
      exact(show prog.wantsStandIn t=I by simpa using Nm.1 DT t hm)⟩)
  Fd
#print axioms serial_card
