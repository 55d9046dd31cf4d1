/-
  The tied card of Compiles: whatever the text, Compiles answers true and leaves its argument.
-/
import Derived.Test.YtpdfifdlhpmofaaGreatDoorZ51
import Derived.Test.YtpdfifdlhpmofaaGreatDoorCards
set_option linter.unusedVariables false
set_option linter.unusedSimpArgs false
set_option maxHeartbeats 3200000
set_option maxRecDepth 100000
namespace Go.Proofs.YtpdfifdlhpmofaaGreatDoor
open Go.ChangeShapes Go.WideShapes Go.ChangeAt Go.WideMaps Go.WideElems Go.RowKit
open Go.Lib (hid)
theorem fU {w w':World} (h:Av [] w w') (may:MemPlace→Prop):w.keptBut w' may:=
 Below.frame (⟨h.os,h.tape,h.output,h.size,fun k hk=>h.block k hk (by simp)⟩:Below w.heap.size w w') may
theorem Qx (os:Os) (started:os.Started) (H:Type) (enc:TypeId×Value→H):
  ReturnsInHanded {} Tryz.checked os 3 .any (fun w args=>(Rows.compilesSpec.pre enc Tryz.prog Tryz.f3 [] false w args∧laidMetH Tryz.prog P1 w)∧sizedMet enc Tryz.prog Tryz.f3 (OpenSpec.ofChange Rows.compilesSpec) false w args)
   (Rows.compilesSpec.post enc Tryz.prog Tryz.f3 false true false false):=by
 refine Rr (C:=Tryz.checked) (X:=fun w _=>laidMetH Tryz.prog P1 w) (fun _ _ _ hh h=>h.of_heap hh) uJ started (by kernel_rfl) Tryz.func3
  (ChangeSpec.witness_shaped (enc:=enc) (C:=Tryz.checked) (os:=os) (X:=fun w _=>laidMetH Tryz.prog P1 w) false (Us os) #[.string ⟨#[]⟩] 8 (gf os)
    (World.shaped_of_ZipB (by kernel_rfl) (by kernel_rfl)) (by kernel_rfl) (by kernel_rfl) (by kernel_rfl) (ct os _)) ?_
 intro W Ah args ds gs before qY hW _ _ hL KO;have kW:∀(j:Nat) t v,Tryz.f3.params[j]?=some t→args[j]?=some v→Value.okWide Tryz.prog W .any Ah t v:=qY;have hW':=hW;obtain⟨p,q,sI,hV0,rfl,_,_⟩:=hW;have hA:DataW.TrodAll enc Tryz.prog W 0 (fun _=>true) true Tryz.f3.params.toList args.toList ds p:=sI;have hV:DataW.TrodVars enc Tryz.prog W (fun _=>true) [] gs q:=hV0;rw[Tryz.params3] at hA kW;obtain⟨v0,d0,rfl,rfl,h0⟩:=trodAll_one hA;obtain⟨rfl,rfl⟩:=trodVars_none hV;obtain⟨s,rfl,rfl,rfl,ws⟩:=Go.ChangeMaps.open_string Tryz.underlying9 (kW 0 9 v0 rfl rfl) h0;obtain⟨mb,hG,hE⟩:=kF hL KO;have e1:Rows.compilesSpec.fn H ([.lit (.string s.data.toList)]++[])={results:=[.lit (.bool true)],args:=[.lit (.string s.data.toList)]}:=by simp[Rows.compilesSpec]
 refine(VP mb s W hG hE).mono fun e W' ⟨he,hm⟩=> ?_
 subst he;refine⟨_,rfl,_,_,_,[],[],[],hW',?_,?_,?_,fU hm _,fun h=>by cases h⟩
 ·rw[e1];exact trodAll_mk1 (shut_bool Tryz.underlying4 true)
 ·rw[e1];exact trodAll_mk1 (Go.ChangeMaps.shut_string Tryz.underlying9 ws)
 ·rw[e1];rfl
theorem compiles_row:Rows.CompilesSaid:=
 OpenClaim.holds_of_wide 3 Tryz.f3 rfl rfl rfl rfl rfl rfl rfl ⟨rfl,rfl,rfl,rfl,rfl⟩ rfl rfl rfl rfl rfl (by kernel_rfl) Tryz.func3 (by kernel_rfl)
  (of_decide_eq_true (by kernel_rfl)) (by unfold Func.isWrapper;first | (rw[if_pos (by decide+kernel)];kernel_rfl) | (rw[if_neg (by decide+kernel)];exact⟨rfl,rfl⟩))
  (fun os started H enc _=>Qx os started H enc)
theorem compiles_card:Rows.CompilesCardSaid:=
 Claim7.holds_tied_plain_at .later [] [.data,.data,.data,.data,.handle,.sentinel,.sentinel,.mapped,.pinned] true (true,"7845aaeef35639c2a72e0852d15e3f46db0a75a699761104d11a59dcd92d4a22") true
  compiles_row (fun _ h=>by cases h) (by kernel_rfl) (fun _ h=>by cases h) compiles_row_tie rfl ⟨rfl,rfl⟩ (by kernel_rfl) rfl
  (fun f fn hf ug=>by
    obtain rfl:f=3:=Option.some.inj ((show Tryz.prog.funcNamed "commits/commitslaw.Compiles" =some 3 by kernel_rfl).symm.trans hf) |>.symm;obtain rfl:fn=Tryz.f3:=(Option.some.inj (Tryz.func3.symm.trans ug)).symm;exact⟨by kernel_rfl,fun j t ht=>by
      rw[Tryz.params3] at ht;have hm:t∈[9]:=by simpa using Array.mem_of_getElem? ht
      have FV:([9].all fun u=> !Tryz.prog.wantsStandIn u)=true:=by kernel_rfl
      exact(show Tryz.prog.wantsStandIn t=false by simpa using List.all_eq_true.1 FV t hm)⟩)
  (by kernel_rfl)
#print axioms compiles_card
end Go.Proofs.YtpdfifdlhpmofaaGreatDoor
