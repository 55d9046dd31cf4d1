/-
  Part 51 of the proof, packed by program out of KB.
-/
import Derived.Test.YtpdfifdlhpmofaaGreatDoorZ50
set_option linter.unusedVariables false
set_option linter.unusedSimpArgs false
set_option maxHeartbeats 3200000
set_option maxRecDepth 100000
namespace Go.Proofs.YtpdfifdlhpmofaaGreatDoor
open Go.ChangeShapes Go.WideShapes Go.ChangeAt Go.WideMaps Go.WideElems Go.RowKit
open Go.Lib (hid)
theorem uJ:ownKnob Tryz.prog.godebug=none:=by kernel_rfl
noncomputable def Us (os:Os):World:=(World.doorLaid Tryz.prog 144 os).layVars Tryz.prog (On.filter fun x=>["unicode/utf8.first"].contains x.1)
theorem gf (os:Os):(Us os).os=os:=World.layVars_os _ _ _
noncomputable def Z7 (os:Os):List Nat:=(List.range (World.doorLaid Tryz.prog 144 os).heap.size).filter fun x=>x !=3
theorem YW (os:Os):(World.doorLaid Tryz.prog 144 os).layFits Tryz.prog (On.filter fun x=>["unicode/utf8.first"].contains x.1) (Z7 os)=true:=by kernel_rfl
theorem cu (os:Os):(World.doorLaid Tryz.prog 144 os).layIfaces Tryz.prog (On.filter fun x=>["unicode/utf8.first"].contains x.1) (Us os)=true:=by kernel_rfl
theorem gg (os:Os):LaidIn Tryz.prog (Us os) (On.filter fun x=> !["unicode/utf8.first"].contains x.1) (Z7 os):=
 LaidIn.of_run (Z7 os) 8 (by kernel_rfl) (by kernel_rfl) (by kernel_rfl) (by kernel_rfl)
theorem ct (os:Os) (args:Array Value):laidMetH Tryz.prog P1 ((Us os).forCall (fun _ _=>0) ⟨#[],args,[]⟩).memory:=
 (show laidMetH Tryz.prog P1 (Us os) from laidMetH_of_parts (laidMet_layVars (w0:=World.doorLaid Tryz.prog 144 os) ["unicode/utf8.first"] (Z7 os) rfl (YW os) (cu os) (gg os)) (by kernel_rfl)).of_heap (by simp[World.memory,World.forCall,Input.heap])
variable {H:Type} {enc:TypeId×Value→H}
theorem Rr {a:Assume} {C:Checked} {os:Os} {f:FuncId} {fn:Func} {s:ChangeSpec} {conds:List PathCond} {apart fresh handsOn again:Bool} {X:World→Array Value→Prop}
  (hX:∀(w w':World) (args:Array Value),w.heap=w'.heap→X w args→X w' args)
  (Al:ownKnob C.prog.godebug=none) (started:os.Started) (noInit:C.prog.inits.idxOf? f=none) (ug:C.prog.funcs[f]?=some fn)
  (witness:∃(w:World) (tape:Tape) (i:Input),w.os=os∧(w.forCall tape i).Shaped C.prog∧i.vars=[]∧Input.okWide C.prog (w.forCall tape i) .any w.heap.size f i∧
    ((s.pre enc C.prog fn conds apart (w.forCall tape i).memory i.args∧X (w.forCall tape i).memory i.args)∧sizedMet enc C.prog fn (OpenSpec.ofChange s) apart (w.forCall tape i).memory i.args)∧a.holds C.prog (lone (Frame.enter C.prog f i.args .normal) [] (w.forCall tape i)))
  (contract:∀(W:World) (Ah:Nat) (args:Array Value) (ds gs:List (DataW H)) (before:List MemPlace),
    (∀(j:Nat) t v,fn.params[j]?=some t→args[j]?=some v→Value.okWide C.prog W .any Ah t v)→
    DataW.Whole enc C.prog fn.params.toList s.vars apart W args.toList ds gs before→
    conds.all (PathCond.test C.prog ⟨fn.params.toList,ds,s.plain.varTypes C.prog,gs⟩)=true→
    (DataW.weightsEach C.prog (fn.params.toList++s.plain.varTypes C.prog) (ds++gs)).all (· ≤reachBytes)=true→X W args→
    W.ShapedOpen C.prog→
    Calls C.prog f args W fun e W'=>∃v,e= .returned v∧s.post enc C.prog fn apart fresh handsOn again W args v W'):
  ReturnsInHanded a C os f .any (fun w args=>(s.pre enc C.prog fn conds apart w args∧X w args)∧sizedMet enc C.prog fn (OpenSpec.ofChange s) apart w args) (s.post enc C.prog fn apart fresh handsOn again):=by
 refine returnsInHanded_of_calls Al started noInit witness ?_;intro w tape i _ KO _ Qq vk _;obtain⟨_,_,_,fn',vS,_,_,_,_,kW⟩:=Qq;have e:fn'=fn:=Option.some.inj (vS.symm.trans ug);subst e;obtain⟨⟨⟨ds,gs,before,hw,hc⟩,hx⟩,hz⟩:=vk;have yq:=DataW.Whole.of_heap (w':=w.forCall tape i) (by rfl) hw;refine(contract (w.forCall tape i) w.heap.size i.args ds gs before kW yq hc (hz.weights hw) (hX _ _ _ (by rfl) hx) KO).mono fun e W' ⟨v,he,hp⟩=> ?_
 subst he;exact ChangeSpec.post_blind hp
end Go.Proofs.YtpdfifdlhpmofaaGreatDoor
