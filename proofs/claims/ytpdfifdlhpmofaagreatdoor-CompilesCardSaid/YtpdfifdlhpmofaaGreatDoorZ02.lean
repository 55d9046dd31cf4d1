/-
  Part 2 of the proof, packed by program out of E1.
-/
import Derived.Test.YtpdfifdlhpmofaaGreatDoorZ01
import Derived.LaidEql
import Derived.Stop.Asserts
import Derived.RowKitTokens
set_option linter.unusedVariables false
set_option linter.unusedSimpArgs false
set_option maxHeartbeats 3200000
set_option maxRecDepth 100000
namespace Go.Proofs.YtpdfifdlhpmofaaGreatDoor
open Go.RowKit Go.Extern.Stop Go.Stop Go.Extern
open Go.Lib (hid)
theorem VX (t:Addr) (w:World):(ReflectliteValue.unpack (.iface 125 (.pointer (some t)))).run Tryz.prog w
  = .ok (.agg #[.pointer (some ⟨10,125,none⟩),.pointer (some ⟨w.heap.size,0,none⟩),.int .u64 150]) (w.alloc (.cells #[.pointer (some t)] 125)):=by kernel_rfl
theorem dF (a:Addr) (w:World):(ReflectliteValue.methodAny (ReflectliteValue.valueError "reflectlite.Value.Type" 0) (fun t _ _ _=>ReflectliteType.toType t) #[.agg #[.pointer (some ⟨10,125,none⟩),.pointer (some a),.int .u64 150]]).run Tryz.prog w
  = .ok (.iface 213 (.agg #[.pointer (some ⟨10,125,none⟩)])) w:=by kernel_rfl
theorem TA (h:Value) (w:World):(Go.method 492 213 (.agg #[h]) "Kind").run Tryz.prog w= .ok (221,h) w:=by kernel_rfl
theorem dG (w:World):((ReflectliteType.abiMethod fun t=>Functor.map (fun a:Nat=>Value.int IntKind.u8 (a:Int)) (Rtype.kind t)) #[.pointer (some ⟨10,125,none⟩)]).run Tryz.prog w= .ok (.int .u8 22) w:=by kernel_rfl
theorem dH (w:World):((ReflectliteType.abiMethod fun t=>Functor.map (fun a:Nat=>Value.int IntKind.u8 (a:Int)) (Rtype.kind t)) #[.pointer (some ⟨10,123,none⟩)]).run Tryz.prog w= .ok (.int .u8 22) w:=by kernel_rfl
theorem jr (z:Sem Value) (f:TypeId→Addr→Nat→Nat→Sem Value) (v:Value):
  ReflectliteValue.method z f #[v]=(do match←ReflectliteValue.parts v with | none=>z | some (t,a,fl)=>f t a fl (fl % 32)):=rfl
theorem SN (a:Addr) (w:World):(ReflectliteValue.parts (.agg #[.pointer (some ⟨10,125,none⟩),.pointer (some a),.int .u64 150])).run Tryz.prog w= .ok (some (125,a,150)) w:=by kernel_rfl
theorem ZC (a p:Addr) (W:World) (ha:W.cell? a=some (.pointer (some p))):
  (ReflectliteValue.method (ReflectliteValue.valueError "reflectlite.Value.IsNil" 0) ReflectliteValue.isNil #[.agg #[.pointer (some ⟨10,125,none⟩),.pointer (some a),.int .u64 150]]).run Tryz.prog W= .ok (.bool false) W:=by
 rw[jr];simp only[Sem.run_bind,SN,Result.andThen];simp[ReflectliteValue.isNil,loadVar,isAgg,underlying,Tryz.underlying125,ha,Result.andThen]
theorem TB (h:Value) (w:World):(Go.method 492 213 (.agg #[h]) "Elem").run Tryz.prog w= .ok (236,.agg #[h]) w:=by kernel_rfl
theorem M0 (h:Value) (w:World):(Go.method 492 213 (.agg #[h]) "Implements").run Tryz.prog w= .ok (237,.agg #[h]) w:=by kernel_rfl
theorem LH (h:Value) (w:World):(Go.method 492 213 (.agg #[h]) "AssignableTo").run Tryz.prog w= .ok (234,.agg #[h]) w:=by kernel_rfl
theorem dI (w:World):(ReflectliteType.method ReflectliteType.elem #[.agg #[.pointer (some ⟨10,125,none⟩)]]).run Tryz.prog w= .ok (.iface 213 (.agg #[.pointer (some ⟨10,123,none⟩)])) w:=by kernel_rfl
theorem QB (w:World):(ReflectliteType.relation "Implements" ReflectliteType.implements_ #[.agg #[.pointer (some ⟨10,123,none⟩)],.iface 213 (.agg #[.pointer (some ⟨10,85,none⟩)])]).run Tryz.prog w= .ok (.bool true) w:=by kernel_rfl
theorem XH (v:Value) (w:World):(ReflectliteType.typeOf #[.iface 123 v]).run Tryz.prog w= .ok (.iface 213 (.agg #[.pointer (some ⟨10,123,none⟩)])) w:=by kernel_rfl
theorem QC (w:World):(ReflectliteType.relation "AssignableTo" ReflectliteType.assignableTo #[.agg #[.pointer (some ⟨10,123,none⟩)],.iface 213 (.agg #[.pointer (some ⟨10,123,none⟩)])]).run Tryz.prog w= .ok (.bool true) w:=by kernel_rfl
theorem VY (e:Addr) (w:World):(ReflectliteValue.unpack (.iface 123 (.pointer (some e)))).run Tryz.prog w
  = .ok (.agg #[.pointer (some ⟨10,123,none⟩),.pointer (some ⟨w.heap.size,0,none⟩),.int .u64 150]) (w.alloc (.cells #[.pointer (some e)] 123)):=by kernel_rfl
theorem XJ (w:World):(Rtype.elem? 125).run Tryz.prog w= .ok (some 123) w:=by kernel_rfl
theorem lQ (p:Addr) (w:World):(ReflectliteValue.mk 123 p ReflectliteValue.flagAddr).run Tryz.prog w= .ok (.agg #[.pointer (some ⟨10,123,none⟩),.pointer (some p),.int .u64 406]) w:=by kernel_rfl
theorem ZD (a p:Addr) (W:World) (ha:W.cell? a=some (.pointer (some p))):
  (ReflectliteValue.method (ReflectliteValue.valueError "reflectlite.Value.Elem" 0) ReflectliteValue.elem #[.agg #[.pointer (some ⟨10,125,none⟩),.pointer (some a),.int .u64 150]]).run Tryz.prog W
   = .ok (.agg #[.pointer (some ⟨10,123,none⟩),.pointer (some p),.int .u64 406]) W:=by
 rw[jr];simp only[Sem.run_bind,SN,Result.andThen];simp[ReflectliteValue.elem,loadVar,isAgg,underlying,Tryz.underlying125,ha,Result.andThen,XJ,lQ]
theorem pH (v x:Value):ReflectliteValue.set #[v,x]=(do
    let (some (dst,a,fl),some (src,b,_)):=(←ReflectliteValue.parts v,←ReflectliteValue.parts x)
      | unsupported (.noEntry "extern/(internal/reflectlite.Value).Set.zeroValue")
    if fl / ReflectliteValue.flagAddr % 2==0 then unsupported (.noEntry "extern/(internal/reflectlite.Value).Set.unaddressable")
    let val←loadVar src b
    if←Rtype.directlyAssignable dst src then storeVar dst a val
    else if←Rtype.implements dst src then
      if (←Rtype.kind src)==20 then
        match val with
        | .nilIface=>unsupported (.noEntry "extern/reflectlite: a nil value of one interface type handed on as a value of another")
        | _=>storeVar dst a val
      else storeVar dst a (.iface src val)
    else panicString ("reflectlite.Set: value of type " ++(←Rtype.spelt src)++ " is not assignable to type " ++(←Rtype.spelt dst))
    pure (.tuple #[])):=rfl
theorem XI (a:Addr) (w:World):(ReflectliteValue.parts (.agg #[.pointer (some ⟨10,123,none⟩),.pointer (some a),.int .u64 406])).run Tryz.prog w= .ok (some (123,a,406)) w:=by kernel_rfl
theorem ZB (a:Addr) (w:World):(ReflectliteValue.parts (.agg #[.pointer (some ⟨10,123,none⟩),.pointer (some a),.int .u64 150])).run Tryz.prog w= .ok (some (123,a,150)) w:=by kernel_rfl
theorem XK (w:World):(Rtype.directlyAssignable 123 123).run Tryz.prog w= .ok true w:=by kernel_rfl
theorem jq (ta b e:Addr) (old:Value) (W:World) (hb:W.cell? b=some (.pointer (some e))) (ht:W.cell? ta=some old) (hf:W.frozen? ta=false):
  (ReflectliteValue.set #[.agg #[.pointer (some ⟨10,123,none⟩),.pointer (some ta),.int .u64 406],.agg #[.pointer (some ⟨10,123,none⟩),.pointer (some b),.int .u64 150]]).run Tryz.prog W
   = .ok (.tuple #[]) (W.setCell ta (.pointer (some e))):=by
 rw[pH];simp only[Sem.run_bind,XI,ZB,Result.andThen];simp[ReflectliteValue.flagAddr,loadVar,isAgg,underlying,Tryz.underlying123,hb,Result.andThen,XK,storeVar,Value.cells,storeCells,Addr.add];rw[run_store Tryz.prog W ta _ _ (by rfl)];simp[ht,hf]
theorem pI (e t:Addr) (old:Value) (w:World) (hg:w.cell? ⟨0,0,none⟩=some (.iface 213 (.agg #[.pointer (some ⟨10,85,none⟩)]))) (tS:w.cell? t=some old) (vU:w.frozen? t=false):
  Calls Tryz.prog 53 #[.iface 123 (.pointer (some e)),.iface 125 (.pointer (some t))] w fun ev w'=>ev= .returned (.bool true)∧w'=((((w.alloc (.cells #[.pointer (some t)] 125)).alloc (.cells #[.pointer (some ⟨10,125,none⟩),.pointer (some ⟨w.heap.size,0,none⟩),.int .u64 150] 177)).alloc (.cells #[.pointer (some ⟨10,125,none⟩),.pointer (some ⟨w.heap.size,0,none⟩),.int .u64 150] 177)).alloc (.cells #[.pointer (some e)] 123)).setCell t (.pointer (some e)):=by
 have h6:= @run_callFunc_extern Tryz.prog 82 _ (fun args=>ReflectliteValue.unpack (args.getD 0 (.tuple #[]))) Tryz.func82 (by kernel_rfl) (by kernel_rfl) (by kernel_rfl) (by kernel_rfl);have h7:= @run_callFunc_extern Tryz.prog 83 _ (ReflectliteValue.methodAny (ReflectliteValue.valueError "reflectlite.Value.Type" 0) (fun t _ _ _=>ReflectliteType.toType t)) Tryz.func83 (by kernel_rfl) (by kernel_rfl) (by kernel_rfl) (by kernel_rfl);have h8:= @run_callFunc_extern Tryz.prog 84 _ (ReflectliteValue.method (ReflectliteValue.valueError "reflectlite.Value.IsNil" 0) ReflectliteValue.isNil) Tryz.func84 (by kernel_rfl) (by kernel_rfl) (by kernel_rfl) (by kernel_rfl);have h27:= @run_callFunc_extern Tryz.prog 221 _ (ReflectliteType.abiMethod fun t=>do pure (.int .u8 (←Rtype.kind t))) Tryz.func221 (by kernel_rfl) (by kernel_rfl) (by kernel_rfl) (by kernel_rfl);have h37:= @run_callFunc_extern Tryz.prog 236 _ (ReflectliteType.method ReflectliteType.elem) Tryz.func236 (by kernel_rfl) (by kernel_rfl) (by kernel_rfl) (by kernel_rfl);have h38:= @run_callFunc_extern Tryz.prog 237 _ (ReflectliteType.relation "Implements" ReflectliteType.implements_) Tryz.func237 (by kernel_rfl) (by kernel_rfl) (by kernel_rfl) (by kernel_rfl);have wG:= @run_callFunc_extern Tryz.prog 105 _ ReflectliteType.typeOf Tryz.func105 (by kernel_rfl) (by kernel_rfl) (by kernel_rfl) (by kernel_rfl);have h35:= @run_callFunc_extern Tryz.prog 234 _ (ReflectliteType.relation "AssignableTo" ReflectliteType.assignableTo) Tryz.func234 (by kernel_rfl) (by kernel_rfl) (by kernel_rfl) (by kernel_rfl);have wF:= @run_callFunc_extern Tryz.prog 106 _ (ReflectliteValue.method (ReflectliteValue.valueError "reflectlite.Value.Elem" 0) ReflectliteValue.elem) Tryz.func106 (by kernel_rfl) (by kernel_rfl) (by kernel_rfl) (by kernel_rfl);have wE:= @run_callFunc_extern Tryz.prog 107 _ ReflectliteValue.set Tryz.func107 (by kernel_rfl) (by kernel_rfl) (by kernel_rfl) (by kernel_rfl);have tO:=XH;have mA:=LH;have a25:=QC;have v25:=VY;have f6:=VX;have f7:=dF;have mK:=TA;have mE:=TB;have mI:=M0;have k27:=dG;have k25:=dH;have e27:=dI;have i25:=QB;have n8:=ZC ⟨w.heap.size,0,none⟩ t ((w.alloc (.cells #[.pointer (some t)] 125)).alloc (.cells #[.pointer (some ⟨10,125,none⟩),.pointer (some ⟨w.heap.size,0,none⟩),.int .u64 150] 177)) (by simp);have Bi:0 < w.heap.size:=by
  rcases Nat.eq_zero_or_pos w.heap.size with h0 | h
  ·simp[World.cell?,h0] at hg
  ·exact h
 have ln:((w.alloc (.cells #[.pointer (some t)] 125)).alloc (.cells #[.pointer (some ⟨10,125,none⟩),.pointer (some ⟨w.heap.size,0,none⟩),.int .u64 150] 177)).cell? ⟨0,0,none⟩=some (.iface 213 (.agg #[.pointer (some ⟨10,85,none⟩)])):=by
  rw[World.cell?_alloc_lt _ _ ⟨0,0,none⟩ (by simp),World.cell?_alloc_lt _ _ ⟨0,0,none⟩ Bi];exact hg
 have kX:t.block < w.heap.size:=by
  rcases Nat.lt_or_ge t.block w.heap.size with h | h
  ·exact h
  ·simp[World.cell?,Array.getElem?_eq_none h] at tS
 have el:=ZD ⟨w.heap.size,0,none⟩ t (((w.alloc (.cells #[.pointer (some t)] 125)).alloc (.cells #[.pointer (some ⟨10,125,none⟩),.pointer (some ⟨w.heap.size,0,none⟩),.int .u64 150] 177)).alloc (.cells #[.pointer (some ⟨10,125,none⟩),.pointer (some ⟨w.heap.size,0,none⟩),.int .u64 150] 177)) (by rw[World.cell?_alloc_lt _ _ ⟨w.heap.size,0,none⟩ (by simp;omega)];simp);have st:=jq t ⟨w.heap.size+1+1+1,0,none⟩ e old ((((w.alloc (.cells #[.pointer (some t)] 125)).alloc (.cells #[.pointer (some ⟨10,125,none⟩),.pointer (some ⟨w.heap.size,0,none⟩),.int .u64 150] 177)).alloc (.cells #[.pointer (some ⟨10,125,none⟩),.pointer (some ⟨w.heap.size,0,none⟩),.int .u64 150] 177)).alloc (.cells #[.pointer (some e)] 123))
  (by rw[World.cell?_alloc_at _ _ _ _ (by simp)];rfl)
  (by rw[World.cell?_alloc_lt _ _ t (by simp;omega),World.cell?_alloc_lt _ _ t (by simp;omega),World.cell?_alloc_lt _ _ t (by simp;omega),World.cell?_alloc_lt _ _ t kX];exact tS)
  (by rw[World.frozen?_alloc_old _ _ t (by simp;omega),World.frozen?_alloc_old _ _ t (by simp;omega),World.frozen?_alloc_old _ _ t (by simp;omega),World.frozen?_alloc_old _ _ t (Nat.ne_of_lt kX)];exact vU)
 go_enter Tryz.func53,Tryz.ntmps53;go_wp2;refine wp_loop_rounds 1 ?_;rw[rounds_succ];go_wp2;go_ret;exact⟨rfl,rfl⟩
end Go.Proofs.YtpdfifdlhpmofaaGreatDoor
