/-
  Part 2 of the proof.
-/
import Derived.Test.YtpdfifdlhpmofaaGreatDoorZ01
set_option linter.unusedVariables false
set_option linter.unusedSimpArgs false
set_option maxHeartbeats 3200000
set_option maxRecDepth 100000
namespace Go.Proofs.YtpdfifdlhpmofaaGreatDoor
open Go.RowKit Go.Extern.Stop Go.Stop Go.Extern Tryz
open Go.Lib (hid)
theorem bW (t:Addr) (w:World):(ReflectliteValue.unpack (.iface 125 (.pointer (some t)))).run prog w
  = .ok (.agg #[.pointer (some ⟨10,125,none⟩),i6 w.heap.size,.int .u64 150]) (w.alloc (.cells #[.pointer (some t)] 125)):=Fd
theorem pE (a:Addr) (w:World):(ReflectliteValue.methodAny (ReflectliteValue.valueError "reflectlite.Value.Type" 0) (fun t _ _ _=>ReflectliteType.toType t) #[.agg #[.pointer (some ⟨10,125,none⟩),.pointer (some a),.int .u64 150]]).run prog w
  = .ok (.iface 213 (.agg #[.pointer (some ⟨10,125,none⟩)])) w:=Fd
theorem Yd (h:Value) (w:World):(Go.method 492 213 (.agg #[h]) "Kind").run prog w= .ok (221,h) w:=Fd
theorem pF (w:World):((ReflectliteType.abiMethod fun t=>Functor.map (fun a:Nat=>Value.int IntKind.u8 (a:Int)) (Rtype.kind t)) #[.pointer (some ⟨10,125,none⟩)]).run prog w= .ok (.int .u8 22) w:=Fd
theorem pG (w:World):((ReflectliteType.abiMethod fun t=>Functor.map (fun a:Nat=>Value.int IntKind.u8 (a:Int)) (Rtype.kind t)) #[.pointer (some ⟨10,123,none⟩)]).run prog w= .ok (.int .u8 22) w:=Fd
theorem wm (z:Sem Value) (f:TypeId->Addr->Nat->Nat->Sem Value) (v:Value):
  ReflectliteValue.method z f #[v]=(do match<-ReflectliteValue.parts v with | none=>z | some (t,a,fl)=>f t a fl (fl % 32)):=rfl
theorem Xf (a:Addr) (w:World):(ReflectliteValue.parts (.agg #[.pointer (some ⟨10,125,none⟩),.pointer (some a),.int .u64 150])).run prog w= .ok (some (125,a,150)) w:=Fd
theorem jE (a p:Addr) (W:World) (ha:W.cell? a=some (.pointer (some p))):
  (ReflectliteValue.method (ReflectliteValue.valueError "reflectlite.Value.IsNil" 0) ReflectliteValue.isNil #[.agg #[.pointer (some ⟨10,125,none⟩),.pointer (some a),.int .u64 150]]).run prog W= .ok (.bool false) W:=by
 rw[wm];simp only[Sem.run_bind,Xf,Result.andThen];simp[ReflectliteValue.isNil,loadVar,isAgg,underlying,underlying125,ha,Result.andThen]
theorem Ye (h:Value) (w:World):(Go.method 492 213 (.agg #[h]) "Elem").run prog w= .ok (236,.agg #[h]) w:=Fd
theorem PN (h:Value) (w:World):(Go.method 492 213 (.agg #[h]) "Implements").run prog w= .ok (237,.agg #[h]) w:=Fd
theorem NU (h:Value) (w:World):(Go.method 492 213 (.agg #[h]) "AssignableTo").run prog w= .ok (234,.agg #[h]) w:=Fd
theorem pH (w:World):(ReflectliteType.method ReflectliteType.elem #[.agg #[.pointer (some ⟨10,125,none⟩)]]).run prog w= .ok (.iface 213 (.agg #[.pointer (some ⟨10,123,none⟩)])) w:=Fd
theorem UQ (w:World):(ReflectliteType.relation "Implements" ReflectliteType.implements_ #[.agg #[.pointer (some ⟨10,123,none⟩)],.iface 213 (.agg #[.pointer (some ⟨10,85,none⟩)])]).run prog w= .ok (.bool true) w:=Fd
theorem fA (v:Value) (w:World):(ReflectliteType.typeOf #[.iface 123 v]).run prog w= .ok (.iface 213 (.agg #[.pointer (some ⟨10,123,none⟩)])) w:=Fd
theorem UR (w:World):(ReflectliteType.relation "AssignableTo" ReflectliteType.assignableTo #[.agg #[.pointer (some ⟨10,123,none⟩)],.iface 213 (.agg #[.pointer (some ⟨10,123,none⟩)])]).run prog w= .ok (.bool true) w:=Fd
theorem bX (e:Addr) (w:World):(ReflectliteValue.unpack (.iface 123 (.pointer (some e)))).run prog w
  = .ok (.agg #[.pointer (some ⟨10,123,none⟩),i6 w.heap.size,.int .u64 150]) (w.alloc (.cells #[.pointer (some e)] 123)):=Fd
theorem fC (w:World):(Rtype.elem? 125).run prog w= .ok (some 123) w:=Fd
theorem Aaf (p:Addr) (w:World):(ReflectliteValue.mk 123 p ReflectliteValue.flagAddr).run prog w= .ok (.agg #[.pointer (some ⟨10,123,none⟩),.pointer (some p),.int .u64 406]) w:=Fd
theorem jF (a p:Addr) (W:World) (ha:W.cell? a=some (.pointer (some p))):
  (ReflectliteValue.method (ReflectliteValue.valueError "reflectlite.Value.Elem" 0) ReflectliteValue.elem #[.agg #[.pointer (some ⟨10,125,none⟩),.pointer (some a),.int .u64 150]]).run prog W
   = .ok (.agg #[.pointer (some ⟨10,123,none⟩),.pointer (some p),.int .u64 406]) W:=by
 rw[wm];simp only[Sem.run_bind,Xf,Result.andThen];simp[ReflectliteValue.elem,loadVar,isAgg,underlying,underlying125,ha,Result.andThen,fC,Aaf]
theorem AcC (v x:Value):ReflectliteValue.set #[v,x]=(do
    let (some (dst,a,fl),some (src,b,_)):=(<-ReflectliteValue.parts v,<-ReflectliteValue.parts x)
      | unsupported (.noEntry "extern/(internal/reflectlite.Value).Set.zeroValue")
    if fl / ReflectliteValue.flagAddr % 2==0 then unsupported (.noEntry "extern/(internal/reflectlite.Value).Set.unaddressable")
    let val<-loadVar src b
    if<-Rtype.directlyAssignable dst src then storeVar dst a val
    else if<-Rtype.implements dst src then
      if (<-Rtype.kind src)==20 then
        match val with
        | .nilIface=>unsupported (.noEntry "extern/reflectlite: a nil value of one interface type handed on as a value of another")
        | _=>storeVar dst a val
      else storeVar dst a (.iface src val)
    else panicString ("reflectlite.Set: value of type " ++(<-Rtype.spelt src)++ " is not assignable to type " ++(<-Rtype.spelt dst))
    pure (.tuple #[])):=rfl
theorem fB (a:Addr) (w:World):(ReflectliteValue.parts (.agg #[.pointer (some ⟨10,123,none⟩),.pointer (some a),.int .u64 406])).run prog w= .ok (some (123,a,406)) w:=Fd
theorem jD (a:Addr) (w:World):(ReflectliteValue.parts (.agg #[.pointer (some ⟨10,123,none⟩),.pointer (some a),.int .u64 150])).run prog w= .ok (some (123,a,150)) w:=Fd
theorem fD (w:World):(Rtype.directlyAssignable 123 123).run prog w= .ok true w:=Fd
theorem wk (ta b e:Addr) (old:Value) (W:World) (hb:W.cell? b=some (.pointer (some e))) (ht:W.cell? ta=some old) (hf:W.frozen? ta=false):
  (ReflectliteValue.set #[.agg #[.pointer (some ⟨10,123,none⟩),.pointer (some ta),.int .u64 406],.agg #[.pointer (some ⟨10,123,none⟩),.pointer (some b),.int .u64 150]]).run prog W
   = .ok (.tuple #[]) (W.setCell ta (.pointer (some e))):=by
 rw[AcC];simp only[Sem.run_bind,fB,jD,Result.andThen];simp[ReflectliteValue.flagAddr,loadVar,isAgg,underlying,underlying123,hb,Result.andThen,fD,storeVar,Value.cells,storeCells,Addr.add];rw[run_store prog W ta _ _ Do];simp[ht,hf]
theorem AcD (e t:Addr) (old:Value) (w:World) (hg:w.cell? ⟨0,0,none⟩=some (.iface 213 (.agg #[.pointer (some ⟨10,85,none⟩)]))) (ht0:w.cell? t=some old) (hf0:w.frozen? t=false):
  Calls prog 53 #[.iface 123 (.pointer (some e)),.iface 125 (.pointer (some t))] w fun ev w'=>ev= .returned (.bool true)/\w'=((((w.alloc (.cells #[.pointer (some t)] 125)).alloc (.cells #[.pointer (some ⟨10,125,none⟩),i6 w.heap.size,.int .u64 150] 177)).alloc (.cells #[.pointer (some ⟨10,125,none⟩),i6 w.heap.size,.int .u64 150] 177)).alloc (.cells #[.pointer (some e)] 123)).setCell t (.pointer (some e)):=by
 have h6:= @run_callFunc_extern prog 82 _ (fun args=>ReflectliteValue.unpack (args.getD 0 (.tuple #[]))) func82 Fd Fd Fd Fd;have h7:= @run_callFunc_extern prog 83 _ (ReflectliteValue.methodAny (ReflectliteValue.valueError "reflectlite.Value.Type" 0) (fun t _ _ _=>ReflectliteType.toType t)) func83 Fd Fd Fd Fd;have h8:= @run_callFunc_extern prog 84 _ (ReflectliteValue.method (ReflectliteValue.valueError "reflectlite.Value.IsNil" 0) ReflectliteValue.isNil) func84 Fd Fd Fd Fd;have h27:= @run_callFunc_extern prog 221 _ (ReflectliteType.abiMethod fun t=>do pure (.int .u8 (<-Rtype.kind t))) func221 Fd Fd Fd Fd;have h37:= @run_callFunc_extern prog 236 _ (ReflectliteType.method ReflectliteType.elem) func236 Fd Fd Fd Fd;have h38:= @run_callFunc_extern prog 237 _ (ReflectliteType.relation "Implements" ReflectliteType.implements_) func237 Fd Fd Fd Fd;have h10:= @run_callFunc_extern prog 105 _ ReflectliteType.typeOf func105 Fd Fd Fd Fd;have h35:= @run_callFunc_extern prog 234 _ (ReflectliteType.relation "AssignableTo" ReflectliteType.assignableTo) func234 Fd Fd Fd Fd;have h11:= @run_callFunc_extern prog 106 _ (ReflectliteValue.method (ReflectliteValue.valueError "reflectlite.Value.Elem" 0) ReflectliteValue.elem) func106 Fd Fd Fd Fd;have h12:= @run_callFunc_extern prog 107 _ ReflectliteValue.set func107 Fd Fd Fd Fd;have tO:=fA;have mA:=NU;have a25:=UR;have v25:=bX;have f6:=bW;have f7:=pE;have mK:=Yd;have mE:=Ye;have mI:=PN;have k27:=pF;have k25:=pG;have e27:=pH;have i25:=UQ;have n8:=jE ⟨w.heap.size,0,none⟩ t ((w.alloc (.cells #[.pointer (some t)] 125)).alloc (.cells #[.pointer (some ⟨10,125,none⟩),i6 w.heap.size,.int .u64 150] 177)) EQ;have AX:0 < w.heap.size:=by
  rcases Qc2 w.heap.size with h0 | h
  ·simp[World.cell?,h0] at hg
  ·exact h
 have zh:((w.alloc (.cells #[.pointer (some t)] 125)).alloc (.cells #[.pointer (some ⟨10,125,none⟩),i6 w.heap.size,.int .u64 150] 177)).cell? ⟨0,0,none⟩=some (.iface 213 (.agg #[.pointer (some ⟨10,85,none⟩)])):=by
  rw[Qbv _ _ ⟨0,0,none⟩ EQ,Qbv _ _ ⟨0,0,none⟩ AX];exact hg
 have XY:t.block < w.heap.size:=by
  rcases Qbs t.block w.heap.size with h | h
  ·exact h
  ·simp[World.cell?,Qbb h] at ht0
 have el:=jF ⟨w.heap.size,0,none⟩ t (((w.alloc (.cells #[.pointer (some t)] 125)).alloc (.cells #[.pointer (some ⟨10,125,none⟩),i6 w.heap.size,.int .u64 150] 177)).alloc (.cells #[.pointer (some ⟨10,125,none⟩),i6 w.heap.size,.int .u64 150] 177)) (by rw[Qbv _ _ ⟨w.heap.size,0,none⟩ (by simp;omega)];simp);have st:=wk t ⟨w.heap.size+1+1+1,0,none⟩ e old ((((w.alloc (.cells #[.pointer (some t)] 125)).alloc (.cells #[.pointer (some ⟨10,125,none⟩),i6 w.heap.size,.int .u64 150] 177)).alloc (.cells #[.pointer (some ⟨10,125,none⟩),i6 w.heap.size,.int .u64 150] 177)).alloc (.cells #[.pointer (some e)] 123))
  (by rw[World.cell?_alloc_at _ _ _ _ EQ];rfl)
  (by rw[Qbv _ _ t (by simp;omega),Qbv _ _ t (by simp;omega),Qbv _ _ t (by simp;omega),Qbv _ _ t XY];exact ht0)
  (by rw[Qcl _ _ t (by simp;omega),Qcl _ _ t (by simp;omega),Qcl _ _ t (by simp;omega),Qcl _ _ t (Qbf XY)];exact hf0)
 go_enter func53,ntmps53;go_wp2;refine wp_loop_rounds 1 ?_;rw[rounds_succ];go_wp2;go_ret;exact⟨rfl,rfl⟩
end Go.Proofs.YtpdfifdlhpmofaaGreatDoor
