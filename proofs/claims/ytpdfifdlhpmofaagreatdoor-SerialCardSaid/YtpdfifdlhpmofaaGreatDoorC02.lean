/- Part 2 of the proof. -/
import Derived.Test.YtpdfifdlhpmofaaGreatDoorC01
set_option linter.unusedVariables false
set_option linter.unusedSimpArgs false
set_option maxHeartbeats 0
set_option maxRecDepth 99999
namespace Go.Proofs.YtpdfifdlhpmofaaGreatDoor
open Go.RowKit Go.Extern.Stop Go.Stop Go.Extern Tryz
open Value renaming slice->m9,string->qA,bool->qB,tuple->qC,agg->qD,pointer->qE
open Ending renaming returned->qF
open Obj renaming cells->qG
open Option renaming none->Z,some->U
open Bool renaming true->V,false->I
open Go.Lib renaming hid->D
open List renaming length->J
theorem gE (t:Addr) (w:World):(ReflectliteValue.unpack (.iface 125 (qE (U t)))).run prog w
  =.ok (qD #[qE (U ⟨10,125,Z⟩),iJ w.heap.size,.int .u64 150]) (w.alloc (qG #[qE (U t)] 125)):=Fd
theorem yj (a:Addr) (w:World):(ReflectliteValue.methodAny (ReflectliteValue.valueError "reflectlite.Value.Type" 0) (λt _ _ _=>ReflectliteType.toType t) #[qD #[qE (U ⟨10,125,Z⟩),qE (U a),.int .u64 150]]).run prog w
  =.ok (.iface 213 (qD #[qE (U ⟨10,125,Z⟩)])) w:=Fd
theorem bC (h:Value) (w:World):(Go.method 492 213 (qD #[h]) "Kind").run prog w=.ok (221,h) w:=Fd
theorem yk (w:World):((ReflectliteType.abiMethod λt=>Functor.map (λa:Nat=>Value.int IntKind.u8 (a:Int)) (Rtype.kind t)) #[qE (U ⟨10,125,Z⟩)]).run prog w=.ok (.int .u8 22) w:=Fd
theorem ym (w:World):((ReflectliteType.abiMethod λt=>Functor.map (λa:Nat=>Value.int IntKind.u8 (a:Int)) (Rtype.kind t)) #[qE (U ⟨10,123,Z⟩)]).run prog w=.ok (.int .u8 22) w:=Fd
theorem Ads (z:Sem Value) (f:TypeId->Addr->Nat->Nat->Sem Value) (v:Value):
  ReflectliteValue.method z f #[v]=(do match<-ReflectliteValue.parts v with|none=>z|some (t,a,fl)=>f t a fl (fl % 32)):=rfl
theorem Z0 (a:Addr) (w:World):(ReflectliteValue.parts (qD #[qE (U ⟨10,125,Z⟩),qE (U a),.int .u64 150])).run prog w=.ok (U (125,a,150)) w:=Fd
theorem rF (a p:Addr) (W:World) (ha:W.cell? a=U (qE (U p))):
  (ReflectliteValue.method (ReflectliteValue.valueError "reflectlite.Value.IsNil" 0) ReflectliteValue.isNil #[qD #[qE (U ⟨10,125,Z⟩),qE (U a),.int .u64 150]]).run prog W=.ok (qB I) W:=by
 rw[Ads];simp only[Sem.run_bind,Z0,Result.andThen];simp[ReflectliteValue.isNil,loadVar,isAgg,underlying,underlying125,ha,Result.andThen]
theorem bD (h:Value) (w:World):(Go.method 492 213 (qD #[h]) "Elem").run prog w=.ok (236,qD #[h]) w:=Fd
theorem SN (h:Value) (w:World):(Go.method 492 213 (qD #[h]) "Implements").run prog w=.ok (237,qD #[h]) w:=Fd
theorem Py (h:Value) (w:World):(Go.method 492 213 (qD #[h]) "AssignableTo").run prog w=.ok (234,qD #[h]) w:=Fd
theorem yn (w:World):(ReflectliteType.method ReflectliteType.elem #[qD #[qE (U ⟨10,125,Z⟩)]]).run prog w=.ok (.iface 213 (qD #[qE (U ⟨10,123,Z⟩)])) w:=Fd
theorem XF (w:World):(ReflectliteType.relation "Implements" ReflectliteType.implements_ #[qD #[qE (U ⟨10,123,Z⟩)],.iface 213 (qD #[qE (U ⟨10,85,Z⟩)])]).run prog w=.ok (qB V) w:=Fd
theorem my (v:Value) (w:World):(ReflectliteType.typeOf #[.iface 123 v]).run prog w=.ok (.iface 213 (qD #[qE (U ⟨10,123,Z⟩)])) w:=Fd
theorem XG (w:World):(ReflectliteType.relation "AssignableTo" ReflectliteType.assignableTo #[qD #[qE (U ⟨10,123,Z⟩)],.iface 213 (qD #[qE (U ⟨10,123,Z⟩)])]).run prog w=.ok (qB V) w:=Fd
theorem gF (e:Addr) (w:World):(ReflectliteValue.unpack (.iface 123 (qE (U e)))).run prog w
  =.ok (qD #[qE (U ⟨10,123,Z⟩),iJ w.heap.size,.int .u64 150]) (w.alloc (qG #[qE (U e)] 123)):=Fd
theorem mB (w:World):(Rtype.elem? 125).run prog w=.ok (U 123) w:=Fd
theorem AfS (p:Addr) (w:World):(ReflectliteValue.mk 123 p ReflectliteValue.flagAddr).run prog w=.ok (qD #[qE (U ⟨10,123,Z⟩),qE (U p),.int .u64 406]) w:=Fd
theorem rG (a p:Addr) (W:World) (ha:W.cell? a=U (qE (U p))):
  (ReflectliteValue.method (ReflectliteValue.valueError "reflectlite.Value.Elem" 0) ReflectliteValue.elem #[qD #[qE (U ⟨10,125,Z⟩),qE (U a),.int .u64 150]]).run prog W
   =.ok (qD #[qE (U ⟨10,123,Z⟩),qE (U p),.int .u64 406]) W:=by
 rw[Ads];simp only[Sem.run_bind,Z0,Result.andThen];simp[ReflectliteValue.elem,loadVar,isAgg,underlying,underlying125,ha,Result.andThen,mB,AfS]
theorem AiH (v x:Value):ReflectliteValue.set #[v,x]=(do
    let (U (dst,a,fl),U (src,b,_)):=(<-ReflectliteValue.parts v,<-ReflectliteValue.parts x)
      |unsupported (.noEntry "extern/(internal/reflectlite.Value).Set.zeroValue")
    if fl / ReflectliteValue.flagAddr % 2==0 then unsupported (.noEntry "extern/(internal/reflectlite.Value).Set.unaddressable")
    let val<-loadVar src b
    if<-Rtype.directlyAssignable dst src then storeVar dst a val
    else if<-Rtype.implements dst src then
      if (<-Rtype.kind src)==20 then
        match val with
        |.nilIface=>unsupported (.noEntry "extern/reflectlite: a nil value of one interface type handed on as a value of another")
        |_=>storeVar dst a val
      else storeVar dst a (.iface src val)
    else panicString ("reflectlite.Set: value of type " ++(<-Rtype.spelt src)++ " is not assignable to type " ++(<-Rtype.spelt dst))
    pure (qC #[])):=rfl
theorem mz (a:Addr) (w:World):(ReflectliteValue.parts (qD #[qE (U ⟨10,123,Z⟩),qE (U a),.int .u64 406])).run prog w=.ok (U (123,a,406)) w:=Fd
theorem rE (a:Addr) (w:World):(ReflectliteValue.parts (qD #[qE (U ⟨10,123,Z⟩),qE (U a),.int .u64 150])).run prog w=.ok (U (123,a,150)) w:=Fd
theorem mD (w:World):(Rtype.directlyAssignable 123 123).run prog w=.ok V w:=Fd
theorem Adr (ta b e:Addr) (fD:Value) (W:World) (hb:W.cell? b=U (qE (U e))) (ht:W.cell? ta=U fD) (hf:W.frozen? ta=I):
  (ReflectliteValue.set #[qD #[qE (U ⟨10,123,Z⟩),qE (U ta),.int .u64 406],qD #[qE (U ⟨10,123,Z⟩),qE (U b),.int .u64 150]]).run prog W
   =.ok (qC #[]) (W.setCell ta (qE (U e))):=by
 rw[AiH];simp only[Sem.run_bind,mz,rE,Result.andThen];simp[ReflectliteValue.flagAddr,loadVar,isAgg,underlying,underlying123,hb,Result.andThen,mD,storeVar,Value.cells,storeCells,Addr.add];rw[run_store prog W ta _ _ Eq];grind
theorem AiI (e t:Addr) (fD:Value) (w:World) (hg:w.cell? ⟨0,0,Z⟩=U (.iface 213 (qD #[qE (U ⟨10,85,Z⟩)]))) (ht0:w.cell? t=U fD) (hf0:w.frozen? t=I):
  Calls prog 53 #[.iface 123 (qE (U e)),.iface 125 (qE (U t))] w λev w'=>ev= qF (qB V)/\w'=((((w.alloc (qG #[qE (U t)] 125)).alloc (qG #[qE (U ⟨10,125,Z⟩),iJ w.heap.size,.int .u64 150] 177)).alloc (qG #[qE (U ⟨10,125,Z⟩),iJ w.heap.size,.int .u64 150] 177)).alloc (qG #[qE (U e)] 123)).setCell t (qE (U e)):=by
 have h6:= @run_callFunc_extern prog 82 _ (λargs=>ReflectliteValue.unpack (args.getD 0 (qC #[]))) func82 Fd Fd Fd Fd;have h7:= @run_callFunc_extern prog 83 _ (ReflectliteValue.methodAny (ReflectliteValue.valueError "reflectlite.Value.Type" 0) (λt _ _ _=>ReflectliteType.toType t)) func83 Fd Fd Fd Fd;have h8:= @run_callFunc_extern prog 84 _ (ReflectliteValue.method (ReflectliteValue.valueError "reflectlite.Value.IsNil" 0) ReflectliteValue.isNil) func84 Fd Fd Fd Fd;have h27:= @run_callFunc_extern prog 221 _ (ReflectliteType.abiMethod λt=>do pure (.int .u8 (<-Rtype.kind t))) func221 Fd Fd Fd Fd;have h37:= @run_callFunc_extern prog 236 _ (ReflectliteType.method ReflectliteType.elem) func236 Fd Fd Fd Fd;have h38:= @run_callFunc_extern prog 237 _ (ReflectliteType.relation "Implements" ReflectliteType.implements_) func237 Fd Fd Fd Fd;have h10:= @run_callFunc_extern prog 105 _ ReflectliteType.typeOf func105 Fd Fd Fd Fd;have h35:= @run_callFunc_extern prog 234 _ (ReflectliteType.relation "AssignableTo" ReflectliteType.assignableTo) func234 Fd Fd Fd Fd;have h11:= @run_callFunc_extern prog 106 _ (ReflectliteValue.method (ReflectliteValue.valueError "reflectlite.Value.Elem" 0) ReflectliteValue.elem) func106 Fd Fd Fd Fd;have h12:= @run_callFunc_extern prog 107 _ ReflectliteValue.set func107 Fd Fd Fd Fd;have tO:=my;have mA:=Py;have a25:=XG;have v25:=gF;have f6:=gE;have f7:=yj;have mK:=bC;have mE:=bD;have mI:=SN;have k27:=yk;have k25:=ym;have e27:=yn;have i25:=XF;have n8:=rF ⟨w.heap.size,0,Z⟩ t ((w.alloc (qG #[qE (U t)] 125)).alloc (qG #[qE (U ⟨10,125,Z⟩),iJ w.heap.size,.int .u64 150] 177)) EQ;have hlt:0<w.heap.size:=by
  grind [World.cell?]
 have hg2:((w.alloc (qG #[qE (U t)] 125)).alloc (qG #[qE (U ⟨10,125,Z⟩),iJ w.heap.size,.int .u64 150] 177)).cell? ⟨0,0,Z⟩=U (.iface 213 (qD #[qE (U ⟨10,85,Z⟩)])):=by
  rw[Qp _ _ ⟨0,0,Z⟩ EQ,Qp _ _ ⟨0,0,Z⟩ hlt];exact hg
 have htl:t.block<w.heap.size:=by
  grind [World.cell?]
 have el:=rG ⟨w.heap.size,0,Z⟩ t (((w.alloc (qG #[qE (U t)] 125)).alloc (qG #[qE (U ⟨10,125,Z⟩),iJ w.heap.size,.int .u64 150] 177)).alloc (qG #[qE (U ⟨10,125,Z⟩),iJ w.heap.size,.int .u64 150] 177)) (by rw[Qp _ _ ⟨w.heap.size,0,Z⟩ (by simp;omega)];simp);have st:=Adr t ⟨w.heap.size+1+1+1,0,Z⟩ e fD ((((w.alloc (qG #[qE (U t)] 125)).alloc (qG #[qE (U ⟨10,125,Z⟩),iJ w.heap.size,.int .u64 150] 177)).alloc (qG #[qE (U ⟨10,125,Z⟩),iJ w.heap.size,.int .u64 150] 177)).alloc (qG #[qE (U e)] 123))
  (by rw[World.cell?_alloc_at _ _ _ _ EQ];rfl)
  (by rw[Qp _ _ t (by simp;omega),Qp _ _ t (by simp;omega),Qp _ _ t (by simp;omega),Qp _ _ t htl];exact ht0)
  (by rw[QT _ _ t (by simp;omega),QT _ _ t (by simp;omega),QT _ _ t (by simp;omega),QT _ _ t AC];exact hf0)
 go_enter func53,ntmps53;go_wp2;refine wp_loop_rounds 1 ?_;rw[rounds_succ];go_wp2;go_ret;exact⟨rfl,rfl⟩
