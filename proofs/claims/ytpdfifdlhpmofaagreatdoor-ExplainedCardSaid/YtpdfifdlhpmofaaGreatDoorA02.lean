/- Part 2 of the proof. -/
import Derived.Test.YtpdfifdlhpmofaaGreatDoorA01
set_option linter.unusedVariables false
set_option linter.unusedSimpArgs false
set_option maxHeartbeats 0
set_option maxRecDepth 99999
namespace Go.Proofs.YtpdfifdlhpmofaaGreatDoor
open Go.RowKit Go.Extern.Stop Go.Stop Go.Extern Tryz
open Value renaming slice->qD,string->qE,bool->qF,tuple->qG,agg->qH,pointer->qI
open Ending renaming returned->qJ
open Obj renaming cells->qK
open Option renaming none->Z,some->U
open Bool renaming true->V,false->I
open Go.Lib renaming hid->D
open List renaming length->J
theorem iE (t:Addr) (w:World):(ReflectliteValue.unpack (.iface 125 (qI (U t)))).run prog w
  =.ok (qH #[qI (U ⟨10,125,Z⟩),iJ w.heap.size,.int .u64 150]) (w.alloc (qK #[qI (U t)] 125)):=Fd
theorem zF (a:Addr) (w:World):(ReflectliteValue.methodAny (ReflectliteValue.valueError "reflectlite.Value.Type" 0) (λt _ _ _=>ReflectliteType.toType t) #[qH #[qI (U ⟨10,125,Z⟩),qI (U a),.int .u64 150]]).run prog w
  =.ok (.iface 213 (qH #[qI (U ⟨10,125,Z⟩)])) w:=Fd
theorem cz (h:Value) (w:World):(Go.method 492 213 (qH #[h]) "Kind").run prog w=.ok (221,h) w:=Fd
theorem zG (w:World):((ReflectliteType.abiMethod λt=>Functor.map (λa:Nat=>Value.int IntKind.u8 (a:Int)) (Rtype.kind t)) #[qI (U ⟨10,125,Z⟩)]).run prog w=.ok (.int .u8 22) w:=Fd
theorem zH (w:World):((ReflectliteType.abiMethod λt=>Functor.map (λa:Nat=>Value.int IntKind.u8 (a:Int)) (Rtype.kind t)) #[qI (U ⟨10,123,Z⟩)]).run prog w=.ok (.int .u8 22) w:=Fd
theorem AdT (z:Sem Value) (f:TypeId->Addr->Nat->Nat->Sem Value) (v:Value):
  ReflectliteValue.method z f #[v]=(do match<-ReflectliteValue.parts v with|none=>z|some (t,a,fl)=>f t a fl (fl % 32)):=rfl
theorem aO (a:Addr) (w:World):(ReflectliteValue.parts (qH #[qI (U ⟨10,125,Z⟩),qI (U a),.int .u64 150])).run prog w=.ok (U (125,a,150)) w:=Fd
theorem sQ (a p:Addr) (W:World) (ha:W.cell? a=U (qI (U p))):
  (ReflectliteValue.method (ReflectliteValue.valueError "reflectlite.Value.IsNil" 0) ReflectliteValue.isNil #[qH #[qI (U ⟨10,125,Z⟩),qI (U a),.int .u64 150]]).run prog W=.ok (qF I) W:=by
 rw[AdT];simp only[Sem.run_bind,aO,Result.andThen];simp[ReflectliteValue.isNil,loadVar,isAgg,underlying,underlying125,ha,Result.andThen]
theorem cA (h:Value) (w:World):(Go.method 492 213 (qH #[h]) "Elem").run prog w=.ok (236,qH #[h]) w:=Fd
theorem SU (h:Value) (w:World):(Go.method 492 213 (qH #[h]) "Implements").run prog w=.ok (237,qH #[h]) w:=Fd
theorem PE (h:Value) (w:World):(Go.method 492 213 (qH #[h]) "AssignableTo").run prog w=.ok (234,qH #[h]) w:=Fd
theorem zL (w:World):(ReflectliteType.method ReflectliteType.elem #[qH #[qI (U ⟨10,125,Z⟩)]]).run prog w=.ok (.iface 213 (qH #[qI (U ⟨10,123,Z⟩)])) w:=Fd
theorem XZ (w:World):(ReflectliteType.relation "Implements" ReflectliteType.implements_ #[qH #[qI (U ⟨10,123,Z⟩)],.iface 213 (qH #[qI (U ⟨10,85,Z⟩)])]).run prog w=.ok (qF V) w:=Fd
theorem nN (v:Value) (w:World):(ReflectliteType.typeOf #[.iface 123 v]).run prog w=.ok (.iface 213 (qH #[qI (U ⟨10,123,Z⟩)])) w:=Fd
theorem X0 (w:World):(ReflectliteType.relation "AssignableTo" ReflectliteType.assignableTo #[qH #[qI (U ⟨10,123,Z⟩)],.iface 213 (qH #[qI (U ⟨10,123,Z⟩)])]).run prog w=.ok (qF V) w:=Fd
theorem iF (e:Addr) (w:World):(ReflectliteValue.unpack (.iface 123 (qI (U e)))).run prog w
  =.ok (qH #[qI (U ⟨10,123,Z⟩),iJ w.heap.size,.int .u64 150]) (w.alloc (qK #[qI (U e)] 123)):=Fd
theorem nP (w:World):(Rtype.elem? 125).run prog w=.ok (U 123) w:=Fd
theorem Agg (p:Addr) (w:World):(ReflectliteValue.mk 123 p ReflectliteValue.flagAddr).run prog w=.ok (qH #[qI (U ⟨10,123,Z⟩),qI (U p),.int .u64 406]) w:=Fd
theorem sR (a p:Addr) (W:World) (ha:W.cell? a=U (qI (U p))):
  (ReflectliteValue.method (ReflectliteValue.valueError "reflectlite.Value.Elem" 0) ReflectliteValue.elem #[qH #[qI (U ⟨10,125,Z⟩),qI (U a),.int .u64 150]]).run prog W
   =.ok (qH #[qI (U ⟨10,123,Z⟩),qI (U p),.int .u64 406]) W:=by
 rw[AdT];simp only[Sem.run_bind,aO,Result.andThen];simp[ReflectliteValue.elem,loadVar,isAgg,underlying,underlying125,ha,Result.andThen,nP,Agg]
theorem Ai5 (v x:Value):ReflectliteValue.set #[v,x]=(do
    let (U (dst,a,fl),U (src,b,_)):=(<-ReflectliteValue.parts v,<-ReflectliteValue.parts x)
      |unsupported (.noEntry "extern/(internal/reflectlite.Value).Set.zeroValue")
    if fl / ReflectliteValue.flagAddr % 2==0 then unsupported (.noEntry "extern/(internal/reflectlite.Value).Set.unaddressable")
    let val<-loadVar src b
    if<-Rtype.directlyAssignable dst src then storeVar dst a val
    else if<-Rtype.implements dst src then
      if (<-Rtype.kind src)==20 then
        match val with
        |.nilIface=>unsupported (.noEntry "extern/reflectlite: a nil value of one interface type handed on as a value of another")
        |_=>storeVar dst a val
      else storeVar dst a (.iface src val)
    else panicString ("reflectlite.Set: value of type " ++(<-Rtype.spelt src)++ " is not assignable to type " ++(<-Rtype.spelt dst))
    pure (qG #[])):=rfl
theorem nO (a:Addr) (w:World):(ReflectliteValue.parts (qH #[qI (U ⟨10,123,Z⟩),qI (U a),.int .u64 406])).run prog w=.ok (U (123,a,406)) w:=Fd
theorem sP (a:Addr) (w:World):(ReflectliteValue.parts (qH #[qI (U ⟨10,123,Z⟩),qI (U a),.int .u64 150])).run prog w=.ok (U (123,a,150)) w:=Fd
theorem nQ (w:World):(Rtype.directlyAssignable 123 123).run prog w=.ok V w:=Fd
theorem AdS (ta b e:Addr) (old:Value) (W:World) (hb:W.cell? b=U (qI (U e))) (ht:W.cell? ta=U old) (hf:W.frozen? ta=I):
  (ReflectliteValue.set #[qH #[qI (U ⟨10,123,Z⟩),qI (U ta),.int .u64 406],qH #[qI (U ⟨10,123,Z⟩),qI (U b),.int .u64 150]]).run prog W
   =.ok (qG #[]) (W.setCell ta (qI (U e))):=by
 rw[Ai5];simp only[Sem.run_bind,nO,sP,Result.andThen];simp[ReflectliteValue.flagAddr,loadVar,isAgg,underlying,underlying123,hb,Result.andThen,nQ,storeVar,Value.cells,storeCells,Addr.add];rw[run_store prog W ta _ _ Eq];grind
theorem Ai6 (e t:Addr) (old:Value) (w:World) (hg:w.cell? ⟨0,0,Z⟩=U (.iface 213 (qH #[qI (U ⟨10,85,Z⟩)]))) (ht0:w.cell? t=U old) (hf0:w.frozen? t=I):
  Calls prog 53 #[.iface 123 (qI (U e)),.iface 125 (qI (U t))] w λev w'=>ev= qJ (qF V)/\w'=((((w.alloc (qK #[qI (U t)] 125)).alloc (qK #[qI (U ⟨10,125,Z⟩),iJ w.heap.size,.int .u64 150] 177)).alloc (qK #[qI (U ⟨10,125,Z⟩),iJ w.heap.size,.int .u64 150] 177)).alloc (qK #[qI (U e)] 123)).setCell t (qI (U e)):=by
 have h6:= @run_callFunc_extern prog 82 _ (λargs=>ReflectliteValue.unpack (args.getD 0 (qG #[]))) func82 Fd Fd Fd Fd;have h7:= @run_callFunc_extern prog 83 _ (ReflectliteValue.methodAny (ReflectliteValue.valueError "reflectlite.Value.Type" 0) (λt _ _ _=>ReflectliteType.toType t)) func83 Fd Fd Fd Fd;have h8:= @run_callFunc_extern prog 84 _ (ReflectliteValue.method (ReflectliteValue.valueError "reflectlite.Value.IsNil" 0) ReflectliteValue.isNil) func84 Fd Fd Fd Fd;have h27:= @run_callFunc_extern prog 221 _ (ReflectliteType.abiMethod λt=>do pure (.int .u8 (<-Rtype.kind t))) func221 Fd Fd Fd Fd;have h37:= @run_callFunc_extern prog 236 _ (ReflectliteType.method ReflectliteType.elem) func236 Fd Fd Fd Fd;have h38:= @run_callFunc_extern prog 237 _ (ReflectliteType.relation "Implements" ReflectliteType.implements_) func237 Fd Fd Fd Fd;have h10:= @run_callFunc_extern prog 105 _ ReflectliteType.typeOf func105 Fd Fd Fd Fd;have h35:= @run_callFunc_extern prog 234 _ (ReflectliteType.relation "AssignableTo" ReflectliteType.assignableTo) func234 Fd Fd Fd Fd;have h11:= @run_callFunc_extern prog 106 _ (ReflectliteValue.method (ReflectliteValue.valueError "reflectlite.Value.Elem" 0) ReflectliteValue.elem) func106 Fd Fd Fd Fd;have h12:= @run_callFunc_extern prog 107 _ ReflectliteValue.set func107 Fd Fd Fd Fd;have tO:=nN;have mA:=PE;have a25:=X0;have v25:=iF;have f6:=iE;have f7:=zF;have mK:=cz;have mE:=cA;have mI:=SU;have k27:=zG;have k25:=zH;have e27:=zL;have i25:=XZ;have n8:=sQ ⟨w.heap.size,0,Z⟩ t ((w.alloc (qK #[qI (U t)] 125)).alloc (qK #[qI (U ⟨10,125,Z⟩),iJ w.heap.size,.int .u64 150] 177)) EQ;have hlt:0<w.heap.size:=by
  grind [World.cell?]
 have hg2:((w.alloc (qK #[qI (U t)] 125)).alloc (qK #[qI (U ⟨10,125,Z⟩),iJ w.heap.size,.int .u64 150] 177)).cell? ⟨0,0,Z⟩=U (.iface 213 (qH #[qI (U ⟨10,85,Z⟩)])):=by
  rw[Qt _ _ ⟨0,0,Z⟩ EQ,Qt _ _ ⟨0,0,Z⟩ hlt];exact hg
 have ep:t.block<w.heap.size:=by
  grind [World.cell?]
 have el:=sR ⟨w.heap.size,0,Z⟩ t (((w.alloc (qK #[qI (U t)] 125)).alloc (qK #[qI (U ⟨10,125,Z⟩),iJ w.heap.size,.int .u64 150] 177)).alloc (qK #[qI (U ⟨10,125,Z⟩),iJ w.heap.size,.int .u64 150] 177)) (by rw[Qt _ _ ⟨w.heap.size,0,Z⟩ (by simp;omega)];simp);have st:=AdS t ⟨w.heap.size+1+1+1,0,Z⟩ e old ((((w.alloc (qK #[qI (U t)] 125)).alloc (qK #[qI (U ⟨10,125,Z⟩),iJ w.heap.size,.int .u64 150] 177)).alloc (qK #[qI (U ⟨10,125,Z⟩),iJ w.heap.size,.int .u64 150] 177)).alloc (qK #[qI (U e)] 123))
  (by rw[World.cell?_alloc_at _ _ _ _ EQ];rfl)
  (by rw[Qt _ _ t (by simp;omega),Qt _ _ t (by simp;omega),Qt _ _ t (by simp;omega),Qt _ _ t ep];exact ht0)
  (by rw[QX _ _ t (by simp;omega),QX _ _ t (by simp;omega),QX _ _ t (by simp;omega),QX _ _ t AC];exact hf0)
 go_enter func53,ntmps53;go_wp2;refine wp_loop_rounds 1 ?_;rw[rounds_succ];go_wp2;go_ret;exact⟨rfl,rfl⟩
