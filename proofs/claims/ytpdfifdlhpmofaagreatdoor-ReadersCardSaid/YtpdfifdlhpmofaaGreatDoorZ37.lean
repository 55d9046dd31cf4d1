/-
  Part 37 of the proof.
-/
import Derived.Test.YtpdfifdlhpmofaaGreatDoorZ36
import Derived.Test.YtpdfifdlhpmofaaGreatDoorRows
import Derived.Test.YtpdfifdlhpmofaaGreatDoorTie
set_option linter.unusedVariables false
set_option linter.unusedSimpArgs false
set_option maxHeartbeats 3200000
set_option maxRecDepth 100000
namespace Go.Proofs.YtpdfifdlhpmofaaGreatDoor
open Go.ChangeShapes Go.WideShapes Go.ChangeAt Go.WideMaps Go.WideElems Go.RowKit Go.Proofs.Tryz
open Go.Lib (hid)
variable {W w w':World}
abbrev Ua:List (String×DataW Unit):=Rows.compilesRow.laid
def RF:List (String×DataW Unit):=Ua.filter fun x=>x.2.handleName?.isNone
theorem iD (h:laidMetH prog Ua W):laidMet prog RF W/\handlesMet prog [("errors.errorType",Rows.laid_errors_errorType)] W:=h
theorem Rq (h:laidMet prog RF W) {n:String} {d:DataW Unit} (k:Nat) (hk:RF[k]?=some (n,d)):Lib.VarReads prog W n d:=Lib.laidMet.reads h (Qai hk)
theorem Aa8 (h:laidMet prog RF W):Sv W:=by
 obtain⟨g,t,cs,fuel,p,hg,ht,hv,hd⟩:=Rq (n:= "internal/strconv.uint64pow10") (d:=Lib.tabData .u64 Lib.pow10Tab) h 2 Fd;obtain rfl:=Option.some.inj ((show prog.globalNamed "internal/strconv.uint64pow10" =some 7 by kernel_rfl).symm.trans hg);obtain rfl:=Option.some.inj ((show(prog.globals[7]?).map (·.type)=some 345 by kernel_rfl).symm.trans ht);have:=Lib.cells_of_tab (P:=prog) (n:=20) (e:=327) underlying345 underlying327 Fd Fd hd;unfold Sv Lib.TabIs;rw[hv,<-this]
theorem kh (n:String) (g:Nat) (nm:String) (d:DataW Unit) (h:Lib.VarReads prog W n (.iface nm d)) (hg:prog.globalNamed n=some g) (ht:(prog.globals[g]?).map (·.type)=some 85):∃t p,W.cell? ⟨g,0,none⟩=some (.iface t p):=by
 obtain⟨g',t,cs,fuel,p,hg',FI,hv,hd⟩:=h;obtain rfl:=Option.some.inj (hg.symm.trans hg');obtain rfl:=Option.some.inj (ht.symm.trans FI);obtain⟨_,u,v,hc,_,_⟩:=iface_of_trod underlying85 hd;refine⟨u,v,?_⟩;rw[World.var?_cell hg hv 0,Array.eq_one_of_toList hc];rfl
theorem Aa5:prog.types.size=392:=Fd
theorem Abl:((List.range 392).filter fun t=>prog.rowNamed t [101,114,114,111,114])=[85]:=Fd
theorem oM (h:handlesMet prog [("errors.errorType",Rows.laid_errors_errorType)] W):Yk W:=by
 obtain⟨name,u,ty,e1,e2,e3,e4,e5⟩:=h _ (Z.2 rfl);have en:name=[101,114,114,111,114]:=(Option.some.inj e1).symm;subst en;obtain rfl:=Option.some.inj ((show(prog.cutTypes.find? (·.1== "internal/reflectlite.rtype")).map (·.2)=some 213 by kernel_rfl).symm.trans e2);have hm:ty∈(List.range 392).filter fun t=>prog.rowNamed t [101,114,114,111,114]:=List.mem_filter.2 ⟨Qbk.2 (by rw[<-Aa5];exact e3),e4⟩
 rw[Abl] at hm;obtain rfl:=Z.1 hm;have hh:typeHandle prog 85= .pointer (some ⟨10,85,none⟩):=Fd
 rw[hh] at e5;unfold Yk;simpa using World.var?_cell (show prog.globalNamed "errors.errorType" =some 0 by kernel_rfl) e5 0
theorem yx (h:W.ShapedOpen prog):∃m,W.cell? ⟨2,0,none⟩=some (i5 m):=
 cell_of_shapedOpen_int (P:=prog) (g:=2) (t:=3) (zero:= #[i5 0]) h (Qbz Fd) Fd rfl Fd Fd underlying3
def Qq:List (By×By):=[([37],[109,111,100]),([38],[97,110,100]),([42],[109,117,108]),([43],[97,100,100]),([45],[115,117,98]),([47],[100,105,118]),([60],[108,116]),([60,60],[115,104,108]),([61,61],[101,113]),([62,62],[115,104,114]),([94],[120,111,114]),([124],[111,114])]
theorem Abk (s:ByteArray):((Qq.find? fun x=>x.1==bs s).map (·.2)).getD []=bs ((kv s).getD ⟨#[]⟩):=by
 by_cases h:bs s∈Qq.map (·.1)
 ·simp only[Qq,d8,Qch,Pi,Qcb,or_false] at h;rcases h with h | h | h | h | h | h | h | h | h | h | h | h <;>(rw[<-UZ s,h];decide+kernel)
 ·have h0:A6 Dx s= -1:=by
   have e:∀(a:ByteArray),bs a≠bs s->∀r k,DZ (a::r) s k=DZ r s (k+1):=fun a ha r k=>I ha
   have h2:=h;simp only[Qq,d8,Qch,Pi,Qcb,or_false,not_or] at h2;obtain⟨k1,k2,k3,k4,k5,k6,k7,k8,k9,k10,k11,k12⟩:=h2;unfold A6 Dx;rw[e _ (fun q=>k4 q.symm),e _ (fun q=>k5 q.symm),e _ (fun q=>k3 q.symm),e _ (fun q=>k6 q.symm),e _ (fun q=>k1 q.symm),e _ (fun q=>k2 q.symm),e _ (fun q=>k12 q.symm),e _ (fun q=>k11 q.symm),e _ (fun q=>k8 q.symm),e _ (fun q=>k10 q.symm),e _ (fun q=>k7 q.symm),e _ (fun q=>k9 q.symm)];rfl
  have h1:(Qq.find? fun x=>x.1==bs s)=none:=Qds.2 fun x hx he=>h (Qbg.2 ⟨x,hx,by simpa using he⟩)
  rw[h1];unfold kv;rw[h0];rfl
theorem si {H:Type} (k:By) (zd:DataW H):(DataW.map (Qq.map fun x=>(Lit.string x.1,DataW.lit (.string x.2)))).atKey (.string k) zd=match Qq.find? (fun x=>x.1==k) with | some x=> .lit (.string x.2) | none=>zd:=by
 have e:(fun p:Lit×DataW H=>p.1.sameKey (.string k))∘(fun x:By×By=>(Lit.string x.1,(DataW.lit (.string x.2):DataW H)))=fun x=>x.1==k:=rfl
 unfold DataW.atKey;simp only[List.find?_map,e];cases Qq.find? (fun x=>x.1==k) <;>rfl
theorem vI {n:Nat} {v:Value} {z:DataW Unit×List MemPlace} {b:Nat} (h:elemAt (fun _=>()) prog W b (fun _=>true) false n 9 v=some z):∃s:ByteArray,v= .string s/\z.1= .lit (.string (bs s)):=by
 unfold elemAt at h;split at h
 ·rename_i hf;obtain⟨s,hc,hz,_⟩:=DataW.trod_string underlying9 h;refine⟨s,?_,by rw[hz]⟩;cases v <;>simp[Value.formed,underlying9,Value.cells] at hf hc;try rw[hc]
 ·cases h
theorem Abj (h:laidMet prog RF W):∃mb,W.cell? ⟨1,0,none⟩=some (.map (some mb))/\∃o,W.heap[mb]?=some o/\∀Z98:World,Z98.heap[mb]?=some o->∀s:ByteArray,(Instr.lookup 232 (.map (some mb)) (.string s) false).run prog Z98= .ok (.string ((kv s).getD ⟨#[]⟩)) Z98:=by
 obtain⟨g,t,cs,fuel,p,hg,ht,hv,hd⟩:=Rq (n:= "commits/front.ops") (d:= .map (Qq.map fun x=>(.string x.1,.lit (.string x.2)))) h 6 Fd;obtain rfl:=Option.some.inj ((show prog.globalNamed "commits/front.ops" =some 1 by kernel_rfl).symm.trans hg);obtain rfl:=Option.some.inj ((show(prog.globals[1]?).map (·.type)=some 232 by kernel_rfl).symm.trans ht);have hO:=open_map underlying232 hd;clear hd;obtain⟨dd,bB⟩:∃dd,dd=(DataW.map (Qq.map fun x=>(Lit.string x.1,(DataW.lit (.string x.2):DataW Unit)))):=⟨_,rfl⟩;rw[<-bB] at hO;rcases hO with⟨_,hx⟩ | ⟨bm,es,clock,m,_,Mv,hb,_,F,hx⟩
 ·have:=Qao Prod.fst hx;rw[bB] at this;cases this
 have GG:=Qao Prod.fst hx;simp only at GG;rw[bB] at GG;have Lm:W.cell? ⟨1,0,none⟩=some (.map (some bm)):=by
  rw[World.var?_cell hg hv 0,Array.eq_one_of_toList Mv];rfl
 refine⟨bm,Lm,_,hb,fun Z98 hV s=> ?_⟩;have law:KeyLaw prog 9:=string_law underlying9;have zero:(zeroValue 9).run prog Z98= .ok (.string ⟨#[]⟩) Z98:=Fd
 have ja:=Abk s;by_cases hs:s.size<=maxLen
 ·rcases fit_lookup (w:=Z98) law underlying232 zero hV F (keyOf_string_mk (s:=s) underlying9 hs) with⟨SX,FA⟩ | ⟨v,y,SX,hRv,FA,_⟩
  ·have h1:=FA .nil;rw[<-GG,show s.data.toList=bs s from rfl,si] at h1;have h2:Qq.find? (fun x=>x.1==bs s)=none:=by
    cases hf:Qq.find? (fun x=>x.1==bs s) with
    | none=>rfl
    | some x=>rw[hf] at h1;cases h1
   rw[h2] at ja;rw[SX];have:(kv s).getD ⟨#[]⟩=(⟨#[]⟩:ByteArray):=Nt ja.symm;rw[this]
  ·have h1:=FA .nil;obtain⟨sv,rfl,hz⟩:=vI hRv;rw[<-GG,show s.data.toList=bs s from rfl,si,hz] at h1;cases hf:Qq.find? (fun x=>x.1==bs s) with
   | none=>rw[hf] at h1;cases h1
   | some x=>
    rw[hf] at h1 ja;simp only[DataW.lit.injEq,Lit.string.injEq] at h1;rw[SX];have:(kv s).getD ⟨#[]⟩=sv:=Nt (ja.symm.trans (by simpa using h1));rw[this]
 ·have hnk:∀x∈es.toList,x.key≠ .string s:=fun x hx e=>by
   obtain⟨l,hl⟩:=F.keys x hx;rw[e,keyOf_string underlying9] at hl;simp[mapKey,underlying9,hs] at hl
  have hks:∀x∈es.toList,MapKept.IsKey .string x.key:=fun x hxm=>by
   obtain⟨l,hl⟩:=F.keys x hxm;obtain⟨s',e,_,_⟩:=string_of_keyOf underlying9 hl;rw[e];trivial
  have h2:Qq.find? (fun x=>x.1==bs s)=none:=Qds.2 fun x hx he=>by
   have:s.size=x.1.length:=by rw[show x.1=bs s by simpa using he];rfl
   have h3:∀y∈Qq,y.1.length<=2:=AC
   have:=h3 x hx;unfold maxLen at hs;omega
  rw[h2] at ja;have hz:(kv s).getD ⟨#[]⟩=(⟨#[]⟩:ByteArray):=Nt ja.symm;rw[hz];rcases MapKept.findNow_spec (d:= .string) (k:= .string s) trivial es.toList 0 hks with⟨h1,_⟩ | ⟨j,e0,_,h4,h5⟩
  ·simp[Instr.lookup,run_underlying underlying232,MapKept.run_getObj_map hV,MapKept.run_checkKey underlying9 (d:= .string) (k:= .string s) trivial,MapKept.run_findKey underlying9 h1,zero,Result.andThen]
  ·exact UV h5 (hnk e0 (Qai h4))
theorem yn (h:laidMetH prog Ua W) (hs:W.ShapedOpen prog):∃mb,Gl mb W/\Yk W:=by
 obtain⟨h1,h2⟩:=iD h;obtain⟨mb,h3,h4⟩:=Abj h1;exact⟨mb,⟨Aa8 h1,yx hs,kh "strconv.ErrSyntax" 5 "*errors.errorString" (.ptr (.agg [.lit (.string [105,110,118,97,108,105,100,32,115,121,110,116,97,120])])) (Rq h1 5 Fd) Fd Fd,kh "strconv.ErrRange" 6 "*errors.errorString" (.ptr (.agg [.lit (.string [118,97,108,117,101,32,111,117,116,32,111,102,32,114,97,110,103,101])])) (Rq h1 4 Fd) Fd Fd,h3,h4⟩,oM h2⟩
section
theorem AeY:ownKnob prog.godebug=none:=Fd
theorem sT (h:Av [] w w') (may:MemPlace->Prop):w.keptBut w' may:=
 Below.frame (⟨h.os,h.tape,h.output,h.size,fun k hk=>h.block k hk EQ⟩:Below w.heap.size w w') may
noncomputable def Y8 (os:Os):World:=(World.doorLaid prog 144 os).layVars prog (RF.filter fun x=>["unicode/utf8.first"].contains x.1)
theorem tD (os:Os):(Y8 os).os=os:=World.layVars_os _ _ _
noncomputable def kF (os:Os):List Nat:=(List.range (World.doorLaid prog 144 os).heap.size).filter fun x=>x !=3
theorem iE (os:Os):(World.doorLaid prog 144 os).layFits prog (RF.filter fun x=>["unicode/utf8.first"].contains x.1) (kF os)=true:=Fd
theorem od (os:Os):(World.doorLaid prog 144 os).layIfaces prog (RF.filter fun x=>["unicode/utf8.first"].contains x.1) (Y8 os)=true:=Fd
theorem tF (os:Os):LaidIn prog (Y8 os) (RF.filter fun x=> !["unicode/utf8.first"].contains x.1) (kF os):=
 LaidIn.of_run (kF os) 8 Fd Fd Fd Fd
theorem oa (os:Os) (args:Array Value):laidMetH prog Ua ((Y8 os).forCall (fun _ _=>0) ⟨#[],args,[]⟩).memory:=
 (show laidMetH prog Ua (Y8 os) from laidMetH_of_parts (laidMet_layVars (w0:=World.doorLaid prog 144 os) ["unicode/utf8.first"] (kF os) rfl (iE os) (od os) (tF os)) Fd).of_heap (by simp[World.memory,World.forCall,Input.heap])
variable {H:Type} {enc:TypeId×Value->H}
theorem VT {a:Assume} {C:Checked} {os:Os} {f:FuncId} {fn:Func} {s:ChangeSpec} {conds:List PathCond} {apart fresh handsOn again:Bool} {X:World->Array Value->Prop}
  (hX:∀(w w':World) (args:Array Value),w.heap=w'.heap->X w args->X w' args)
  (Am:ownKnob C.prog.godebug=none) (started:os.Started) (noInit:C.prog.inits.idxOf? f=none) (hfn:C.prog.funcs[f]?=some fn)
  (witness:∃(w:World) (tape:Tape) (i:Input),w.os=os/\(w.forCall tape i).Shaped C.prog/\i.vars=[]/\Input.okWide C.prog (w.forCall tape i) .any w.heap.size f i/\
    ((s.pre enc C.prog fn conds apart (w.forCall tape i).memory i.args/\X (w.forCall tape i).memory i.args)/\sizedMet enc C.prog fn (OpenSpec.ofChange s) apart (w.forCall tape i).memory i.args)/\a.holds C.prog (lone (Frame.enter C.prog f i.args .normal) [] (w.forCall tape i)))
  (contract:∀(W:World) (Ac:Nat) (args:Array Value) (ds gs:List (DataW H)) (before:List MemPlace),
    (∀(j:Nat) t v,fn.params[j]?=some t->args[j]?=some v->Value.okWide C.prog W .any Ac t v)->
    DataW.Whole enc C.prog fn.params.toList s.vars apart W args.toList ds gs before->
    conds.all (PathCond.test C.prog ⟨fn.params.toList,ds,s.plain.varTypes C.prog,gs⟩)=true->
    (DataW.weightsEach C.prog (fn.params.toList++s.plain.varTypes C.prog) (ds++gs)).all (· <=reachBytes)=true->X W args->
    W.ShapedOpen C.prog->
    Calls C.prog f args W fun e W'=>∃v,e= .returned v/\s.post enc C.prog fn apart fresh handsOn again W args v W'):
  ReturnsInHanded a C os f .any (fun w args=>(s.pre enc C.prog fn conds apart w args/\X w args)/\sizedMet enc C.prog fn (OpenSpec.ofChange s) apart w args) (s.post enc C.prog fn apart fresh handsOn again):=by
 refine returnsInHanded_of_calls Am started noInit witness ?_;intro w tape i _ IT _ hok yY _;obtain⟨_,_,_,fn',AfF,_,_,_,_,ox⟩:=hok;have e:fn'=fn:=Option.some.inj (AfF.symm.trans hfn);subst e;obtain⟨⟨⟨ds,gs,before,hw,hc⟩,hx⟩,hz⟩:=yY;have hw':=DataW.Whole.of_heap (w':=w.forCall tape i) Do hw;refine(contract (w.forCall tape i) w.heap.size i.args ds gs before ox hw' hc (hz.weights hw) (hX _ _ _ Do hx) IT).mono fun e W' ⟨v,he,hp⟩=> ?_
 subst he;exact ChangeSpec.post_blind hp
end
theorem nx (h:Av [] w w'):Below w.heap.size w w':=⟨h.os,h.tape,h.output,h.size,fun k hk=>h.block k hk EQ⟩
theorem Acu:prog.cellsOf 3=1:=Fd
theorem Acw:prog.bytesOf 3=8:=Fd
theorem ua:IntKind.i64.min= -9223372036854775808:=AC
theorem aR:laidOutB prog=true:=Fd
end Go.Proofs.YtpdfifdlhpmofaaGreatDoor
