/- Part 19 of the proof. -/
import Derived.Test.YtpdfifdlhpmofaaGreatDoorA18
import Derived.Test.YtpdfifdlhpmofaaGreatDoorRows
import Derived.Test.YtpdfifdlhpmofaaGreatDoorTie
set_option linter.unusedVariables false
set_option linter.unusedSimpArgs false
set_option maxHeartbeats 0
set_option maxRecDepth 99999
namespace Go.Proofs.YtpdfifdlhpmofaaGreatDoor
open Go.ChangeShapes Go.WideShapes Go.ChangeAt Go.WideMaps Go.WideElems Go.RowKit Go.Proofs.Tryz
open Value renaming slice->qD,string->qE,bool->qF,tuple->qG,agg->qH,pointer->qI
open Ending renaming returned->qJ
open Obj renaming cells->qK
open Option renaming none->Z,some->U
open Bool renaming true->V,false->I
open Go.Lib renaming hid->D
open List renaming length->J
variable {W w w':World}
abbrev Xr:List (String×DataW Unit):=Rows.compilesRow.laid
def Vr:List (String×DataW Unit):=Xr.filter λx=>x.2.handleName?.isNone
theorem rC (h:laidMetH prog Xr W):laidMet prog Vr W/\handlesMet prog [("errors.errorType",Rows.laid_errors_errorType)] W:=h
theorem U0 (h:laidMet prog Vr W) {n:String} {d:DataW Unit} (k:Nat) (hk:Vr[k]?=U (n,d)):Lib.VarReads prog W n d:=Lib.laidMet.reads h AC
theorem Ahk (h:laidMet prog Vr W):V0 W:=by
 obtain⟨g,t,cs,fuel,p,hg,ht,hv,hd⟩:=U0 (n:= "internal/strconv.uint64pow10") (d:=Lib.tabData .u64 Lib.pow10Tab) h 2 Fd;obtain rfl:=Option.some.inj ((show prog.globalNamed "internal/strconv.uint64pow10" =U 7 by kernel_rfl).symm.trans hg);obtain rfl:=Option.some.inj ((show(prog.globals[7]?).map (·.type)=U 345 by kernel_rfl).symm.trans ht);have:=Lib.cells_of_tab (P:=prog) (n:=20) (e:=327) underlying345 underlying327 Fd Fd hd;unfold V0 Lib.TabIs;rw[hv,<-this]
theorem tQ (n:String) (g:Nat) (nm:String) (d:DataW Unit) (h:Lib.VarReads prog W n (.iface nm d)) (hg:prog.globalNamed n=U g) (ht:(prog.globals[g]?).map (·.type)=U 85):∃t p,W.cell? ⟨g,0,Z⟩=U (.iface t p):=by
 obtain⟨g',t,cs,fuel,p,hg',IJ,hv,hd⟩:=h;grind [iface_of_trod,underlying85,World.var?_cell hg hv 0,Array.eq_one_of_toList]
theorem Ahg:prog.types.size=392:=Fd
theorem AhE:((List.range 392).filter λt=>prog.rowNamed t [101,114,114,111,114])=[85]:=Fd
theorem yF (h:handlesMet prog [("errors.errorType",Rows.laid_errors_errorType)] W):cK W:=by
 obtain⟨name,u,ty,e1,e2,e3,e4,e5⟩:=h _ (GE.2 rfl);have en:name=[101,114,114,111,114]:=(Option.some.inj e1).symm;subst en;obtain rfl:=Option.some.inj ((show(prog.cutTypes.find? (·.1== "internal/reflectlite.rtype")).map (·.2)=U 213 by kernel_rfl).symm.trans e2);have hm:ty∈(List.range 392).filter λt=>prog.rowNamed t [101,114,114,111,114]:=jM.2 ⟨J6.2 (by rw[<-Ahg];exact e3),e4⟩
 rw[AhE] at hm;obtain rfl:=GE.1 hm;have hh:typeHandle prog 85=.pointer (U ⟨10,85,Z⟩):=Fd
 rw[hh] at e5;unfold cK;simpa using qB (show prog.globalNamed "errors.errorType" =U 0 by kernel_rfl) e5 0
theorem Ae3 (h:W.ShapedOpen prog):∃m,W.cell? ⟨2,0,Z⟩=U (iI m):=
 cell_of_shapedOpen_int (P:=prog) (g:=2) (t:=3) (zero:= #[iI 0]) h (Q8 Fd) Fd rfl Fd Fd underlying3
def We:List (By×By):=[([37],[109,111,100]),([38],[97,110,100]),([42],[109,117,108]),([43],[97,100,100]),([45],[115,117,98]),([47],[100,105,118]),([60],[108,116]),([60,60],[115,104,108]),([61,61],[101,113]),([62,62],[115,104,114]),([94],[120,111,114]),([124],[111,114])]
theorem AhD (s:ByteArray):((We.find? λx=>x.1==bs s).map (·.2)).getD []=bs ((xh s).getD ⟨#[]⟩):=by
 by_cases h:bs s∈We.map (·.1)
 .simp only[We,Jt,QJ,Jl,QY,or_false] at h;rcases h with h|h|h|h|h|h|h|h|h|h|h|h<;>(rw[<-Yb s,h];decide+kernel)
 .have h0:Bg Dc s= -1:=by
   have e:∀(a:ByteArray),bs a≠bs s->∀r k,Ee (a::r) s k=Ee r s (k+1):=λa ha r k=>In ha
   have h2:=h;simp only[We,Jt,QJ,Jl,QY,or_false,not_or] at h2;obtain⟨k1,k2,k3,k4,k5,k6,k7,k8,k9,k10,k11,k12⟩:=h2;unfold Bg Dc;rw[e _ AC,e _ AC,e _ AC,e _ AC,e _ AC,e _ AC,e _ AC,e _ AC,e _ AC,e _ AC,e _ AC,e _ AC];rfl
  have h1:(We.find? λx=>x.1==bs s)=Z:=AC;rw[h1];grind [xh]
theorem Abz {H:Type} (k:By) (zd:DataW H):(DataW.map (We.map λx=>(Lit.string x.1,DataW.lit (.string x.2)))).atKey (.string k) zd=match We.find? (λx=>x.1==k) with|some x=> .lit (.string x.2)|none=>zd:=by
 have e:(λp:Lit×DataW H=>p.1.sameKey (.string k))∘(λx:By×By=>(Lit.string x.1,(DataW.lit (.string x.2):DataW H)))=λx=>x.1==k:=rfl
 unfold DataW.atKey;simp only[List.find?_map,e];cases We.find? (λx=>x.1==k)<;>rfl
theorem Adw {n:Nat} {v:Value} {z:DataW Unit×List MemPlace} {b:Nat} (h:elemAt (λ_=>()) prog W b (λ_=>V) I n 9 v=U z):∃s:ByteArray,v=.string s/\z.1=.lit (.string (bs s)):=by
 unfold elemAt at h;split at h
 .rename_i hf;obtain⟨s,hc,hz,_⟩:=DataW.trod_string underlying9 h;refine⟨s,?_,by rw[hz]⟩;cases v<;>simp[Value.formed,underlying9,Value.cells] at hf hc;try rw[hc]
 .cases h
theorem AhC (h:laidMet prog Vr W):∃mb,W.cell? ⟨1,0,Z⟩=U (.map (U mb))/\∃o,W.heap[mb]?=U o/\∀Z98:World,Z98.heap[mb]?=U o->∀s:ByteArray,(Instr.lookup 232 (.map (U mb)) (.string s) I).run prog Z98=.ok (.string ((xh s).getD ⟨#[]⟩)) Z98:=by
 obtain⟨g,t,cs,fuel,p,hg,ht,hv,hd⟩:=U0 (n:= "commits/front.ops") (d:=.map (We.map λx=>(.string x.1,.lit (.string x.2)))) h 6 Fd;obtain rfl:=Option.some.inj ((show prog.globalNamed "commits/front.ops" =U 1 by kernel_rfl).symm.trans hg);obtain rfl:=Option.some.inj ((show(prog.globals[1]?).map (·.type)=U 232 by kernel_rfl).symm.trans ht);have hO:=open_map underlying232 hd;clear hd;obtain⟨dd,bY⟩:∃dd,dd=(DataW.map (We.map λx=>(Lit.string x.1,(DataW.lit (.string x.2):DataW Unit)))):=⟨_,rfl⟩;rw[<-bY] at hO;rcases hO with⟨_,hx⟩|⟨bm,es,clock,m,_,Ns,hb,_,F,hx⟩
 .have:=JM Prod.fst hx;rw[bY] at this;cases this
 have hx1:=JM Prod.fst hx;simp only at hx1;rw[bY] at hx1;have KT:W.cell? ⟨1,0,Z⟩=U (.map (U bm)):=by
  rw[qB hg hv 0,Array.eq_one_of_toList Ns];rfl
 refine⟨bm,KT,_,hb,λZ98 hV s=>?_⟩;have law:KeyLaw prog 9:=string_law underlying9;have zero:(zeroValue 9).run prog Z98=.ok (.string ⟨#[]⟩) Z98:=Fd
 have LB:=AhD s;by_cases hs:s.size<=maxLen
 .rcases fit_lookup (w:=Z98) law underlying232 zero hV F (keyOf_string_mk (s:=s) underlying9 hs) with⟨IG,FU⟩|⟨v,y,IG,hRv,FU,_⟩
  .have h1:=FU .nil;rw[<-hx1,show s.data.toList=bs s from rfl,Abz] at h1;have h2:We.find? (λx=>x.1==bs s)=Z:=by
    grind
   rw[h2] at LB;rw[IG];have:(xh s).getD ⟨#[]⟩=(⟨#[]⟩:ByteArray):=Pa AC;rw[this]
  grind [FU .nil,Adw,Abz,Pa]
 .have hnk:∀x∈es.toList,x.key≠ .string s:=λx hx e=>by
   obtain⟨l,hl⟩:=F.keys x hx;rw[e,keyOf_string underlying9] at hl;simp[mapKey,underlying9,hs] at hl
  have hks:∀x∈es.toList,MapKept.IsKey .string x.key:=λx hxm=>by
   obtain⟨l,hl⟩:=F.keys x hxm;obtain⟨s',e,_,_⟩:=string_of_keyOf underlying9 hl;rw[e];trivial
  have h2:We.find? (λx=>x.1==bs s)=Z:=List.find?_eq_none.2 λx hx he=>by
   have:s.size=J x.1:=by rw[show x.1=bs s by grind];rfl
   have h3:∀y∈We,J y.1<=2:=Do
   have:=h3 x hx;grind [maxLen]
  rw[h2] at LB;have hz:(xh s).getD ⟨#[]⟩=(⟨#[]⟩:ByteArray):=Pa AC;rw[hz];rcases MapKept.findNow_spec (d:=.string) (k:=.string s) trivial es.toList 0 hks with⟨h1,_⟩|⟨j,e0,_,h4,h5⟩
  .simp[Instr.lookup,run_underlying underlying232,MapKept.run_getObj_map hV,MapKept.run_checkKey underlying9 (d:=.string) (k:=.string s) trivial,MapKept.run_findKey underlying9 h1,zero,Result.andThen]
  grind
theorem AeO (h:laidMetH prog Xr W) (hs:W.ShapedOpen prog):∃mb,Gl mb W/\cK W:=by
 obtain⟨h1,h2⟩:=rC h;obtain⟨mb,h3,h4⟩:=AhC h1;exact⟨mb,⟨Ahk h1,Ae3 hs,tQ "strconv.ErrSyntax" 5 "*errors.errorString" (.ptr (.agg [.lit (.string [105,110,118,97,108,105,100,32,115,121,110,116,97,120])])) (U0 h1 5 Fd) Fd Fd,tQ "strconv.ErrRange" 6 "*errors.errorString" (.ptr (.agg [.lit (.string [118,97,108,117,101,32,111,117,116,32,111,102,32,114,97,110,103,101])])) (U0 h1 4 Fd) Fd Fd,h3,h4⟩,yF h2⟩
section
theorem Ame:ownKnob prog.godebug=Z:=Fd
theorem Ab2 (h:Aw [] w w') (may:MemPlace->Prop):w.keptBut w' may:=
 Below.frame (⟨h.os,h.tape,h.output,h.size,λk hk=>h.block k hk EQ⟩:Below w.heap.size w w') may
noncomputable def dY (os:Os):World:=(World.doorLaid prog 144 os).layVars prog (Vr.filter λx=>["unicode/utf8.first"].contains x.1)
theorem Acg (os:Os):(dY os).os=os:=World.layVars_os _ _ _
noncomputable def ux (os:Os):List Nat:=(List.range (World.doorLaid prog 144 os).heap.size).filter λx=>x !=3
theorem rD (os:Os):(World.doorLaid prog 144 os).layFits prog (Vr.filter λx=>["unicode/utf8.first"].contains x.1) (ux os)=V:=Fd
theorem yj (os:Os):(World.doorLaid prog 144 os).layIfaces prog (Vr.filter λx=>["unicode/utf8.first"].contains x.1) (dY os)=V:=Fd
theorem Ach (os:Os):LaidIn prog (dY os) (Vr.filter λx=> !["unicode/utf8.first"].contains x.1) (ux os):=
 LaidIn.of_run (ux os) 8 Fd Fd Fd Fd
theorem yi (os:Os) (args:Array Value):laidMetH prog Xr ((dY os).forCall (λ_ _=>0) ⟨#[],args,[]⟩).memory:=
 (show laidMetH prog Xr (dY os) from laidMetH_of_parts (laidMet_layVars (w0:=World.doorLaid prog 144 os) ["unicode/utf8.first"] (ux os) rfl (rD os) (yj os) (Ach os)) Fd).of_heap (by simp[World.memory,World.forCall,Input.heap])
variable {H:Type} {ck:TypeId×Value->H}
theorem Y6 {a:Assume} {C:Checked} {os:Os} {f:FuncId} {fn:Func} {s:ChangeSpec} {conds:List PathCond} {apart aj handsOn again:Bool} {X:World->Array Value->Prop}
  (hX:∀(w w':World) (args:Array Value),w.heap=w'.heap->X w args->X w' args)
  (Ak:ownKnob C.prog.godebug=Z) (started:os.Started) (noInit:C.prog.inits.idxOf? f=Z) (hfn:C.prog.funcs[f]?=U fn)
  (witness:∃(w:World) (tape:Tape) (i:Input),w.os=os/\(w.forCall tape i).Shaped C.prog/\i.vars=[]/\Input.okWide C.prog (w.forCall tape i) .any w.heap.size f i/\
    ((s.pre ck C.prog fn conds apart (w.forCall tape i).memory i.args/\X (w.forCall tape i).memory i.args)/\sizedMet ck C.prog fn (OpenSpec.ofChange s) apart (w.forCall tape i).memory i.args)/\a.holds C.prog (lone (Frame.enter C.prog f i.args .normal) [] (w.forCall tape i)))
  (contract:∀(W:World) (Ac:Nat) (args:Array Value) (ds gs:List (DataW H)) (before:List MemPlace),
    (∀(j:Nat) t v,fn.params[j]?=U t->args[j]?=U v->Value.okWide C.prog W .any Ac t v)->
    DataW.Whole ck C.prog fn.params.toList s.vars apart W args.toList ds gs before->
    conds.all (PathCond.test C.prog ⟨fn.params.toList,ds,s.plain.varTypes C.prog,gs⟩)=V->
    (DataW.weightsEach C.prog (fn.params.toList++s.plain.varTypes C.prog) (ds++gs)).all (· <=reachBytes)=V->X W args->
    W.ShapedOpen C.prog->
    Calls C.prog f args W λe W'=>∃v,e=.returned v/\s.post ck C.prog fn apart aj handsOn again W args v W'):
  ReturnsInHanded a C os f .any (λw args=>(s.pre ck C.prog fn conds apart w args/\X w args)/\sizedMet ck C.prog fn (OpenSpec.ofChange s) apart w args) (s.post ck C.prog fn apart aj handsOn again):=by
 refine returnsInHanded_of_calls Ak started noInit witness ?_;intro w tape i _ IK _ hok Ol _;obtain⟨_,_,_,fn',Am0,_,_,_,_,yv⟩:=hok;have e:fn'=fn:=Option.some.inj (Am0.symm.trans hfn);subst e;obtain⟨⟨⟨ds,gs,before,hw,hc⟩,hx⟩,hz⟩:=Ol;have K7:=DataW.Whole.of_heap (w':=w.forCall tape i) Eq hw;refine(contract (w.forCall tape i) w.heap.size i.args ds gs before yv K7 hc (hz.weights hw) (hX _ _ _ Eq hx) IK).mono λe W' ⟨v,he,hp⟩=>?_
 subst he;exact ChangeSpec.post_blind hp
end
theorem xF (h:Aw [] w w'):Below w.heap.size w w':=⟨h.os,h.tape,h.output,h.size,λk hk=>h.block k hk EQ⟩
theorem AiX:prog.cellsOf 3=1:=Fd
theorem AiZ:prog.bytesOf 3=8:=Fd
theorem Ah9:IntKind.i64.min= -9223372036854775808:=Do
theorem uw:laidOutB prog=V:=Fd
