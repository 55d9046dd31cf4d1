/-
  Part 50 of the proof, packed by program out of KA.
-/
import Derived.Test.YtpdfifdlhpmofaaGreatDoorZ49
import Derived.Test.YtpdfifdlhpmofaaGreatDoorRows
import Derived.Test.YtpdfifdlhpmofaaGreatDoorTie
import Derived.ProofKit
import Derived.LaidMore
import Derived.Lay
import Derived.Lib.LaidU8
import Derived.HandedShaped
import Derived.Shelf.Vars
import Derived.SevenTiedAt
import Derived.OpenShut
import Derived.Stop.Joined
set_option linter.unusedVariables false
set_option linter.unusedSimpArgs false
set_option maxHeartbeats 3200000
set_option maxRecDepth 100000
namespace Go.Proofs.YtpdfifdlhpmofaaGreatDoor
open Go.ChangeShapes Go.WideShapes Go.ChangeAt Go.WideMaps Go.WideElems Go.RowKit
open Go.Lib (hid)
abbrev P1:List (String×DataW Unit):=Rows.compilesRow.laid
def On:List (String×DataW Unit):=P1.filter fun x=>x.2.handleName?.isNone
theorem YV {W:World} (h:laidMetH Tryz.prog P1 W):laidMet Tryz.prog On W∧handlesMet Tryz.prog [("errors.errorType",Rows.laid_errors_errorType)] W:=h
theorem Oe {W:World} (h:laidMet Tryz.prog On W) {n:String} {d:DataW Unit} (k:Nat) (hk:On[k]?=some (n,d)):Lib.VarReads Tryz.prog W n d:=Lib.laidMet.reads h (List.mem_of_getElem? hk)
theorem nz {W:World} (h:laidMet Tryz.prog On W):OO W:=by
 obtain⟨g,t,cs,fuel,p,hg,ht,hv,hd⟩:=Oe (n:= "internal/strconv.uint64pow10") (d:=Lib.tabData .u64 Lib.pow10Tab) h 2 (by kernel_rfl);obtain rfl:=Option.some.inj ((show Tryz.prog.globalNamed "internal/strconv.uint64pow10" =some 7 by kernel_rfl).symm.trans hg);obtain rfl:=Option.some.inj ((show(Tryz.prog.globals[7]?).map (·.type)=some 345 by kernel_rfl).symm.trans ht);have:=Lib.cells_of_tab (P:=Tryz.prog) (n:=20) (e:=327) Tryz.underlying345 Tryz.underlying327 (by kernel_rfl) (by kernel_rfl) hd;unfold OO Lib.TabIs;rw[hv,←this]
theorem ZU {W:World} (n:String) (g:Nat) (nm:String) (d:DataW Unit) (h:Lib.VarReads Tryz.prog W n (.iface nm d)) (hg:Tryz.prog.globalNamed n=some g) (ht:(Tryz.prog.globals[g]?).map (·.type)=some 85):∃t p,W.cell? ⟨g,0,none⟩=some (.iface t p):=by
 obtain⟨g',t,cs,fuel,p,oP,V4,hv,hd⟩:=h;obtain rfl:=Option.some.inj (hg.symm.trans oP);obtain rfl:=Option.some.inj (ht.symm.trans V4);obtain⟨_,u,v,hc,_,_⟩:=iface_of_trod Tryz.underlying85 hd;refine⟨u,v,?_⟩;rw[World.var?_cell hg hv 0,Array.eq_one_of_toList hc];rfl
theorem nx:Tryz.prog.types.size=392:=by kernel_rfl
theorem nJ:((List.range 392).filter fun t=>Tryz.prog.rowNamed t [101,114,114,111,114])=[85]:=by kernel_rfl
theorem cW {W:World} (h:handlesMet Tryz.prog [("errors.errorType",Rows.laid_errors_errorType)] W):TI W:=by
 obtain⟨name,u,ty,e1,e2,e3,e4,e5⟩:=h _ (List.mem_singleton.2 rfl);have en:name=[101,114,114,111,114]:=(Option.some.inj e1).symm;subst en;obtain rfl:=Option.some.inj ((show(Tryz.prog.cutTypes.find? (·.1== "internal/reflectlite.rtype")).map (·.2)=some 213 by kernel_rfl).symm.trans e2);have hm:ty∈(List.range 392).filter fun t=>Tryz.prog.rowNamed t [101,114,114,111,114]:=List.mem_filter.2 ⟨List.mem_range.2 (by rw[←nx];exact e3),e4⟩
 rw[nJ] at hm;obtain rfl:=List.mem_singleton.1 hm;have hh:typeHandle Tryz.prog 85= .pointer (some ⟨10,85,none⟩):=by kernel_rfl
 rw[hh] at e5;unfold TI;simpa using World.var?_cell (show Tryz.prog.globalNamed "errors.errorType" =some 0 by kernel_rfl) e5 0
theorem kL {W:World} (h:W.ShapedOpen Tryz.prog):∃m,W.cell? ⟨2,0,none⟩=some (.int .i64 m):=
 cell_of_shapedOpen_int (P:=Tryz.prog) (g:=2) (t:=3) (zero:= #[.int .i64 0]) h (of_decide_eq_true (by kernel_rfl)) (by kernel_rfl) rfl (by kernel_rfl) (by kernel_rfl) Tryz.underlying3
def Nw:List (By×By):=[([37],[109,111,100]),([38],[97,110,100]),([42],[109,117,108]),([43],[97,100,100]),([45],[115,117,98]),([47],[100,105,118]),([60],[108,116]),([60,60],[115,104,108]),([61,61],[101,113]),([62,62],[115,104,114]),([94],[120,111,114]),([124],[111,114])]
theorem nI (s:ByteArray):((Nw.find? fun x=>x.1==bs s).map (·.2)).getD []=bs ((Z1 s).getD ⟨#[]⟩):=by
 by_cases h:bs s∈Nw.map (·.1)
 ·simp only[Nw,List.map_cons,List.map_nil,List.mem_cons,List.mem_nil_iff,or_false] at h;rcases h with h | h | h | h | h | h | h | h | h | h | h | h <;>(rw[←QF s,h];decide+kernel)
 ·have h0:Bf Dc s= -1:=by
   have e:∀(a:ByteArray),bs a≠bs s→∀r k,DC (a::r) s k=DC r s (k+1):=fun a ha r k=>if_neg ha
   have h2:=h;simp only[Nw,List.map_cons,List.map_nil,List.mem_cons,List.mem_nil_iff,or_false,not_or] at h2;obtain⟨k1,k2,k3,k4,k5,k6,k7,k8,k9,k10,k11,k12⟩:=h2;unfold Bf Dc;rw[e _ (fun q=>k4 q.symm),e _ (fun q=>k5 q.symm),e _ (fun q=>k3 q.symm),e _ (fun q=>k6 q.symm),e _ (fun q=>k1 q.symm),e _ (fun q=>k2 q.symm),e _ (fun q=>k12 q.symm),e _ (fun q=>k11 q.symm),e _ (fun q=>k8 q.symm),e _ (fun q=>k10 q.symm),e _ (fun q=>k7 q.symm),e _ (fun q=>k9 q.symm)];rfl
  have h1:(Nw.find? fun x=>x.1==bs s)=none:=List.find?_eq_none.2 fun x hx he=>h (List.mem_map.2 ⟨x,hx,by simpa using he⟩)
  rw[h1];unfold Z1;rw[h0];rfl
theorem fy {H:Type} (k:By) (zd:DataW H):(DataW.map (Nw.map fun x=>(Lit.string x.1,DataW.lit (.string x.2)))).atKey (.string k) zd=match Nw.find? (fun x=>x.1==k) with | some x=> .lit (.string x.2) | none=>zd:=by
 have e:(fun p:Lit×DataW H=>p.1.sameKey (.string k))∘(fun x:By×By=>(Lit.string x.1,(DataW.lit (.string x.2):DataW H)))=fun x=>x.1==k:=rfl
 unfold DataW.atKey;simp only[List.find?_map,e];cases Nw.find? (fun x=>x.1==k) <;>rfl
theorem iW {W:World} {n:Nat} {v:Value} {z:DataW Unit×List MemPlace} {b:Nat} (h:elemAt (fun _=>()) Tryz.prog W b (fun _=>true) false n 9 v=some z):∃s:ByteArray,v= .string s∧z.1= .lit (.string (bs s)):=by
 unfold elemAt at h;split at h
 ·rename_i hf;obtain⟨s,hc,hz,_⟩:=DataW.trod_string Tryz.underlying9 h;refine⟨s,?_,by rw[hz]⟩;cases v <;>simp[Value.formed,Tryz.underlying9,Value.cells] at hf hc;try rw[hc]
 ·cases h
theorem nH {W:World} (h:laidMet Tryz.prog On W):∃mb,W.cell? ⟨1,0,none⟩=some (.map (some mb))∧∃o,W.heap[mb]?=some o∧∀V:World,V.heap[mb]?=some o→∀s:ByteArray,(Instr.lookup 232 (.map (some mb)) (.string s) false).run Tryz.prog V= .ok (.string ((Z1 s).getD ⟨#[]⟩)) V:=by
 obtain⟨g,t,cs,fuel,p,hg,ht,hv,hd⟩:=Oe (n:= "commits/front.ops") (d:= .map (Nw.map fun x=>(.string x.1,.lit (.string x.2)))) h 6 (by kernel_rfl);obtain rfl:=Option.some.inj ((show Tryz.prog.globalNamed "commits/front.ops" =some 1 by kernel_rfl).symm.trans hg);obtain rfl:=Option.some.inj ((show(Tryz.prog.globals[1]?).map (·.type)=some 232 by kernel_rfl).symm.trans ht);have hO:=open_map Tryz.underlying232 hd;clear hd;obtain⟨dd,Zb⟩:∃dd,dd=(DataW.map (Nw.map fun x=>(Lit.string x.1,(DataW.lit (.string x.2):DataW Unit)))):=⟨_,rfl⟩;rw[←Zb] at hO;rcases hO with⟨_,hx⟩ | ⟨bm,es,clock,m,_,JZ,hb,_,F,hx⟩
 ·have:=congrArg Prod.fst hx;rw[Zb] at this;cases this
 have DP:=congrArg Prod.fst hx;simp only at DP;rw[Zb] at DP;have Qd:W.cell? ⟨1,0,none⟩=some (.map (some bm)):=by
  rw[World.var?_cell hg hv 0,Array.eq_one_of_toList JZ];rfl
 refine⟨bm,Qd,_,hb,fun V hV s=> ?_⟩;have law:KeyLaw Tryz.prog 9:=string_law Tryz.underlying9;have zero:(zeroValue 9).run Tryz.prog V= .ok (.string ⟨#[]⟩) V:=by kernel_rfl
 have Zc:=nI s;by_cases hs:s.size≤maxLen
 ·rcases fit_lookup (w:=V) law Tryz.underlying232 zero hV F (keyOf_string_mk (s:=s) Tryz.underlying9 hs) with⟨oo,Fh⟩ | ⟨v,y,oo,hRv,Fh,_⟩
  ·have h1:=Fh .nil;rw[←DP,show s.data.toList=bs s from rfl,fy] at h1;have h2:Nw.find? (fun x=>x.1==bs s)=none:=by
    cases hf:Nw.find? (fun x=>x.1==bs s) with
    | none=>rfl
    | some x=>rw[hf] at h1;cases h1
   rw[h2] at Zc;rw[oo];have:(Z1 s).getD ⟨#[]⟩=(⟨#[]⟩:ByteArray):=Lu Zc.symm;rw[this]
  ·have h1:=Fh .nil;obtain⟨sv,rfl,hz⟩:=iW hRv;rw[←DP,show s.data.toList=bs s from rfl,fy,hz] at h1;cases hf:Nw.find? (fun x=>x.1==bs s) with
   | none=>rw[hf] at h1;cases h1
   | some x=>
    rw[hf] at h1 Zc;simp only[DataW.lit.injEq,Lit.string.injEq] at h1;rw[oo];have:(Z1 s).getD ⟨#[]⟩=sv:=Lu (Zc.symm.trans (by simpa using h1));rw[this]
 ·have hnk:∀x∈es.toList,x.key≠ .string s:=fun x hx e=>by
   obtain⟨l,hl⟩:=F.keys x hx;rw[e,keyOf_string Tryz.underlying9] at hl;simp[mapKey,Tryz.underlying9,hs] at hl
  have vG:∀x∈es.toList,MapKept.IsKey .string x.key:=fun x hxm=>by
   obtain⟨l,hl⟩:=F.keys x hxm;obtain⟨s',e,_,_⟩:=string_of_keyOf Tryz.underlying9 hl;rw[e];trivial
  have h2:Nw.find? (fun x=>x.1==bs s)=none:=List.find?_eq_none.2 fun x hx he=>by
   have:s.size=x.1.length:=by rw[show x.1=bs s by simpa using he];rfl
   have h3:∀y∈Nw,y.1.length≤2:=by decide
   have:=h3 x hx;unfold maxLen at hs;omega
  rw[h2] at Zc;have hz:(Z1 s).getD ⟨#[]⟩=(⟨#[]⟩:ByteArray):=Lu Zc.symm;rw[hz];rcases MapKept.findNow_spec (d:= .string) (k:= .string s) trivial es.toList 0 vG with⟨h1,_⟩ | ⟨j,e0,_,h4,h5⟩
  ·simp[Instr.lookup,run_underlying Tryz.underlying232,MapKept.run_getObj_map hV,MapKept.run_checkKey Tryz.underlying9 (d:= .string) (k:= .string s) trivial,MapKept.run_findKey Tryz.underlying9 h1,zero,Result.andThen]
  ·exact absurd h5 (hnk e0 (List.mem_of_getElem? h4))
theorem kF {W:World} (h:laidMetH Tryz.prog P1 W) (hs:W.ShapedOpen Tryz.prog):∃mb,Gl mb W∧TI W:=by
 obtain⟨h1,h2⟩:=YV h;obtain⟨mb,h3,h4⟩:=nH h1;exact⟨mb,⟨nz h1,kL hs,ZU "strconv.ErrSyntax" 5 "*errors.errorString" (.ptr (.agg [.lit (.string [105,110,118,97,108,105,100,32,115,121,110,116,97,120])])) (Oe h1 5 (by kernel_rfl)) (by kernel_rfl) (by kernel_rfl),ZU "strconv.ErrRange" 6 "*errors.errorString" (.ptr (.agg [.lit (.string [118,97,108,117,101,32,111,117,116,32,111,102,32,114,97,110,103,101])])) (Oe h1 4 (by kernel_rfl)) (by kernel_rfl) (by kernel_rfl),h3,h4⟩,cW h2⟩
end Go.Proofs.YtpdfifdlhpmofaaGreatDoor
