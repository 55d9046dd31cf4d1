/-
  The tied card of Left: whatever the text, the picks and the number, Left answers true and leaves its arguments.
-/
import Derived.Test.YtpdfifdlhpmofaaGreatDoorZ37
import Derived.Test.YtpdfifdlhpmofaaGreatDoorZ45
import Derived.Test.YtpdfifdlhpmofaaGreatDoorCards
set_option linter.unusedVariables false
set_option linter.unusedSimpArgs false
set_option maxHeartbeats 3200000
set_option maxRecDepth 100000
namespace Go.Proofs.YtpdfifdlhpmofaaGreatDoor
open Go.ChangeShapes Go.WideShapes Go.ChangeAt Go.WideMaps Go.WideElems Go.RowKit Go.Proofs.Tryz
open Go.Lib (hid)
theorem left_lifted (os:Os) (started:os.Started) (H:Type) (enc:TypeId×Value->H):
  ReturnsInHanded {} checked os 8 .any (fun w args=>(Rows.leftSpec.pre enc prog f8 [] false w args/\laidMetH prog Ua w)/\sizedMet enc prog f8 (OpenSpec.ofChange Rows.leftSpec) false w args)
   (Rows.leftSpec.post enc prog f8 false true false false):=by
 refine VT (C:=checked) (X:=fun w _=>laidMetH prog Ua w) (fun _ _ _ hh h=>h.of_heap hh) AeY started Fd func8
  (ChangeSpec.witness_shaped (enc:=enc) (C:=checked) (os:=os) (X:=fun w _=>laidMetH prog Ua w) false (Y8 os) #[.string ⟨#[]⟩,.slice none 0 0,.int .i64 0] 8 (tD os)
    (Qdi Fd Fd) Fd Fd Fd (oa os _)) ?_
 intro W Ac args ds gs before Adr hW _ hwt hL IT;have ox:∀(j:Nat) t v,f8.params[j]?=some t->args[j]?=some v->Value.okWide prog W .any Ac t v:=Adr;have hW':=hW;obtain⟨p,q,hA0,hV0,rfl,_,_⟩:=hW;have hA:DataW.TrodAll enc prog W 0 (fun _=>true) true f8.params.toList args.toList ds p:=hA0;have hV:DataW.TrodVars enc prog W (fun _=>true) [] gs q:=hV0;rw[params8] at hA ox;obtain⟨v0,v1,v2,d0,d1,d2,p0,p1,p2,rfl,rfl,rfl,h0,h1,h2⟩:=trodAll_three hA;obtain⟨rfl,rfl⟩:=trodVars_none hV;simp only[i7] at hW';have h0k:=h0;have h1k:=h1;have h2k:=h2;have AX:∀x∈p0++p1++p2,x.block < W.heap.size:=fun x hx=>by simpa using hW'.lt x hx
 obtain⟨s,rfl,rfl,rfl,ws⟩:=Go.ChangeMaps.open_string underlying9 (ox 0 9 v0 rfl rfl) h0;obtain⟨u,rfl,rfl,rfl,wu⟩:=open_int underlying3 (ox 2 3 v2 rfl rfl) h2;obtain⟨a0,len,cap,rfl⟩:=okWide_slice underlying29 (ox 1 29 v1 rfl rfl);obtain⟨mb,hG,hE⟩:=yn hL IT;have hu:i64 u:=by simpa[Lit.wf,i64,ua] using wu
 have CN:∀pk:List Int,len=pk.length->ca W a0 pk->(∀n,n∈pk->i64 n)->s.size+pk.length < 4611686018427387904->Calls prog 8 #[.string s,.slice a0 len cap,.int .i64 u] W fun e W'=>e= .returned (.bool true)/\Av [] W W':=by
  intro pk e hp hi hb;subst e;exact tC s W (fun hs=>dI mb s W hG hE hs) a0 cap pk hp hi hb u hu
 have Ma:∀W',Av [] W W'->∃v,Ending.returned (Value.bool true)= .returned v/\Rows.leftSpec.post enc prog f8 false true false false W #[.string s,.slice a0 len cap,.int .i64 u] v W':=by
  intro W' hm;have hb:=nx hm;have e1:Rows.leftSpec.fn H ([.lit (.string s.data.toList),d1,.lit (.int .i64 u)]++[])={results:=[.lit (.bool true)],args:=[.lit (.string s.data.toList),d1,.lit (.int .i64 u)]}:=by simp[Rows.leftSpec]
  exact mao
 obtain⟨fuel,hf⟩:=h1;have hs9:s.size<=reachBytes:=by
  exact maW
 rcases open_ints underlying29 underlying3 Acu hf with⟨Mv,_⟩ | ⟨a,len',cap',zs,Mv,_,hl,_,hz,hx,Lm,hwz⟩
 ·exact maB
 ·exact maf
theorem left_row:Rows.LeftSaid:=
 OpenClaim.holds_of_wide 8 f8 rfl rfl rfl rfl rfl rfl rfl ⟨rfl,rfl,rfl,rfl,rfl⟩ rfl rfl rfl rfl rfl Fd func8 Fd
  (Qbz Fd) (by unfold Func.isWrapper;first | (rw[In (by decide+kernel)];kernel_rfl) | (rw[I (by decide+kernel)];exact⟨rfl,rfl⟩))
  (fun os started H enc _=>left_lifted os started H enc)
theorem left_card:Rows.LeftCardSaid:=
 Claim7.holds_tied_plain_at .later [] [.data,.data,.data,.data,.handle,.sentinel,.sentinel,.mapped,.pinned] true (true,"7845aaeef35639c2a72e0852d15e3f46db0a75a699761104d11a59dcd92d4a22") true
  left_row (fun _ h=>by cases h) Fd (fun _ h=>by cases h) left_row_tie rfl ⟨rfl,rfl⟩ Fd rfl
  (fun f fn hf hfn=>by
    obtain rfl:f=8:=Option.some.inj ((show prog.funcNamed "commits/commitslaw.Left" =some 8 by kernel_rfl).symm.trans hf) |>.symm;obtain rfl:fn=f8:=(Option.some.inj (func8.symm.trans hfn)).symm;exact⟨Fd,fun j t ht=>by
      rw[params8] at ht;have hm:t∈[9,29,3]:=by simpa using Qdc ht
      have Ie:([9,29,3].all fun u=> !Tryz.prog.wantsStandIn u)=true:=Fd
      exact(show prog.wantsStandIn t=false by simpa using Qa4.1 Ie t hm)⟩)
  Fd
#print axioms left_card
end Go.Proofs.YtpdfifdlhpmofaaGreatDoor
