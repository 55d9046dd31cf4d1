/- The tied card of Explained: whatever the text and the picks, Explained answers true and leaves its arguments. -/
import Derived.Test.YtpdfifdlhpmofaaGreatDoorA19
import Derived.Test.YtpdfifdlhpmofaaGreatDoorA27
import Derived.Test.YtpdfifdlhpmofaaGreatDoorCards
set_option linter.unusedVariables false
set_option linter.unusedSimpArgs false
set_option maxHeartbeats 0
set_option maxRecDepth 99999
namespace Go.Proofs.YtpdfifdlhpmofaaGreatDoor
open Go.ChangeShapes Go.WideShapes Go.ChangeAt Go.WideMaps Go.WideElems Go.RowKit Go.Proofs.Tryz
open Value renaming slice->qD,string->qE,bool->qF,tuple->qG,agg->qH,pointer->qI
open Ending renaming returned->qJ
open Obj renaming cells->qK
open Option renaming none->Z,some->U
open Bool renaming true->V,false->I
open Go.Lib renaming hid->D
open List renaming length->J
theorem WG (os:Os) (started:os.Started) (H:Type) (ck:TypeId×Value->H):
  ReturnsInHanded {} checked os 5 .any (λw args=>(Rows.explainedSpec.pre ck prog f5 [] I w args/\laidMetH prog Xr w)/\sizedMet ck prog f5 (OpenSpec.ofChange Rows.explainedSpec) I w args)
   (Rows.explainedSpec.post ck prog f5 I V I I):=by
 refine Y6 (C:=checked) (X:=λw _=>laidMetH prog Xr w) (λ_ _ _ hh h=>h.of_heap hh) Ame started Fd func5
  (ChangeSpec.witness_shaped (enc:=ck) (C:=checked) (os:=os) (X:=λw _=>laidMetH prog Xr w) I (dY os) #[.string ⟨#[]⟩,.slice Z 0 0] 8 (Acg os)
    (World.shaped_of_ZipB Fd Fd) Fd Fd Fd (yi os _)) ?_
 intro W Ac args ds gs before Akc hW _ hwt hL IK;have yv:∀(j:Nat) t v,f5.params[j]?=U t->args[j]?=U v->Value.okWide prog W .any Ac t v:=Akc;have hW':=hW;obtain⟨p,q,hA0,hV0,rfl,_,_⟩:=hW;have hA:DataW.TrodAll ck prog W 0 (λ_=>V) V f5.params.toList args.toList ds p:=hA0;have hV:DataW.TrodVars ck prog W (λ_=>V) [] gs q:=hV0;rw[params5] at hA yv;obtain⟨v0,v1,d0,d1,p0,p1,rfl,rfl,rfl,h0,h1⟩:=trodAll_two hA;obtain⟨rfl,rfl⟩:=trodVars_none hV;simp only[Jr] at hW';have h0k:=h0;have h1k:=h1;have hlt:∀x∈p0++p1,x.block<W.heap.size:=λx hx=>by simpa using hW'.lt x hx
 obtain⟨s,rfl,rfl,rfl,ws⟩:=Go.ChangeMaps.open_string underlying9 (yv 0 9 v0 rfl rfl) h0;obtain⟨a0,len,cap,rfl⟩:=okWide_slice underlying29 (yv 1 29 v1 rfl rfl);obtain⟨mb,hG,hE⟩:=AeO hL IK;have B0:∀pk:List Int,len=J pk->iL W a0 pk->(∀n,n∈pk->i64 n)->s.size+J pk<4611686018427387904->Calls prog 5 #[.string s,.slice a0 len cap] W λe W'=>e=.returned (.bool V)/\Aw [] W W':=by
  intro pk e hp hi hb;subst e;exact bQ s W (λhs=>lW mb s W hG hE hs) a0 cap pk hp hi hb
 have Om:∀W',Aw [] W W'->∃v,Ending.returned (Value.bool V)=.returned v/\Rows.explainedSpec.post ck prog f5 I V I I W #[.string s,.slice a0 len cap] v W':=by
  intro W' hm;have hb:=xF hm;have e1:Rows.explainedSpec.fn H ([.lit (.string s.data.toList),d1]++[])={results:=[.lit (.bool V)],args:=[.lit (.string s.data.toList),d1]}:=by simp[Rows.explainedSpec]
  refine⟨_,rfl,_,_,_,[],[]++p1,[],hW',?_,?_,?_,Ab2 hm _,λh=>by cases h⟩
  .rw[e1];exact trodAll_mk1 (shut_bool underlying4 V)
  .rw[e1];exact trodAll_mk2 (Below.trod uw Fd (Q8 Fd) h0k hb (λx hx=>by cases hx)) (Below.trod uw Fd (Q8 Fd) h1k hb (λx hx=>hlt x (by simp[hx])))
  .rw[e1];rfl
 obtain⟨fuel,hf⟩:=h1;have hs9:s.size<=reachBytes:=by
  have q:=J3.1 hwt (J s.data.toList) (IR _ (GE.2 rfl));simpa using q
 rcases open_ints underlying29 underlying3 AiX hf with⟨Ns,_⟩|⟨a,len',cap',zs,Ns,_,hl,_,hz,hx,KT,hwz⟩
 .simp[Value.cells] at Ns;obtain⟨rfl,rfl,rfl⟩:=Ns;exact(B0 [] rfl (λi hi=>by simp at hi) (λn hn=>by simp at hn) (by unfold reachBytes at hs9;simp;omega)).mono λe W' ⟨he,hm⟩=>by subst he;exact Om W' hm
 .simp[Value.cells] at Ns;obtain⟨rfl,rfl,rfl⟩:=Ns;simp only[Prod.mk.injEq] at hx;obtain⟨rfl,rfl⟩:=hx;simp only[Qf] at hz;have hlz:((lits (H:=H) .i64 (zs.take len)).length+(lits (H:=H) .i64 (zs.drop len)).length)*8<=reachBytes:=by
   have e:DataW.weights prog 29 (DataW.slice (lits (H:=H) .i64 (zs.take len)) (lits (H:=H) .i64 (zs.drop len)))=((lits (H:=H) .i64 (zs.take len)).length+(lits (H:=H) .i64 (zs.drop len)).length)*8::(DataW.weightsAll prog 3 (lits (H:=H) .i64 (zs.take len))++DataW.weightsAll prog 3 (lits (H:=H) .i64 (zs.drop len))):=by
    unfold DataW.weights;rw[underlying29];show _*prog.bytesOf 3::_=_;rw[AiZ]
   have q:=J3.1 hwt (((lits (H:=H) .i64 (zs.take len)).length+(lits (H:=H) .i64 (zs.drop len)).length)*8) (Jc _ (IR _ (e▸Je ..)));exact Q8 q
  have hlen:(zs.take len).length=len:=by simp;omega
  have ht:(lits (H:=H) .i64 (zs.take len)).length=len:=by simp[lits];omega
  refine(B0 (zs.take len) hlen.symm ?_ ?_ ?_).mono λe W' ⟨he,hm⟩=>by subst he;exact Om W' hm
  .obtain⟨b,off,pa⟩:=a;intro i hi;rw[hlen] at hi;have hc:=KT i Y;have hsel:pa=Z:=by simpa[Addr.add] using World.cell?_spot (KT 0 Y)
   subst hsel;refine⟨b,off,rfl,?_⟩;rw[show(zs.take len).getD i 0=zs.getD i 0 by rw[Ja,Ja,jV,Jd hi]];cases i with
   |zero=>simpa[Addr.add] using hc
   |succ i=>simpa[Addr.add] using hc
  .intro n hn;have:=hwz n (List.mem_of_mem_take hn);simpa[Lit.wf,i64,Ah9] using this
  .rw[hlen];unfold reachBytes at hs9 hlz;omega
theorem explained_row:Rows.ExplainedSaid:=
 OpenClaim.holds_of_wide 5 f5 rfl rfl rfl rfl rfl rfl rfl ⟨rfl,rfl,rfl,rfl,rfl⟩ rfl rfl rfl rfl rfl Fd func5 Fd
  (Q8 Fd) (by unfold Func.isWrapper;first|(rw[Jd (by decide+kernel)];kernel_rfl)|(rw[In (by decide+kernel)];exact⟨rfl,rfl⟩))
  (λos started H ck _=>WG os started H ck)
theorem explained_card:Rows.ExplainedCardSaid:=
 Claim7.holds_tied_plain_at .later [] [.data,.data,.data,.data,.handle,.sentinel,.sentinel,.mapped,.pinned] V (V,"7845aaeef35639c2a72e0852d15e3f46db0a75a699761104d11a59dcd92d4a22") V
  explained_row (λ_ h=>by cases h) Fd (λ_ h=>by cases h) explained_row_tie rfl ⟨rfl,rfl⟩ Fd rfl
  (λf fn hf hfn=>by
    obtain rfl:f=5:=Option.some.inj ((show prog.funcNamed "commits/commitslaw.Explained" =U 5 by kernel_rfl).symm.trans hf) |>.symm;obtain rfl:fn=f5:=(Option.some.inj (func5.symm.trans hfn)).symm;exact⟨Fd,λj t ht=>by
      rw[params5] at ht;have hm:t∈[9,29]:=by simpa using Array.mem_of_getElem? ht
      have Da:([9,29].all λu=> !Tryz.prog.wantsStandIn u)=V:=Fd
      exact(show prog.wantsStandIn t=I by simpa using J3.1 Da t hm)⟩)
  Fd
#print axioms explained_card
