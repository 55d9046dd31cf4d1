/-
  Part 46 of the proof, packed by program out of T1.
-/
import Derived.Test.YtpdfifdlhpmofaaGreatDoorZ33
import Derived.Test.YtpdfifdlhpmofaaGreatDoorZ19
import Derived.Test.YtpdfifdlhpmofaaGreatDoorZ42
import Derived.Lib.ItoaLen
set_option linter.unusedVariables false
set_option linter.unusedSimpArgs false
set_option maxHeartbeats 3200000
set_option maxRecDepth 100000
namespace Go.Proofs.YtpdfifdlhpmofaaGreatDoor
open Go.RowKit
open Go.Lib (hid)
def FE (k:Int):By:=114::Lib.itoa k
def EN (a:Ag):By:=if a.BF then FE a.v else Lib.itoa a.v
def GI.ws:GI→List By
 | .J9 d a=>[[109,111,118],FE d,EN a]
 | .op n d a b=>[bs n,FE d,EN a,EN b]
 | .load d a k=>[[108,111,97,100],FE d,EN a,Lib.itoa k]
 | .store a k b=>[[115,116,111,114,101],EN a,Lib.itoa k,EN b]
 | .LL d a k b c=>[[99,97,115],FE d,EN a,Lib.itoa k,EN b,EN c]
 | .GL d a k b=>[[120,97,100,100],FE d,EN a,Lib.itoa k,EN b]
 | .Mf=>[[102,101,110,99,101]]
 | .out a=>[[111,117,116],EN a]
 | .Ga q=>[[106,109,112],Lib.itoa q]
 | .jz a q=>[[106,122],EN a,Lib.itoa q]
 | .Eu k=>[[116,114,97,112],Lib.itoa k]
 | .halt=>[[104,97,108,116]]
def BC:List By→By
 | []=>[]
 | [a]=>a
 | a::b::r=>a++32::BC (b::r)
def GI.Ae (i:GI):By:=BC i.ws
def QG (t:List GI):By:=AE++10::t.flatMap fun i=>i.Ae++[10]
def DB (ts:List (List GI)):By:=ts.flatMap QG
def Jv (k:Int):Prop:=0≤k∧k≤7
def i64 (v:Int):Prop:= -9223372036854775808≤v∧v≤9223372036854775807
def Ez (a:Ag):Prop:=if a.BF then Jv a.v else i64 a.v
def Qn (BZ:Int):GI→Prop
 | .J9 d a=>Jv d∧Ez a
 | .op n d a b=>n∈Cn∧Jv d∧Ez a∧Ez b
 | .load d a k=>Jv d∧Ez a∧i64 k
 | .store a k b=>Ez a∧i64 k∧Ez b
 | .LL d a k b c=>Jv d∧Ez a∧i64 k∧Ez b∧Ez c
 | .GL d a k b=>Jv d∧Ez a∧i64 k∧Ez b
 | .Mf=>False
 | .out a=>Ez a
 | .Ga q=>0≤q∧q≤BZ
 | .jz a q=>Ez a∧0≤q∧q≤BZ
 | .Eu k=>1≤k∧k≤9
 | .halt=>True
def Ag.rv (a:Ag):SQ:=⟨a.BF,a.v⟩
def GI.Yz:GI→Cm
 | .J9 d a=>{Cm.of ⟨#[109,111,118]⟩ with d:=d,a:=a.rv}
 | .op n d a b=>{Cm.of n with d:=d,a:=a.rv,b:=b.rv}
 | .load d a k=>{Cm.of ⟨#[108,111,97,100]⟩ with d:=d,a:=a.rv,k:=k}
 | .store a k b=>{Cm.of ⟨#[115,116,111,114,101]⟩ with a:=a.rv,k:=k,b:=b.rv}
 | .LL d a k b c=>{Cm.of ⟨#[99,97,115]⟩ with d:=d,a:=a.rv,k:=k,b:=b.rv,c:=c.rv}
 | .GL d a k b=>{Cm.of ⟨#[120,97,100,100]⟩ with d:=d,a:=a.rv,k:=k,b:=b.rv}
 | .Mf=>Cm.of ⟨#[102,101,110,99,101]⟩
 | .out a=>{Cm.of ⟨#[111,117,116]⟩ with a:=a.rv}
 | .Ga q=>{Cm.of ⟨#[106,109,112]⟩ with k:=q}
 | .jz a q=>{Cm.of ⟨#[106,122]⟩ with a:=a.rv,k:=q}
 | .Eu k=>{Cm.of ⟨#[116,114,97,112]⟩ with k:=k}
 | .halt=>Cm.of ⟨#[104,97,108,116]⟩
theorem NF (v:Int):∀c,c∈Lib.itoa v→DZ c∨c=45:=by
 intro c hc;unfold Lib.itoa at hc;split at hc
 ·rcases List.mem_cons.1 hc with rfl | hc
  ·exact .inr rfl
  ·exact .inl (Fi _ c hc)
 ·exact .inl (Fi _ c hc)
theorem kS (v:Int):Lib.itoa v≠[]:=by
 unfold Lib.itoa;split
 ·simp
 ·exact Fc _
theorem Wz {k:Int} (h:Jv k):∃c:UInt8,Lib.itoa k=[c]∧(c.toNat:Int)=48+k:=by
 obtain⟨h1,h2⟩:=h;refine⟨UInt8.ofNat (48+k.toNat),?_,?_⟩
 ·unfold Lib.itoa;rw[if_neg (by omega),Lib.decDigits,dif_pos (by omega)]
 ·rw[UInt8.toNat_ofNat'];omega
theorem Rs {k:Int} (h:Jv k):Kt (FE k)=some k.toNat:=by
 obtain⟨c,hc,hv⟩:=Wz h;obtain⟨h1,h2⟩:=h;unfold FE Kt;rw[hc];simp only[List.length_cons,List.length_nil,List.getD_cons_zero,List.getD_cons_succ];rw[if_pos ⟨trivial,rfl,by omega,by omega⟩];congr 1;omega
theorem YA (v:Int):Kt (Lib.itoa v)=none:=by
 unfold Kt;rw[if_neg];intro h;have h2:=h.2.1;cases hl:Lib.itoa v with
 | nil=>exact kS v hl
 | cons c r=>
  rw[hl] at h2;simp only[List.getD_cons_zero] at h2;rcases NF v c (by rw[hl];exact List.mem_cons_self ..) with h3 | rfl
  ·have:=h3.2;omega
  ·exact absurd h2 (by decide)
theorem OQ {a:Ag} (h:Ez a):Ko (EN a)=some a.rv:=by
 unfold Ez at h;unfold EN Ko Ag.rv;cases hr:a.BF with
 | true=>
  rw[hr] at h;simp only[if_true] at h⊢;rw[Rs h];have:=h.1;simp only[Option.some.injEq,SQ.mk.injEq,true_and];omega
 | false=>
  rw[hr] at h;simp only[Bool.false_eq_true,if_false] at h⊢;rw[YA,Iz a.v h.1 h.2]
theorem ZR (a:ByteArray) (l:List ByteArray):wd (a::l) 0=a:=rfl
theorem RY {k:Int} (h:Jv k) (i:Cm):FO 100 (bs (AA (FE k))) i=({i with d:=k},true):=by
 unfold FO;rw[if_pos (by decide),Cs,Rs h];have:=h.1;simp only[Option.getD_some,Option.isSome_some];rw[show((k.toNat:Nat):Int)=k by omega]
theorem L1 {a:Ag} (h:Ez a) (i:Cm):FO 97 (bs (AA (EN a))) i=({i with a:=a.rv},true):=by
 unfold FO;rw[if_neg (by decide),if_pos (by decide),Cs,OQ h];rfl
theorem Vw {a:Ag} (h:Ez a) (i:Cm):FO 98 (bs (AA (EN a))) i=({i with b:=a.rv},true):=by
 unfold FO;rw[if_neg (by decide),if_neg (by decide),if_pos (by decide),Cs,OQ h];rfl
theorem nQ {a:Ag} (h:Ez a) (i:Cm):FO 99 (bs (AA (EN a))) i=({i with c:=a.rv},true):=by
 unfold FO;rw[if_neg (by decide),if_neg (by decide),if_neg (by decide),if_pos (by decide),Cs,OQ h];rfl
theorem Vv {v:Int} (h:i64 v) (i:Cm):FO 107 (bs (AA (Lib.itoa v))) i=({i with k:=v},true):=by
 unfold FO;rw[if_neg (by decide),if_neg (by decide),if_neg (by decide),if_neg (by decide),if_pos (by decide),Cs,Iz v h.1 h.2];rfl
theorem gp {v:Int} (h0:0≤v) (h1:v≤4000) (i:Cm):FO 116 (bs (AA (Lib.itoa v))) i=({i with k:=v},true):=by
 unfold FO;rw[if_neg (by decide),if_neg (by decide),if_neg (by decide),if_neg (by decide),if_neg (by decide),if_pos (by decide),Cs,Iz v (by omega) (by omega)];simp[h0,h1]
theorem nP {v:Int} (h0:1≤v) (h1:v≤9) (i:Cm):FO 110 (bs (AA (Lib.itoa v))) i=({i with k:=v},true):=by
 unfold FO;rw[if_neg (by decide),if_neg (by decide),if_neg (by decide),if_neg (by decide),if_neg (by decide),if_neg (by decide),if_pos (by decide),Cs,Iz v (by omega) (by omega)];simp[h0,h1]
theorem Dy (x:ByteArray) (r:List ByteArray) (f:By) (hf:bs (FX x)=f) (ly:f≠[63]) (hl:r.length=f.length):D9 (x::r)=M7 f r (.of x):=by
 unfold D9;rw[ZR,hf];have:(FX x).size=f.length:=by rw[←hf,Bu]
 rw[this,if_neg]
 ·rfl
 ·rintro(h | h)
  ·exact ly h
  ·simp only[List.length_cons] at h;omega
theorem BG (f:UInt8) (fs:By) (a:ByteArray) (l:List ByteArray) (i j:Cm) (h:FO f (bs a) i=(j,true)):M7 (f::fs) (a::l) i=M7 fs l j:=by
 rw[M7,ZR,h];rfl
theorem dk (n:ByteArray) (h:n∈Cn):bs (FX n)=[100,97,98]:=by
 have h1:0≤Bf Cn n:=by
  simp only[Cn,List.mem_cons,List.not_mem_nil,or_false] at h;rcases h with rfl | rfl | rfl | rfl | rfl | rfl | rfl | rfl | rfl | rfl | rfl | rfl <;>decide+kernel
 unfold FX;rw[if_pos h1]
theorem gn {BZ:Int} (Eg:BZ≤4000) (i:GI) (h:Qn BZ i):D9 (i.ws.map AA)=some i.Yz:=by
 cases i with
 | J9 d a=>
  show D9 (⟨#[109,111,118]⟩::[AA (FE d),AA (EN a)])=_;rw[Dy _ _ [100,97] (by decide+kernel) (by decide) rfl,BG _ _ _ _ _ _ (RY h.1 _),BG _ _ _ _ _ _ (L1 h.2 _)];rfl
 | op n d a b=>
  show D9 (AA (bs n)::[AA (FE d),AA (EN a),AA (EN b)])=_;rw[QF,Dy _ _ [100,97,98] (dk n h.1) (by decide) rfl,BG _ _ _ _ _ _ (RY h.2.1 _),BG _ _ _ _ _ _ (L1 h.2.2.1 _),BG _ _ _ _ _ _ (Vw h.2.2.2 _)];rfl
 | load d a k=>
  show D9 (⟨#[108,111,97,100]⟩::[AA (FE d),AA (EN a),AA (Lib.itoa k)])=_;rw[Dy _ _ [100,97,107] (by decide+kernel) (by decide) rfl,BG _ _ _ _ _ _ (RY h.1 _),BG _ _ _ _ _ _ (L1 h.2.1 _),BG _ _ _ _ _ _ (Vv h.2.2 _)];rfl
 | store a k b=>
  show D9 (⟨#[115,116,111,114,101]⟩::[AA (EN a),AA (Lib.itoa k),AA (EN b)])=_;rw[Dy _ _ [97,107,98] (by decide+kernel) (by decide) rfl,BG _ _ _ _ _ _ (L1 h.1 _),BG _ _ _ _ _ _ (Vv h.2.1 _),BG _ _ _ _ _ _ (Vw h.2.2 _)];rfl
 | LL d a k b c=>
  show D9 (⟨#[99,97,115]⟩::[AA (FE d),AA (EN a),AA (Lib.itoa k),AA (EN b),AA (EN c)])=_;rw[Dy _ _ [100,97,107,98,99] (by decide+kernel) (by decide) rfl,BG _ _ _ _ _ _ (RY h.1 _),BG _ _ _ _ _ _ (L1 h.2.1 _),BG _ _ _ _ _ _ (Vv h.2.2.1 _),BG _ _ _ _ _ _ (Vw h.2.2.2.1 _),BG _ _ _ _ _ _ (nQ h.2.2.2.2 _)];rfl
 | GL d a k b=>
  show D9 (⟨#[120,97,100,100]⟩::[AA (FE d),AA (EN a),AA (Lib.itoa k),AA (EN b)])=_;rw[Dy _ _ [100,97,107,98] (by decide+kernel) (by decide) rfl,BG _ _ _ _ _ _ (RY h.1 _),BG _ _ _ _ _ _ (L1 h.2.1 _),BG _ _ _ _ _ _ (Vv h.2.2.1 _),BG _ _ _ _ _ _ (Vw h.2.2.2 _)];rfl
 | Mf=>
  show D9 (⟨#[102,101,110,99,101]⟩::[])=_;rw[Dy _ _ [] (by decide+kernel) (by decide) rfl];rfl
 | out a=>
  show D9 (⟨#[111,117,116]⟩::[AA (EN a)])=_;rw[Dy _ _ [97] (by decide+kernel) (by decide) rfl,BG _ _ _ _ _ _ (L1 h _)];rfl
 | Ga q=>
  show D9 (⟨#[106,109,112]⟩::[AA (Lib.itoa q)])=_;rw[Dy _ _ [116] (by decide+kernel) (by decide) rfl,BG _ _ _ _ _ _ (gp h.1 (by have:=h.2;omega) _)];rfl
 | jz a q=>
  show D9 (⟨#[106,122]⟩::[AA (EN a),AA (Lib.itoa q)])=_;rw[Dy _ _ [97,116] (by decide+kernel) (by decide) rfl,BG _ _ _ _ _ _ (L1 h.1 _),BG _ _ _ _ _ _ (gp h.2.1 (by have:=h.2.2;omega) _)];rfl
 | Eu k=>
  show D9 (⟨#[116,114,97,112]⟩::[AA (Lib.itoa k)])=_;rw[Dy _ _ [110] (by decide+kernel) (by decide) rfl,BG _ _ _ _ _ _ (nP h.1 h.2 _)];rfl
 | halt=>
  show D9 (⟨#[104,97,108,116]⟩::[])=_;rw[Dy _ _ [] (by decide+kernel) (by decide) rfl];rfl
theorem U9 (s:UInt8):∀(l:List By),l≠[]→(∀p,p∈l→s∉p)→Ay s (List.intercalate [s] l)=l:=by
 have qK:∀(p:By),s∉p→Ay s p=[p]:=by
  intro p;induction p with
  | nil=>intro _;rfl
  | cons c r ih=>
   intro h;simp only[List.mem_cons,not_or] at h;rw[Gj _ _ _ (fun e=>h.1 e.symm),ih h.2];rfl
 have nL:∀(p:By) (r:By),s∉p→Ay s (p++s::r)=p::Ay s r:=by
  intro p r;induction p with
  | nil=>intro _;rw[List.nil_append];have:=QS s [] r;rw[KC _ (Cc _ _)] at this;exact this
  | cons c q ih=>
   intro h;simp only[List.mem_cons,not_or] at h;rw[List.cons_append,Gj _ _ _ (fun e=>h.1 e.symm),ih h.2];rfl
 intro l;induction l with
 | nil=>intro h;exact absurd rfl h
 | cons p r ih=>
  intro _ h;cases r with
  | nil=>simp only[List.intercalate_singleton];exact qK p (h p (List.mem_cons_self ..))
  | cons q r=>
   have e:List.intercalate [s] (p::q::r)=p++s::List.intercalate [s] (q::r):=by simp[List.intercalate,List.intersperse]
   rw[e,nL p _ (h p (List.mem_cons_self ..)),ih (by simp) fun x hx=>h x (List.mem_cons_of_mem _ hx)]
theorem N2 (s:UInt8) (p r:By) (h:s∉p):Ay s (p++s::r)=p::Ay s r:=by
 induction p with
 | nil=>rw[List.nil_append];have:=QS s [] r;rw[KC _ (Cc _ _)] at this;exact this
 | cons c q ih=>
  simp only[List.mem_cons,not_or] at h;rw[List.cons_append,Gj _ _ _ (fun e=>h.1 e.symm),ih h.2];rfl
theorem gi (l:List By):BC l=List.intercalate [32] l:=by
 induction l with
 | nil=>rfl
 | cons a r ih=>
  cases r with
  | nil=>simp[BC]
  | cons b r=>simp only[BC,ih];simp[List.intercalate,List.intersperse]
def UF (p:By):Prop:=(32:UInt8)∉p∧(10:UInt8)∉p
theorem Gv (v:Int):UF (Lib.itoa v):=by
 constructor
 ·intro h;rcases NF v _ h with h | h
  ·exact absurd h (by decide)
  ·exact absurd h (by decide)
 ·intro h;rcases NF v _ h with h | h
  ·exact absurd h (by decide)
  ·exact absurd h (by decide)
theorem Gu (v:Int):UF (FE v):=by
 obtain⟨h1,h2⟩:=Gv v;exact⟨fun h=>by rcases List.mem_cons.1 h with h | h;exact absurd h (by decide);exact h1 h,fun h=>by rcases List.mem_cons.1 h with h | h;exact absurd h (by decide);exact h2 h⟩
theorem Ih (a:Ag):UF (EN a):=by
 unfold EN;split
 ·exact Gu _
 ·exact Gv _
instance sK (p:By):Decidable (UF p):=inferInstanceAs (Decidable (_∧_))
theorem Xz {BZ:Int} (i:GI) (h:Qn BZ i):i.ws≠[]∧∀p,p∈i.ws→UF p:=by
 have hv:∀n,n∈Cn→UF (bs n):=by decide+kernel
 constructor
 ·cases i <;>simp[GI.ws]
 ·intro p hp;cases i <;>simp only[GI.ws,List.mem_cons,List.not_mem_nil,or_false] at hp;case op n d a b=>
   rcases hp with rfl | rfl | rfl | rfl
   ·exact hv n h.1
   ·exact Gu _
   ·exact Ih _
   ·exact Ih _
  all_goals
   first
    | (rcases hp with rfl | rfl | rfl | rfl | rfl | rfl <;>first | exact Gv _ | exact Gu _ | exact Ih _ | decide+kernel)
    | (rcases hp with rfl | rfl | rfl | rfl | rfl <;>first | exact Gv _ | exact Gu _ | exact Ih _ | decide+kernel)
    | (rcases hp with rfl | rfl | rfl | rfl <;>first | exact Gv _ | exact Gu _ | exact Ih _ | decide+kernel)
    | (rcases hp with rfl | rfl | rfl <;>first | exact Gv _ | exact Gu _ | exact Ih _ | decide+kernel)
    | (rcases hp with rfl | rfl <;>first | exact Gv _ | exact Gu _ | exact Ih _ | decide+kernel)
    | (subst hp;decide+kernel)
theorem X6 {BZ:Int} (i:GI) (h:Qn BZ i):Bv i.Ae=i.ws.map AA:=by
 obtain⟨h1,h2⟩:=Xz i h;unfold Bv GI.Ae;rw[gi,U9 32 _ h1 fun p hp=>(h2 p hp).1]
theorem gj (l:List By) (h:∀p,p∈l→(10:UInt8)∉p):(10:UInt8)∉BC l:=by
 induction l with
 | nil=>simp[BC]
 | cons a r ih=>
  cases r with
  | nil=>simpa[BC] using h
  | cons b r=>
   have:=ih fun p hp=>h p (List.mem_cons_of_mem _ hp)
   have ha:=h a (List.mem_cons_self ..);simp only[BC,List.mem_append,List.mem_cons,not_or];exact⟨ha,by decide,this⟩
theorem kO {BZ:Int} (i:GI) (h:Qn BZ i):(10:UInt8)∉i.Ae:=gj _ fun p hp=>((Xz i h).2 p hp).2
def RT (t:List GI):List By:=AE::t.map GI.Ae
theorem cm {BZ:Int} (t:List GI) (h:∀i,i∈t→Qn BZ i) (r:By):Ay 10 (t.flatMap (fun i=>i.Ae++[10])++r)=t.map GI.Ae++Ay 10 r:=by
 induction t with
 | nil=>rfl
 | cons i t ih=>
  simp only[List.flatMap_cons,List.append_assoc,List.map_cons,List.cons_append,List.nil_append];rw[N2 10 _ _ (kO i (h i (List.mem_cons_self ..))),ih fun j hj=>h j (List.mem_cons_of_mem _ hj)]
theorem YS {BZ:Int} (ts:List (List GI)) (h:∀t,t∈ts→∀i,i∈t→Qn BZ i):Ay 10 (DB ts)=ts.flatMap RT++[[]]:=by
 induction ts with
 | nil=>rfl
 | cons t ts ih=>
  unfold DB at ih⊢;simp only[List.flatMap_cons,QG,RT,List.append_assoc,List.cons_append];rw[N2 10 AE _ (by decide),cm t (h t (List.mem_cons_self ..)),ih fun u hu=>h u (List.mem_cons_of_mem _ hu)]
theorem fe {BZ:Int} (Eg:BZ≤4000) (M:EW) (ts:List VZ) (t:VZ) (ht:M.ts=ts++[t]) (i:GI) (h:Qn BZ i) (hl:t.Af.length < 4000):Oa M (Bv i.Ae)= .ok {M with ts:=ts++[{t with Af:=t.Af++[i.Yz]}]}:=by
 have hi:=gn Eg i h;have hn:¬((i.ws.map AA).length=1∧bs (wd (i.ws.map AA) 0)=AE):=by
  rintro⟨h1,h2⟩;cases i <;>simp[GI.ws] at h1 <;>(revert h2;decide+kernel)
 rw[X6 i h];unfold Oa;rw[if_neg hn,hi];simp only[ht,List.getLast?_append,List.getLast?_singleton,Option.some_or,List.dropLast_concat];rw[if_neg (by omega)]
theorem fa (M:EW) (h:M.ts.length < 3):Oa M (Bv AE)= .ok {M with ts:=M.ts++[.new]}:=by
 have e:Bv AE=[AA AE]:=by decide+kernel
 rw[e];unfold Oa;rw[if_pos ⟨rfl,by decide+kernel⟩,if_neg (by omega)]
theorem YQ {BZ:Int} (Eg:BZ≤4000) (t:List GI) (h:∀i,i∈t→Qn BZ i):∀(q:By) (r:List By) (n:Nat) (M:EW) (ts:List VZ) (x:VZ),M.ts=ts++[x]→x.Af.length+t.length≤4000→
  Ev (t.map GI.Ae++q::r) n M=Ev (q::r) (n+t.length) {M with ts:=ts++[{x with Af:=x.Af++t.map GI.Yz}]}:=by
 induction t with
 | nil=>
  intro q r n M ts x hx _;simp only[List.map_nil,List.nil_append,List.length_nil,Nat.add_zero,List.append_nil];obtain⟨m,s⟩:=M;obtain rfl:s=ts++[x]:=hx;rfl
 | cons i t ih=>
  intro q r n M ts x hx hl;simp only[List.length_cons] at hl;have h1:=fe Eg M ts x hx i (h i (List.mem_cons_self ..)) (by omega);have h2:=ih (fun j hj=>h j (List.mem_cons_of_mem _ hj)) q r (n+1) {M with ts:=ts++[{x with Af:=x.Af++[i.Yz]}]} ts _ rfl (by simp;omega);have e:∀(a b:By) (l:List By),Ev (a::b::l) n M=match Oa M (Bv a) with | .error c=> .error (c,n+1) | .ok M'=>Ev (b::l) (n+1) M':=fun _ _ _=>rfl
  obtain⟨b,l,Ey⟩:∃b l,t.map GI.Ae++q::r=b::l:=by
   cases t with
   | nil=>exact⟨q,r,rfl⟩
   | cons j t=>exact⟨_,_,rfl⟩
  simp only[List.map_cons,List.cons_append];rw[Ey] at h2⊢;rw[e,h1];simp only[];rw[h2];simp only[List.append_assoc,List.cons_append,List.nil_append,List.length_cons];rw[show n+1+t.length=n+(t.length+1) by omega]
def j7 (c:List Cm):VZ:={VZ.new with Af:=c}
theorem WY {BZ:Int} (Eg:BZ≤4000) (ts:List (List GI)) (h:∀t,t∈ts→t.length≤4000∧∀i,i∈t→Qn BZ i):∀(n:Nat) (M:EW),(ts=[]→0 < n)→M.ts.length+ts.length≤3→
  Ev (ts.flatMap RT++[[]]) n M= .ok {M with ts:=M.ts++ts.map fun t=>j7 (t.map GI.Yz)}:=by
 induction ts with
 | nil=>
  intro n M hn _;have:=hn rfl;show Ev [[]] n M=_;unfold Ev;rw[if_pos ⟨rfl,this⟩];simp
 | cons t ts ih=>
  intro n M _ hl;simp only[List.length_cons] at hl;have ht:=h t (List.mem_cons_self ..);have h1:=fa M (by omega);obtain⟨q,r,gJ⟩:∃q r,ts.flatMap RT++[[]]=q::r:=by
   cases ts with
   | nil=>exact⟨_,_,rfl⟩
   | cons u us=>exact⟨_,_,rfl⟩
  have h2:=YQ Eg t ht.2 q r (n+1) {M with ts:=M.ts++[.new]} M.ts .new rfl (by show 0+t.length≤4000;omega);have e:∀(a b:By) (l:List By),Ev (a::b::l) n M=match Oa M (Bv a) with | .error c=> .error (c,n+1) | .ok M'=>Ev (b::l) (n+1) M':=fun _ _ _=>rfl
  obtain⟨b,l,Ey⟩:∃b l,t.map GI.Ae++q::r=b::l:=by
   cases t with
   | nil=>exact⟨q,r,rfl⟩
   | cons j t=>exact⟨_,_,rfl⟩
  simp only[List.flatMap_cons,RT,List.cons_append,List.append_assoc];rw[gJ,Ey,e,h1];simp only[];rw[←Ey,h2,←gJ,ih (fun u hu=>h u (List.mem_cons_of_mem _ hu)) _ _ (fun _=>by omega) (by simp;omega)];simp[j7,VZ.new]
theorem ck {BZ:Int} (Eg:BZ≤4000) (ts:List (List GI)) (BQ:ts≠[]) (h3:ts.length≤3) (h:∀t,t∈ts→t.length≤4000∧∀i,i∈t→Qn BZ i) (hl:(DB ts).length≤131072):
  Ky (DB ts)= .ok ⟨List.replicate 256 0,ts.map fun t=>j7 (t.map GI.Yz)⟩:=by
 unfold Ky;rw[if_neg (by omega),YS ts fun t ht=>(h t ht).2,WY Eg ts h 0 _ (fun e=>absurd e BQ) (by simpa using h3)];simp only[List.nil_append]
end Go.Proofs.YtpdfifdlhpmofaaGreatDoor
