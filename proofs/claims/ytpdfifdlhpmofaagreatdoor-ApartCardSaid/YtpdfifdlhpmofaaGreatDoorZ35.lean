/-
  Part 35 of the proof.
-/
import Derived.Test.YtpdfifdlhpmofaaGreatDoorZ22
import Derived.Test.YtpdfifdlhpmofaaGreatDoorZ13
import Derived.Test.YtpdfifdlhpmofaaGreatDoorZ31
import Derived.Test.YtpdfifdlhpmofaaGreatDoorZ28
set_option linter.unusedVariables false
set_option linter.unusedSimpArgs false
set_option maxHeartbeats 3200000
set_option maxRecDepth 100000
namespace Go.Proofs.YtpdfifdlhpmofaaGreatDoor
open Go.RowKit
open Go.Lib (hid)
theorem maz {p:Prop} (h:p:=by
 simp only[CU,Dz,Xu,U4,and_true];refine⟨⟨?_,?_,?_⟩,⟨?_,?_,?_⟩,?_,?_,?_⟩ <;>first | exact Lw _ Y | exact J5 _ Y | (unfold Jp;omega) | (unfold sN;omega) | omega):p:=h
theorem maJ {p:Prop} (h:p:=by
 simp[CR,GI.Ae,GI.ws,BE];omega):p:=h
theorem maN {p:Prop} (h:p:=by
 intro f m hf n;induction n with
 | zero=>intro p;simp[El]
 | succ n ih=>intro p;simp only[El,V,ih,hf];rw[Qdg,Nat.one_mul]):p:=h
theorem ma7 {p:Prop} (h:p:=by
 simp only[CU,Dz,Xu,U4,and_true];refine⟨⟨?_,?_,?_⟩,⟨?_,?_,?_⟩,⟨?_,?_,?_⟩,?_,?_,?_⟩ <;>first | exact Lw _ Y | exact J5 _ Y | (unfold Jp;omega) | (unfold sN;omega) | omega):p:=h
theorem mbj {p:Prop} (h:p:=by
 simp only[CU,Dz,Xu,U4,and_true];refine⟨⟨?_,?_,?_⟩,?_,?_,?_⟩ <;>first | exact Lw _ Y | exact J5 _ Y | (unfold Jp;omega) | (unfold sN;omega) | omega):p:=h
theorem mbD {p:Prop} (h:p:=by
 simp only[bytesOf,_root_.Go.Proofs.YtpdfifdlhpmofaaGreatDoor.rz,d8,List.sum_cons,IR] at this⊢;omega):p:=h
theorem mb0 {p:Prop} (h:p:=by
 simp only[Pi,not_or] at h;rw[WP,Hy _ _ _ (fun e=>h.1 e.symm),ih h.2];rfl):p:=h
theorem mb9 {p:Prop} (h:p:=by
 intro h;rcases QE v _ h with h | h
 ·exact UV h AC
 ·exact UV h AC):p:=h
theorem mcd {p:Prop} (h:p:=by
 have h4:=Vw h.1;simp only[CR,GI.Ae,GI.ws,BE,V,IR];omega):p:=h
variable {k v Cc cells:Int} {a:Ag} {l:List LI} {b:Nat} {y:qr} {p:RP}
def Gj (k:Int):By:=114::Lib.itoa k
def Fk (a:Ag):By:=if a.B0 then Gj a.v else Lib.itoa a.v
def GI.ws:GI->List By
 | .Sq d a=>[[109,111,118],Gj d,Fk a]
 | .op n d a b=>[bs n,Gj d,Fk a,Fk b]
 | .load d a k=>[[108,111,97,100],Gj d,Fk a,Lib.itoa k]
 | .store a k b=>[[115,116,111,114,101],Fk a,Lib.itoa k,Fk b]
 | .JL d a k b c=>[[99,97,115],Gj d,Fk a,Lib.itoa k,Fk b,Fk c]
 | .DL d a k b=>[[120,97,100,100],Gj d,Fk a,Lib.itoa k,Fk b]
 | .IV=>[[102,101,110,99,101]]
 | .out a=>[[111,117,116],Fk a]
 | .Gb q=>[[106,109,112],Lib.itoa q]
 | .jz a q=>[[106,122],Fk a,Lib.itoa q]
 | .EF k=>[[116,114,97,112],Lib.itoa k]
 | .halt=>[[104,97,108,116]]
def BE:List By->By
 | []=>[]
 | [a]=>a
 | a::b::r=>a++32::BE (b::r)
def GI.Ae (i:GI):By:=BE i.ws
def U0 (t:List GI):By:=AE++10::t.flatMap fun i=>i.Ae++[10]
def DY (ts:List (List GI)):By:=ts.flatMap U0
def Jp (k:Int):Prop:=0<=k/\k<=7
def i64 (v:Int):Prop:= -9223372036854775808<=v/\v<=9223372036854775807
def Ed (a:Ag):Prop:=if a.B0 then Jp a.v else i64 a.v
def Px (Cc:Int):GI->Prop
 | .Sq d a=>Jp d/\Ed a
 | .op n d a b=>n∈Cj/\Jp d/\Ed a/\Ed b
 | .load d a k=>Jp d/\Ed a/\i64 k
 | .store a k b=>Ed a/\i64 k/\Ed b
 | .JL d a k b c=>Jp d/\Ed a/\i64 k/\Ed b/\Ed c
 | .DL d a k b=>Jp d/\Ed a/\i64 k/\Ed b
 | .IV=>False
 | .out a=>Ed a
 | .Gb q=>0<=q/\q<=Cc
 | .jz a q=>Ed a/\0<=q/\q<=Cc
 | .EF k=>1<=k/\k<=9
 | .halt=>True
def Ag.rv (a:Ag):OV:=⟨a.B0,a.v⟩
def GI.DR:GI->Bj
 | .Sq d a=>{Bj.of ⟨#[109,111,118]⟩ with d:=d,a:=a.rv}
 | .op n d a b=>{Bj.of n with d:=d,a:=a.rv,b:=b.rv}
 | .load d a k=>{Bj.of ⟨#[108,111,97,100]⟩ with d:=d,a:=a.rv,k:=k}
 | .store a k b=>{Bj.of ⟨#[115,116,111,114,101]⟩ with a:=a.rv,k:=k,b:=b.rv}
 | .JL d a k b c=>{Bj.of ⟨#[99,97,115]⟩ with d:=d,a:=a.rv,k:=k,b:=b.rv,c:=c.rv}
 | .DL d a k b=>{Bj.of ⟨#[120,97,100,100]⟩ with d:=d,a:=a.rv,k:=k,b:=b.rv}
 | .IV=>Bj.of ⟨#[102,101,110,99,101]⟩
 | .out a=>{Bj.of ⟨#[111,117,116]⟩ with a:=a.rv}
 | .Gb q=>{Bj.of ⟨#[106,109,112]⟩ with k:=q}
 | .jz a q=>{Bj.of ⟨#[106,122]⟩ with a:=a.rv,k:=q}
 | .EF k=>{Bj.of ⟨#[116,114,97,112]⟩ with k:=k}
 | .halt=>Bj.of ⟨#[104,97,108,116]⟩
theorem QE (v:Int):∀c,c∈Lib.itoa v->Er c\/c=45:=by
 intro c hc;unfold Lib.itoa at hc;split at hc
 ·rcases Pi.1 hc with rfl | hc
  ·exact .inr rfl
  ·exact .inl (FP _ c hc)
 ·exact .inl (FP _ c hc)
theorem yP (v:Int):Lib.itoa v≠[]:=by
 unfold Lib.itoa;split
 ·simp
 ·exact FC _
theorem da (h:Jp k):∃c:UInt8,Lib.itoa k=[c]/\(c.toNat:Int)=48+k:=by
 obtain⟨h1,h2⟩:=h;refine⟨UInt8.ofNat (48+k.toNat),?_,?_⟩
 ·unfold Lib.itoa;rw[I Y,Lib.decDigits,dif_pos Y]
 ·exact mcg
theorem VU (h:Jp k):LX (Gj k)=some k.toNat:=by
 obtain⟨c,hc,hv⟩:=da h;obtain⟨h1,h2⟩:=h;unfold Gj LX;rw[hc];simp only[IR,m7,Qdm,Qdn];rw[In ⟨trivial,rfl,Y,Y⟩];congr 1;omega
theorem gN (v:Int):LX (Lib.itoa v)=none:=by
 unfold LX;rw[I];intro h;have h2:=h.2.1;cases hl:Lib.itoa v with
 | nil=>exact yP v hl
 | cons c r=>
  rw[hl] at h2;simp only[Qdm] at h2;rcases QE v c (by rw[hl];exact J ..) with h3 | rfl
  ·have:=h3.2;omega
  ·exact UV h2 AC
theorem Sy (h:Ed a):LM (Fk a)=some a.rv:=by
 unfold Ed at h;unfold Fk LM Ag.rv;cases hr:a.B0 with
 | true=>
  rw[hr] at h;simp only[Qau] at h⊢;rw[VU h];have:=h.1;simp only[Option.some.injEq,OV.mk.injEq,true_and];omega
 | false=>
  rw[hr] at h;simp only[Qah,y4] at h⊢;rw[gN,Jy a.v h.1 h.2]
theorem j7 (a:ByteArray) (l:List ByteArray):wd (a::l) 0=a:=rfl
theorem Wu (h:Jp k) (i:Bj):Gs 100 (bs (Ay (Gj k))) i=({i with d:=k},true):=by
 unfold Gs;rw[In AC,Cw,VU h];have:=h.1;simp only[Qbp,Qce];rw[show((k.toNat:Nat):Int)=k by omega]
theorem Oq (h:Ed a) (i:Bj):Gs 97 (bs (Ay (Fk a))) i=({i with a:=a.rv},true):=by
 unfold Gs;rw[I AC,In AC,Cw,Sy h];rfl
theorem aU (h:Ed a) (i:Bj):Gs 98 (bs (Ay (Fk a))) i=({i with b:=a.rv},true):=by
 unfold Gs;rw[I AC,I AC,In AC,Cw,Sy h];rfl
theorem AbE (h:Ed a) (i:Bj):Gs 99 (bs (Ay (Fk a))) i=({i with c:=a.rv},true):=by
 unfold Gs;rw[I AC,I AC,I AC,In AC,Cw,Sy h];rfl
theorem aT (h:i64 v) (i:Bj):Gs 107 (bs (Ay (Lib.itoa v))) i=({i with k:=v},true):=by
 unfold Gs;rw[I AC,I AC,I AC,I AC,In AC,Cw,Jy v h.1 h.2];rfl
theorem tR (h0:0<=v) (h1:v<=4000) (i:Bj):Gs 116 (bs (Ay (Lib.itoa v))) i=({i with k:=v},true):=by
 unfold Gs;rw[I AC,I AC,I AC,I AC,I AC,In AC,Cw,Jy v Y Y];simp[h0,h1]
theorem AbD (h0:1<=v) (h1:v<=9) (i:Bj):Gs 110 (bs (Ay (Lib.itoa v))) i=({i with k:=v},true):=by
 unfold Gs;rw[I AC,I AC,I AC,I AC,I AC,I AC,In AC,Cw,Jy v Y Y];simp[h0,h1]
theorem DT (x:ByteArray) (r:List ByteArray) (f:By) (hf:bs (GH x)=f) (zD:f≠[63]) (hl:r.length=f.length):Ez (x::r)=PZ f r (.of x):=by
 unfold Ez;rw[j7,hf];have:(GH x).size=f.length:=by rw[<-hf,Bw]
 rw[this,I]
 ·rfl
 ·rintro(h | h)
  ·exact zD h
  ·simp only[IR] at h;omega
theorem BK (f:UInt8) (fs:By) (a:ByteArray) (l:List ByteArray) (i j:Bj) (h:Gs f (bs a) i=(j,true)):PZ (f::fs) (a::l) i=PZ fs l j:=by
 rw[PZ,j7,h];rfl
theorem oX (n:ByteArray) (h:n∈Cj):bs (GH n)=[100,97,98]:=by
 have h1:0<=A6 Cj n:=by
  simp only[Cj,Pi,Qap,or_false] at h;rcases h with rfl | rfl | rfl | rfl | rfl | rfl | rfl | rfl | rfl | rfl | rfl | rfl <;>decide+kernel
 unfold GH;rw[In h1]
theorem tQ (D3:Cc<=4000) (i:GI) (h:Px Cc i):Ez (i.ws.map Ay)=some i.DR:=by
 cases i with
 | Sq d a=>
  show Ez (⟨#[109,111,118]⟩::[Ay (Gj d),Ay (Fk a)])=_;rw[DT _ _ [100,97] (by decide+kernel) AC rfl,BK _ _ _ _ _ _ (Wu h.1 _),BK _ _ _ _ _ _ (Oq h.2 _)];rfl
 | op n d a b=>
  show Ez (Ay (bs n)::[Ay (Gj d),Ay (Fk a),Ay (Fk b)])=_;rw[UZ,DT _ _ [100,97,98] (oX n h.1) AC rfl,BK _ _ _ _ _ _ (Wu h.2.1 _),BK _ _ _ _ _ _ (Oq h.2.2.1 _),BK _ _ _ _ _ _ (aU h.2.2.2 _)];rfl
 | load d a k=>
  show Ez (⟨#[108,111,97,100]⟩::[Ay (Gj d),Ay (Fk a),Ay (Lib.itoa k)])=_;rw[DT _ _ [100,97,107] (by decide+kernel) AC rfl,BK _ _ _ _ _ _ (Wu h.1 _),BK _ _ _ _ _ _ (Oq h.2.1 _),BK _ _ _ _ _ _ (aT h.2.2 _)];rfl
 | store a k b=>
  show Ez (⟨#[115,116,111,114,101]⟩::[Ay (Fk a),Ay (Lib.itoa k),Ay (Fk b)])=_;rw[DT _ _ [97,107,98] (by decide+kernel) AC rfl,BK _ _ _ _ _ _ (Oq h.1 _),BK _ _ _ _ _ _ (aT h.2.1 _),BK _ _ _ _ _ _ (aU h.2.2 _)];rfl
 | JL d a k b c=>
  show Ez (⟨#[99,97,115]⟩::[Ay (Gj d),Ay (Fk a),Ay (Lib.itoa k),Ay (Fk b),Ay (Fk c)])=_;rw[DT _ _ [100,97,107,98,99] (by decide+kernel) AC rfl,BK _ _ _ _ _ _ (Wu h.1 _),BK _ _ _ _ _ _ (Oq h.2.1 _),BK _ _ _ _ _ _ (aT h.2.2.1 _),BK _ _ _ _ _ _ (aU h.2.2.2.1 _),BK _ _ _ _ _ _ (AbE h.2.2.2.2 _)];rfl
 | DL d a k b=>
  show Ez (⟨#[120,97,100,100]⟩::[Ay (Gj d),Ay (Fk a),Ay (Lib.itoa k),Ay (Fk b)])=_;rw[DT _ _ [100,97,107,98] (by decide+kernel) AC rfl,BK _ _ _ _ _ _ (Wu h.1 _),BK _ _ _ _ _ _ (Oq h.2.1 _),BK _ _ _ _ _ _ (aT h.2.2.1 _),BK _ _ _ _ _ _ (aU h.2.2.2 _)];rfl
 | IV=>
  show Ez (⟨#[102,101,110,99,101]⟩::[])=_;rw[DT _ _ [] (by decide+kernel) AC rfl];rfl
 | out a=>
  show Ez (⟨#[111,117,116]⟩::[Ay (Fk a)])=_;rw[DT _ _ [97] (by decide+kernel) AC rfl,BK _ _ _ _ _ _ (Oq h _)];rfl
 | Gb q=>
  show Ez (⟨#[106,109,112]⟩::[Ay (Lib.itoa q)])=_;rw[DT _ _ [116] (by decide+kernel) AC rfl,BK _ _ _ _ _ _ (tR h.1 (by have:=h.2;omega) _)];rfl
 | jz a q=>
  show Ez (⟨#[106,122]⟩::[Ay (Fk a),Ay (Lib.itoa q)])=_;rw[DT _ _ [97,116] (by decide+kernel) AC rfl,BK _ _ _ _ _ _ (Oq h.1 _),BK _ _ _ _ _ _ (tR h.2.1 (by have:=h.2.2;omega) _)];rfl
 | EF k=>
  show Ez (⟨#[116,114,97,112]⟩::[Ay (Lib.itoa k)])=_;rw[DT _ _ [110] (by decide+kernel) AC rfl,BK _ _ _ _ _ _ (AbD h.1 h.2 _)];rfl
 | halt=>
  show Ez (⟨#[104,97,108,116]⟩::[])=_;rw[DT _ _ [] (by decide+kernel) AC rfl];rfl
theorem ad (s:UInt8):∀(l:List By),l≠[]->(∀p,p∈l->s∉p)->Ax s (List.intercalate [s] l)=l:=by
 have Xx:∀(p:By),s∉p->Ax s p=[p]:=by
  intro p;induction p with
  | nil=>intro _;rfl
  | cons c r ih=>
   intro h;simp only[Pi,not_or] at h;rw[Hy _ _ _ (fun e=>h.1 e.symm),ih h.2];rfl
 have dC:∀(p:By) (r:By),s∉p->Ax s (p++s::r)=p::Ax s r:=by
  intro p r;induction p with
  | nil=>intro _;rw[Qak];have:=Vi s [] r;rw[Mc _ (Cb _ _)] at this;exact this
  | cons c q ih=>
   intro h;exact mb0
 intro l;induction l with
 | nil=>intro h;exact UV rfl h
 | cons p r ih=>
  intro _ h;cases r with
  | nil=>simp only[List.intercalate_singleton];exact Xx p (h p (J ..))
  | cons q r=>
   have e:List.intercalate [s] (p::q::r)=p++s::List.intercalate [s] (q::r):=by simp[List.intercalate,List.intersperse]
   rw[e,dC p _ (h p (J ..)),ih EQ fun x hx=>h x (U _ hx)]
theorem Rf (s:UInt8) (p r:By) (h:s∉p):Ax s (p++s::r)=p::Ax s r:=by
 induction p with
 | nil=>rw[Qak];have:=Vi s [] r;rw[Mc _ (Cb _ _)] at this;exact this
 | cons c q ih=>
  exact mb0
theorem tJ (l:List By):BE l=List.intercalate [32] l:=by
 induction l with
 | nil=>rfl
 | cons a r ih=>
  cases r with
  | nil=>simp[BE]
  | cons b r=>simp only[BE,ih];simp[List.intercalate,List.intersperse]
def Mh (p:By):Prop:=(32:UInt8)∉p/\(10:UInt8)∉p
theorem Ii (v:Int):Mh (Lib.itoa v):=by
 constructor
 ·exact mb9
 ·exact mb9
theorem Ih (v:Int):Mh (Gj v):=by
 obtain⟨h1,h2⟩:=Ii v;exact⟨fun h=>by rcases Pi.1 h with h | h;exact UV h AC;exact h1 h,fun h=>by rcases Pi.1 h with h | h;exact UV h AC;exact h2 h⟩
theorem Jf (a:Ag):Mh (Fk a):=by
 unfold Fk;split
 ·exact Ih _
 ·exact Ii _
instance Aen (p:By):Decidable (Mh p):=inferInstanceAs (Decidable (_/\_))
theorem fk (i:GI) (h:Px Cc i):i.ws≠[]/\∀p,p∈i.ws->Mh p:=by
 have hv:∀n,n∈Cj->Mh (bs n):=by decide+kernel
 constructor
 ·cases i <;>simp[GI.ws]
 ·intro p hp;cases i <;>simp only[GI.ws,Pi,Qap,or_false] at hp;case op n d a b=>
   rcases hp with rfl | rfl | rfl | rfl
   ·exact hv n h.1
   ·exact Ih _
   ·exact Jf _
   ·exact Jf _
  all_goals
   first
    | (rcases hp with rfl | rfl | rfl | rfl | rfl | rfl <;>first | exact Ii _ | exact Ih _ | exact Jf _ | decide+kernel)
    | (rcases hp with rfl | rfl | rfl | rfl | rfl <;>first | exact Ii _ | exact Ih _ | exact Jf _ | decide+kernel)
    | (rcases hp with rfl | rfl | rfl | rfl <;>first | exact Ii _ | exact Ih _ | exact Jf _ | decide+kernel)
    | (rcases hp with rfl | rfl | rfl <;>first | exact Ii _ | exact Ih _ | exact Jf _ | decide+kernel)
    | (rcases hp with rfl | rfl <;>first | exact Ii _ | exact Ih _ | exact Jf _ | decide+kernel)
    | (subst hp;decide+kernel)
theorem gd (i:GI) (h:Px Cc i):Bn i.Ae=i.ws.map Ay:=by
 obtain⟨h1,h2⟩:=fk i h;unfold Bn GI.Ae;rw[tJ,ad 32 _ h1 fun p hp=>(h2 p hp).1]
theorem tK (l:List By) (h:∀p,p∈l->(10:UInt8)∉p):(10:UInt8)∉BE l:=by
 induction l with
 | nil=>simp[BE]
 | cons a r ih=>
  cases r with
  | nil=>simpa[BE] using h
  | cons b r=>
   have:=ih fun p hp=>h p (U _ hp)
   have ha:=h a (J ..);simp only[BE,Nm,Pi,not_or];exact⟨ha,AC,this⟩
theorem yJ (i:GI) (h:Px Cc i):(10:UInt8)∉i.Ae:=tK _ fun p hp=>((fk i h).2 p hp).2
def Wn (t:List GI):List By:=AE::t.map GI.Ae
theorem n7 (t:List GI) (h:∀i,i∈t->Px Cc i) (r:By):Ax 10 (t.flatMap (fun i=>i.Ae++[10])++r)=t.map GI.Ae++Ax 10 r:=by
 induction t with
 | nil=>rfl
 | cons i t ih=>
  simp only[Qas,PP,d8,WP,Qak];rw[Rf 10 _ _ (yJ i (h i (J ..))),ih fun j hj=>h j (U _ hj)]
theorem iA (ts:List (List GI)) (h:∀t,t∈ts->∀i,i∈t->Px Cc i):Ax 10 (DY ts)=ts.flatMap Wn++[[]]:=by
 induction ts with
 | nil=>rfl
 | cons t ts ih=>
  unfold DY at ih⊢;simp only[Qas,U0,Wn,PP,WP];rw[Rf 10 AE _ AC,n7 t (h t (J ..)),ih fun u hu=>h u (U _ hu)]
theorem rT (D3:Cc<=4000) (M:Al) (ts:List C9) (t:C9) (ht:M.ts=ts++[t]) (i:GI) (h:Px Cc i) (hl:t.Ab.length < 4000):Rm M (Bn i.Ae)= .ok {M with ts:=ts++[{t with Ab:=t.Ab++[i.DR]}]}:=by
 have hi:=tQ D3 i h;have hn:¬((i.ws.map Ay).length=1/\bs (wd (i.ws.map Ay) 0)=AE):=by
  rintro⟨h1,h2⟩;cases i <;>simp[GI.ws] at h1 <;>(revert h2;decide+kernel)
 rw[gd i h];unfold Rm;rw[I hn,hi];simp only[ht,Qa3,Qav,Qbm,Qat];rw[I Y]
theorem rS (M:Al) (h:M.ts.length < 3):Rm M (Bn AE)= .ok {M with ts:=M.ts++[.new]}:=by
 have e:Bn AE=[Ay AE]:=by decide+kernel
 rw[e];unfold Rm;rw[In ⟨rfl,by decide+kernel⟩,I Y]
theorem iy (D3:Cc<=4000) (t:List GI) (h:∀i,i∈t->Px Cc i):∀(q:By) (r:List By) (n:Nat) (M:Al) (ts:List C9) (x:C9),M.ts=ts++[x]->x.Ab.length+t.length<=4000->
  EW (t.map GI.Ae++q::r) n M=EW (q::r) (n+t.length) {M with ts:=ts++[{x with Ab:=x.Ab++t.map GI.DR}]}:=by
 induction t with
 | nil=>
  intro q r n M ts x hx _;simp only[Qch,Qak,m7,Qaj,i7];obtain⟨m,s⟩:=M;obtain rfl:s=ts++[x]:=hx;rfl
 | cons i t ih=>
  intro q r n M ts x hx hl;simp only[IR] at hl;have h1:=rT D3 M ts x hx i (h i (J ..)) Y;have h2:=ih (fun j hj=>h j (U _ hj)) q r (n+1) {M with ts:=ts++[{x with Ab:=x.Ab++[i.DR]}]} ts _ rfl (by simp;omega);have e:∀(a b:By) (l:List By),EW (a::b::l) n M=match Rm M (Bn a) with | .error c=> .error (c,n+1) | .ok M'=>EW (b::l) (n+1) M':=fun _ _ _=>rfl
  obtain⟨b,l,Fs⟩:∃b l,t.map GI.Ae++q::r=b::l:=by
   cases t with
   | nil=>exact⟨q,r,rfl⟩
   | cons j t=>exact⟨_,_,rfl⟩
  simp only[d8,WP];rw[Fs] at h2⊢;rw[e,h1];simp only[];rw[h2];simp only[PP,WP,Qak,IR];rw[show n+1+t.length=n+(t.length+1) by omega]
def me (c:List Bj):C9:={C9.new with Ab:=c}
theorem dM (D3:Cc<=4000) (ts:List (List GI)) (h:∀t,t∈ts->t.length<=4000/\∀i,i∈t->Px Cc i):∀(n:Nat) (M:Al),(ts=[]->0 < n)->M.ts.length+ts.length<=3->
  EW (ts.flatMap Wn++[[]]) n M= .ok {M with ts:=M.ts++ts.map fun t=>me (t.map GI.DR)}:=by
 induction ts with
 | nil=>
  intro n M hn _;have:=hn rfl;show EW [[]] n M=_;unfold EW;rw[In ⟨rfl,this⟩];simp
 | cons t ts ih=>
  intro n M _ hl;simp only[IR] at hl;have ht:=h t (J ..);have h1:=rS M Y;obtain⟨q,r,uw⟩:∃q r,ts.flatMap Wn++[[]]=q::r:=by
   cases ts with
   | nil=>exact⟨_,_,rfl⟩
   | cons u us=>exact⟨_,_,rfl⟩
  have h2:=iy D3 t ht.2 q r (n+1) {M with ts:=M.ts++[.new]} M.ts .new rfl (by show 0+t.length<=4000;omega);have e:∀(a b:By) (l:List By),EW (a::b::l) n M=match Rm M (Bn a) with | .error c=> .error (c,n+1) | .ok M'=>EW (b::l) (n+1) M':=fun _ _ _=>rfl
  obtain⟨b,l,Fs⟩:∃b l,t.map GI.Ae++q::r=b::l:=by
   cases t with
   | nil=>exact⟨q,r,rfl⟩
   | cons j t=>exact⟨_,_,rfl⟩
  simp only[Qas,Wn,WP,PP];rw[uw,Fs,e,h1];simp only[];rw[<-Fs,h2,<-uw,ih (fun u hu=>h u (U _ hu)) _ _ (fun _=>Y) (by simp;omega)];simp[me,C9.new]
theorem nW (D3:Cc<=4000) (ts:List (List GI)) (Bi:ts≠[]) (h3:ts.length<=3) (h:∀t,t∈ts->t.length<=4000/\∀i,i∈t->Px Cc i) (hl:(DY ts).length<=131072):
  Lj (DY ts)= .ok ⟨List.replicate 256 0,ts.map fun t=>me (t.map GI.DR)⟩:=by
 unfold Lj;rw[I Y,iA ts fun t ht=>(h t ht).2,dM D3 ts h 0 _ (fun e=>UV e Bi) (by simpa using h3)];simp only[Qak]
def CR (i:GI):Nat:=i.Ae.length+1
def ss (Cc:Int):LI->Prop
 | .i i=>Px Cc i
 | .f r=>Jp r
def sN (v:Int):Prop:=0<=v/\v<=9999
def Xw (a:Ag):Prop:=if a.B0 then Jp a.v else sN a.v
def U4 (Cc:Int):GI->Prop
 | .Sq d a=>Jp d/\Xw a
 | .op n d a b=>(n∈Cj)/\Jp d/\Xw a/\Xw b
 | .load d a k=>Jp d/\Xw a/\sN k
 | .store a k b=>Xw a/\sN k/\Xw b
 | .JL d a k b c=>Jp d/\Xw a/\sN k/\Xw b/\Xw c
 | .DL d a k b=>Jp d/\Xw a/\sN k/\Xw b
 | .IV=>False
 | .out a=>Xw a
 | .Gb q=>0<=q/\q<=Cc
 | .jz a q=>Xw a/\0<=q/\q<=Cc
 | .EF k=>1<=k/\k<=9
 | .halt=>True
def Xu (Cc:Int):LI->Prop
 | .i i=>U4 Cc i
 | .f r=>Jp r
def Rx:LI->Prop
 | .i (.JL ..)=>False
 | .i (.DL ..)=>False
 | _=>True
theorem EG (h:Xw a):Ed a:=by
 unfold Xw at h;unfold Ed;split <;>rename_i hr <;>simp only[hr,Qau,y4,Qah] at h
 ·exact h
 ·obtain⟨h1,h2⟩:=h;exact⟨Y,Y⟩
theorem ah (h:sN v):i64 v:=⟨by have:=h.1;omega,by have:=h.2;omega⟩
theorem Abd {i:GI} (h:U4 Cc i):Px Cc i:=by
 cases i with
 | Sq d a=>exact⟨h.1,EG h.2⟩
 | op n d a b=>exact⟨h.1,h.2.1,EG h.2.2.1,EG h.2.2.2⟩
 | load d a k=>exact⟨h.1,EG h.2.1,ah h.2.2⟩
 | store a k b=>exact⟨EG h.1,ah h.2.1,EG h.2.2⟩
 | JL d a k b c=>exact⟨h.1,EG h.2.1,ah h.2.2.1,EG h.2.2.2.1,EG h.2.2.2.2⟩
 | DL d a k b=>exact⟨h.1,EG h.2.1,ah h.2.2.1,EG h.2.2.2⟩
 | IV=>exact h
 | out a=>exact EG h
 | Gb q=>exact h
 | jz a q=>exact⟨EG h.1,h.2⟩
 | EF k=>exact h
 | halt=>trivial
theorem nh {u:Nat} (h:u<=9999):Lib.nDigits u<=4:=by
 rw[Lib.nDigits];split
 ·omega
 ·rw[Lib.nDigits];split
  ·omega
  ·rw[Lib.nDigits];split
   ·omega
   ·rw[Lib.nDigits];split <;>omega
theorem Ep (h:sN v):(Lib.itoa v).length<=4:=by
 obtain⟨h1,h2⟩:=h;unfold Lib.itoa;rw[I Y,Lib.decDigits_length];exact nh Y
theorem RH (h:i64 v):(Lib.itoa v).length<=21:=Lib.itoa_length_le v h.1 h.2
theorem F5 (h:Jp k):(Gj k).length=2:=by
 obtain⟨c,hc,_⟩:=da h;unfold Gj;rw[hc];rfl
theorem Ee (h:Xw a):(Fk a).length<=4:=by
 unfold Xw at h;unfold Fk;split <;>rename_i hr <;>simp only[hr,Qau,y4,Qah] at h
 ·rw[F5 h];omega
 ·exact Ep h
theorem Jr (h:Ed a):(Fk a).length<=21:=by
 unfold Ed at h;unfold Fk;split <;>rename_i hr <;>simp only[hr,Qau,y4,Qah] at h
 ·rw[F5 h];omega
 ·exact RH h
theorem Vw {n:ByteArray} (h:n∈Cj):(bs n).length<=3:=by
 revert h;revert n
 have:∀n,n∈Cj->(bs n).length<=3:=by decide+kernel
 exact this
theorem Y7 (hl:Cc<=4000) {i:GI} (h:U4 Cc i):CR i<=27:=by
 cases i with
 | Sq d a=>
  have h1:=F5 h.1;have h2:=Ee h.2;exact maJ
 | op n d a b=>
  have h1:=F5 h.2.1;have h2:=Ee h.2.2.1;have h3:=Ee h.2.2.2;exact mcd
 | load d a k=>
  have h1:=F5 h.1;have h2:=Ee h.2.1;have h3:=Ep h.2.2;exact maJ
 | store a k b=>
  have h1:=Ee h.1;have h2:=Ep h.2.1;have h3:=Ee h.2.2;exact maJ
 | JL d a k b c=>
  have h1:=F5 h.1;have h2:=Ee h.2.1;have h3:=Ep h.2.2.1;have h4:=Ee h.2.2.2.1;have h5:=Ee h.2.2.2.2;exact maJ
 | DL d a k b=>
  have h1:=F5 h.1;have h2:=Ee h.2.1;have h3:=Ep h.2.2.1;have h4:=Ee h.2.2.2;exact maJ
 | IV=>simp[CR,GI.Ae,GI.ws,BE]
 | out a=>
  have h1:=Ee h;exact maJ
 | Gb q=>
  have h1:=Ep (v:=q) ⟨h.1,by have:=h.2;omega⟩;exact maJ
 | jz a q=>
  have h1:=Ee h.1;have h2:=Ep (v:=q) ⟨h.2.1,by have:=h.2.2;omega⟩;exact maJ
 | EF k=>
  have h1:=Ep (v:=k) ⟨by have:=h.1;omega,by have:=h.2;omega⟩;exact maJ
 | halt=>simp[CR,GI.Ae,GI.ws,BE]
theorem yL (hl:Cc<=4000) {i:GI} (h:Px Cc i) (hc:Rx (.i i)):CR i<=73:=by
 cases i with
 | Sq d a=>
  have h1:=F5 h.1;have h2:=Jr h.2;exact maJ
 | op n d a b=>
  have h1:=F5 h.2.1;have h2:=Jr h.2.2.1;have h3:=Jr h.2.2.2;exact mcd
 | load d a k=>
  have h1:=F5 h.1;have h2:=Jr h.2.1;have h3:=RH h.2.2;exact maJ
 | store a k b=>
  have h1:=Jr h.1;have h2:=RH h.2.1;have h3:=Jr h.2.2;exact maJ
 | JL d a k b c=>exact hc.elim
 | DL d a k b=>exact hc.elim
 | IV=>simp[CR,GI.Ae,GI.ws,BE]
 | out a=>
  have h1:=Jr h;exact maJ
 | Gb q=>
  have h1:=Ep (v:=q) ⟨h.1,by have:=h.2;omega⟩;exact maJ
 | jz a q=>
  have h1:=Jr h.1;have h2:=Ep (v:=q) ⟨h.2.1,by have:=h.2.2;omega⟩;exact maJ
 | EF k=>
  have h1:=Ep (v:=k) ⟨by have:=h.1;omega,by have:=h.2;omega⟩;exact maJ
 | halt=>simp[CR,GI.Ae,GI.ws,BE]
def bytesOf (l:List GI):Nat:=(l.map CR).sum
structure DN (Cc:Int) (l:List LI) (a:Nat):Prop where
 ok:∀x,x∈l->ss Cc x
 len:∀q:Int,0<=q->q<=Cc->bytesOf (rz q l)<=27*l.length+46*a
theorem sk {q:Int} {x:LI} (h:ss Cc x) (h0:0<=q) (h1:q<=Cc):Px Cc (x.AW q):=by
 cases x with
 | i x=>exact h
 | f r=>exact⟨h,h0,h1⟩
theorem DN.rz {a:Nat} (h:DN Cc l a) {q:Int} (h0:0<=q) (h1:q<=Cc):∀i,i∈rz q l->Px Cc i:=by
 intro i hi;obtain⟨x,hx,rfl⟩:=Qbg.1 hi;exact sk (h.ok x hx) h0 h1
theorem DN.nil (Cc:Int):DN Cc [] 0:=⟨fun x h=>by simp at h,fun q _ _=>by simp[bytesOf,_root_.Go.Proofs.YtpdfifdlhpmofaaGreatDoor.rz]⟩
theorem Uo (l m:List GI):bytesOf (l++m)=bytesOf l+bytesOf m:=by simp[bytesOf]
theorem DN.Fj {m:List LI} {a:Nat} (h:DN Cc l a) (k:DN Cc m b):DN Cc (l++m) (a+b):=
 ⟨fun x hx=>(Nm.1 hx).elim (h.ok x) (k.ok x),fun q h0 h1=>by
   have:=h.len q h0 h1;have:=k.len q h0 h1;rw[CA,Uo,V];omega⟩
theorem DN.mono {a:Nat} (h:DN Cc l a) (Su:a<=b):DN Cc l b:=
 ⟨h.ok,fun q h0 h1=>by have:=h.len q h0 h1;omega⟩
theorem DN.GM (hl:Cc<=4000) {l:List LI} (h:∀x,x∈l->Xu Cc x):DN Cc l 0:=by
 induction l with
 | nil=>exact DN.nil Cc
 | cons x l ih=>
  have h1:=h x (J ..);have ih:=ih fun y hy=>h y (U _ hy)
  have hx:ss Cc x:=by
   cases x with
   | i x=>exact Abd h1
   | f r=>exact h1
  refine⟨fun y hy=>(Pi.1 hy).elim (fun e=>e▸hx) (ih.ok y),fun q h0 hq=> ?_⟩;have:=ih.len q h0 hq;have IG:CR (x.AW q)<=27:=by
   cases x with
   | i x=>exact Y7 hl h1
   | f r=>exact Y7 hl (Cc:=Cc) ⟨by unfold Xw;exact h1,h0,hq⟩
  exact mbD
theorem DN.any (hl:Cc<=4000) {l:List LI} (h:∀x,x∈l->ss Cc x/\Rx x):DN Cc l l.length:=by
 induction l with
 | nil=>exact DN.nil Cc
 | cons x l ih=>
  obtain⟨hx,hc⟩:=h x (J ..);have ih:=ih fun y hy=>h y (U _ hy)
  refine⟨fun y hy=>(Pi.1 hy).elim (fun e=>e▸hx) (ih.ok y),fun q h0 hq=> ?_⟩;have:=ih.len q h0 hq;have IG:CR (x.AW q)<=73:=yL hl (sk hx h0 hq) (by cases x with | i x=>exact hc | f r=>trivial);exact mbD
theorem DN.AeV {a:Nat} (h:DN Cc l a) {q:Int} (h0:0<=q) (h1:q<=Cc):DN Cc ((_root_.Go.Proofs.YtpdfifdlhpmofaaGreatDoor.rz q l).map LI.i) a:=by
 refine⟨fun x hx=> ?_,fun r _ _=> ?_⟩
 ·obtain⟨i,hi,rfl⟩:=Qbg.1 hx;exact h.rz h0 h1 i hi
 ·rw[rJ,z9,CX];exact h.len q h0 h1
theorem Dz (P:LI->Prop):(∀x,x∈([]:List LI)->P x)<->True:=EQ
theorem CU (P:LI->Prop) (a:LI) (l:List LI):(∀x,x∈a::l->P x)<->P a/\∀x,x∈l->P x:=EQ
section
variable {Ac:Int} {Cc:Int}
theorem Js:Ja∈Cj/\I9∈Cj/\Wf∈Cj/\sJ∈Cj/\Qy∈Cj/\Uz∈Cj/\XV∈Cj/\XW∈Cj:=
 ⟨Qai (i:=0) rfl,Qai (i:=1) rfl,Qai (i:=5) rfl,Qai (i:=6) rfl,Qai (i:=8) rfl,Qai (i:=9) rfl,Qai (i:=10) rfl,Qai (i:=11) rfl⟩
theorem Lw (k:Int) (h:0<=k/\k<=7):Xw (.r k):=by unfold Xw Ag.r;exact h
theorem J5 (k:Int) (h:0<=k/\k<=9999):Xw (.n k):=by unfold Xw Ag.n;exact h
theorem SK (hl:Cc<=4000) (hb:0<=Ac/\Ac<=1000) (r:Int) (hr:0<=r/\r<=7):DN Cc (Jx Ac r) 0:=by
 obtain⟨v1,v2,v3,v4,v5,v6,v7,v8⟩:=Js;refine .GM hl ?_;unfold Jx;simp only[CU,Dz,Xu,U4,and_true];refine⟨⟨v3,?_,?_,?_⟩,⟨v8,?_,?_,?_⟩,?_,⟨v6,?_,?_,?_⟩,⟨?_,?_,?_⟩,⟨v7,?_,?_,?_⟩,⟨v8,?_,?_,?_⟩,?_⟩ <;>first | exact Lw _ Y | exact J5 _ Y | (unfold Jp;omega) | (unfold sN;omega)
theorem OY {a:At} (h:FR a) (r:Int) (hr:Jp r):_root_.Go.Proofs.YtpdfifdlhpmofaaGreatDoor.Ed (GS.BF a r):=by
 unfold FR at h;unfold GS.BF;split <;>rename_i hl <;>simp only[hl,Qau,y4,Qah] at h
 ·exact hr
 ·exact h
theorem LL (hl:Cc<=4000) (hb:0<=Ac/\Ac<=1000) (a:At) (ha:FR a) (r:Int) (hr:Jp r):DN Cc (DX Ac a r) 0:=by
 refine .GM hl ?_;unfold DX;split <;>rename_i Aft
 ·unfold FR at ha;rw[In Aft] at ha;simp only[CU,Dz,Xu,U4,and_true];refine⟨hr,?_,?_⟩ <;>first | exact J5 _ Y | (unfold sN;omega)
 ·simp
theorem ZF (hl:Cc<=4000) (hb:0<=Ac/\Ac<=1000) (p:Nat) (f s:Int) (hf:0<=f/\f<=100/\0<=s/\s<=100) (a:At) (ha:FR a) (hp:(p+(GV Ac p f s a).length:Int)<=Cc):DN Cc (GV Ac p f s a) 8:=by
 obtain⟨v1,v2,v3,v4,v5,v6,v7,v8⟩:=Js;unfold GV at hp⊢;rw[V] at hp;have h8:(Sd (p+(DX Ac a 0).length) f s (GS.BF a 0)).length=8:=rfl;rw[h8] at hp;have h0:=LL hl hb a ha 0 ⟨Y,Y⟩;have hA:=OY ha 0 ⟨Y,Y⟩;refine(h0.Fj (b:=8) ?_).mono Y;refine .any hl ?_;unfold Sd;simp only[CU,Dz,ss,Px,Rx,and_true];refine⟨⟨v7,?_,hA,?_⟩,⟨?_,?_,?_⟩,?_,⟨v7,?_,hA,?_⟩,⟨v8,?_,?_,?_⟩,⟨?_,?_,?_⟩,?_,⟨v1,?_,hA,?_⟩⟩ <;>first | exact EG (Lw _ Y) | exact EG (J5 _ Y) | (unfold Jp;omega) | omega
theorem vf (hl:Cc<=4000) (hb:0<=Ac/\Ac<=1000) (p:Nat) (hp:(p+18:Int)<=Cc):DN Cc (QJ Ac p) 0:=by
 obtain⟨v1,v2,v3,v4,v5,v6,v7,v8⟩:=Js;unfold QJ;refine((DN.Fj (a:=0) (b:=0) ?_ (SK hl hb 2 Y)).Fj (b:=0) ?_)
 ·refine .GM hl ?_;simp only[CU,Dz,Xu,U4,and_true];refine⟨⟨?_,?_,?_⟩,⟨?_,?_,?_⟩,⟨?_,?_,?_⟩,⟨?_,?_⟩,?_,?_,?_⟩ <;>first | exact Lw _ Y | exact J5 _ Y | (unfold Jp;omega) | (unfold sN;omega) | omega
 ·refine .GM hl ?_;simp only[CU,Dz,Xu,U4,and_true];refine⟨⟨?_,?_,?_⟩,⟨?_,?_,?_⟩,⟨v8,?_,?_,?_⟩,?_,?_,?_,?_⟩ <;>first | exact Lw _ Y | exact J5 _ Y | (unfold Jp;omega) | (unfold sN;omega) | omega
theorem nU (hl:Cc<=4000) (hb:0<=Ac/\Ac<=1000) (c p:Nat) (hc:c < 6) (hp:(p+16:Int)<=Cc):DN Cc (Li Ac c p) 0:=by
 obtain⟨v1,v2,v3,v4,v5,v6,v7,v8⟩:=Js;unfold Li;refine((DN.Fj (a:=0) (b:=0) ?_ (SK hl hb 2 Y)).Fj (b:=0) ?_)
 ·refine .GM hl ?_;exact maz
 ·refine .GM hl ?_;simp only[CU,Dz,Xu,U4,and_true];refine⟨⟨v4,?_,?_,?_⟩,⟨?_,?_,?_,?_,?_⟩,?_,⟨?_,?_,?_⟩,?_,?_,?_⟩ <;>first | exact Lw _ Y | exact J5 _ Y | (unfold Jp;omega) | (unfold sN;omega) | omega
theorem nR (hl:Cc<=4000) (hb:0<=Ac/\Ac<=1000) (c p:Nat) (hc:c < 6) (hp:(p+14:Int)<=Cc):DN Cc (ND Ac c p) 0:=by
 unfold ND;refine(DN.Fj (a:=0) (b:=0) ?_ (SK hl hb 2 Y));refine .GM hl ?_;simp only[CU,Dz,Xu,U4,and_true];refine⟨⟨?_,?_,?_⟩,⟨?_,?_,?_⟩,⟨?_,?_,?_⟩,⟨?_,?_,?_⟩,⟨?_,?_⟩,?_,?_,?_⟩ <;>first | exact Lw _ Y | exact J5 _ Y | (unfold Jp;omega) | (unfold sN;omega) | omega
theorem r7 (hl:Cc<=4000) (hb:0<=Ac/\Ac<=1000) (c p:Nat) (hc:c < 6) (hp:(p+4:Int)<=Cc):DN Cc (V0 Ac c p) 0:=by
 refine .GM hl ?_;unfold V0;exact ma7
theorem oV (hl:Cc<=4000) (hb:0<=Ac/\Ac<=1000) (c p:Nat) (hc:c < 6) (hp:(p+3:Int)<=Cc):DN Cc (OG Ac c p) 0:=by
 refine .GM hl ?_;unfold OG;exact maz
theorem pz (hl:Cc<=4000) (hb:0<=Ac/\Ac<=1000) (c p:Nat) (hc:c < 6) (hp:(p+4:Int)<=Cc):DN Cc (NJ Ac c p) 0:=by
 refine .GM hl ?_;unfold NJ;exact ma7
theorem oe (hl:Cc<=4000) (hb:0<=Ac/\Ac<=1000) (c p:Nat) (hc:c < 6):DN Cc (On Ac c p) 0:=by
 refine .GM hl ?_;unfold On;exact mbj
theorem mD (hl:Cc<=4000) (hb:0<=Ac/\Ac<=1000) (c p:Nat) (hc:c < 6):DN Cc (NB Ac c p) 0:=by
 refine .GM hl ?_;unfold NB;exact mbj
theorem jx (hl:Cc<=4000) (hb:0<=Ac/\Ac<=1000) (c p:Nat) (hc:c < 6):DN Cc (JT Ac c p) 0:=by
 refine .GM hl ?_;unfold JT;exact maz
theorem Yp (hl:Cc<=4000) (hb:0<=Ac/\Ac<=1000) (p:Nat) (hp:(p+8:Int)<=Cc):DN Cc (Ku Ac p) 0:=by
 obtain⟨v1,v2,v3,v4,v5,v6,v7,v8⟩:=Js;refine .GM hl ?_;unfold Ku;simp only[CU,Dz,Xu,U4,and_true];refine⟨⟨?_,?_⟩,⟨?_,?_,?_⟩,⟨v7,?_,?_,?_⟩,⟨?_,?_,?_⟩,⟨?_,?_,?_⟩,?_,⟨v1,?_,?_,?_⟩,?_,?_⟩ <;>first | exact Lw _ Y | exact J5 _ Y | (unfold Jp;omega) | (unfold sN;omega) | omega
theorem Jv (f:Nat->Nat->List LI) (m:Nat) (hlen:∀c p,(f c p).length=m) (n:Nat) (h:∀c p:Nat,c < n->((p+m:Nat):Int)<=Cc->DN Cc (f c p) 0):∀p:Nat,((p+n*m:Nat):Int)<=Cc->DN Cc (El f n p) 0/\(El f n p).length=n*m:=by
 induction n with
 | zero=>intro p _;exact⟨.nil Cc,by simp[El]⟩
 | succ n ih=>
  intro p hp;rw[Qdg,Nat.one_mul] at hp⊢;obtain⟨i1,i2⟩:=ih (fun c p hc=>h c p Y) p Y;simp only[El,V,i2,hlen];exact⟨i1.Fj (b:=0) (h n _ Y Y),trivial⟩
theorem fh (hl:Cc<=4000) (hb:0<=Ac/\Ac<=1000) (n p:Nat) (hn:n<=6) (hp:((p+n*37+3:Nat):Int)<=Cc):DN Cc (FX Ac n p) 0/\(FX Ac n p).length=n*37+3:=by
 obtain⟨v1,v2,v3,v4,v5,v6,v7,v8⟩:=Js;obtain⟨a1,a2⟩:=Jv (Li Ac) 16 (fun _ _=>rfl) n (fun c p hc hp=>nU hl hb c p Y Y) p Y;have Ad6:DN Cc Ya 0:=by
  refine .GM hl ?_;unfold Ya;simp only[CU,Dz,Xu,U4,and_true];refine⟨⟨?_,?_,?_,?_⟩,⟨v1,?_,?_,?_⟩,v5,?_,?_,?_⟩ <;>first | exact Lw _ Y | exact J5 _ Y | (unfold Jp;omega) | (unfold sN;omega) | omega
 have b1:=a1.Fj Ad6;have l1:(El (Li Ac) n p++Ya).length=n*16+3:=by rw[V,a2];rfl
 obtain⟨c1,c2⟩:=Jv (ND Ac) 14 (fun _ _=>rfl) n (fun c p hc hp=>nR hl hb c p Y Y) (p+(n*16+3)) Y;obtain⟨d1,d2⟩:=Jv (V0 Ac) 4 (fun _ _=>rfl) n (fun c p hc hp=>r7 hl hb c p Y Y) (p+(n*16+3+n*14)) Y;obtain⟨e1,e2⟩:=Jv (OG Ac) 3 (fun _ _=>rfl) n (fun c p hc hp=>oV hl hb c p Y Y) (p+(n*16+3+n*14+n*4)) Y;unfold FX;simp only[V,l1,c2,d2];exact⟨((b1.Fj c1).Fj d1).Fj e1,by simp only[V,a2,c2,d2,e2];show n*16+3+_+_+_=_;omega⟩
theorem vG (hl:Cc<=4000) (hb:0<=Ac/\Ac<=1000) (n p:Nat) (hn:n<=6) (BJ:Bool) (hp:((p+(ON Ac n BJ p).length:Nat):Int)<=Cc):DN Cc (ON Ac n BJ p) 0:=by
 unfold ON at hp⊢;cases BJ with
 | true=>
  simp only[Qau] at hp⊢;rw[V] at hp;have Mu:(FX Ac n p).length=n*37+3:=by
   unfold FX;have hr:∀(f:Nat->Nat->List LI) (m:Nat),(∀c p,(f c p).length=m)->∀n p,(El f n p).length=n*m:=by
    exact maN
   simp only[V,hr (Li Ac) 16 (fun _ _=>rfl),hr (ND Ac) 14 (fun _ _=>rfl),hr (V0 Ac) 4 (fun _ _=>rfl),hr (OG Ac) 3 (fun _ _=>rfl)];show n*16+3+_+_+_=_;omega
  have h8:∀q,(Ku Ac q).length=8:=fun _=>rfl
  rw[Mu,h8] at hp;obtain⟨a1,a2⟩:=fh hl hb n p hn Y;rw[a2];exact a1.Fj (Yp hl hb _ Y)
 | false=>
  simp only[Qah,y4,Qak,m7,Qaj] at hp⊢;have h8:(Ku Ac p).length=8:=rfl;rw[h8] at hp;exact Yp hl hb p Y
theorem qT (hl:Cc<=4000) (hb:0<=Ac/\Ac<=1000) (n p:Nat) (hn:n<=6) (hp:((p+n*3:Nat):Int)<=Cc):DN Cc (JO Ac n p) 0:=by
 obtain⟨a1,a2⟩:=Jv (JT Ac) 3 (fun _ _=>rfl) n (fun c p hc hp=>jx hl hb c p Y) p hp;refine a1.Fj (b:=0) (.GM hl ?_);exact maz
theorem bT (hl:Cc<=4000) (hb:0<=Ac/\Ac<=1000) (n Dw p:Nat) (hn:n<=6) (ht:(Dw:Int)<=Cc) (hp:((p+n*4+8:Nat):Int)<=Cc):DN Cc (FD Ac n Dw p) 0:=by
 obtain⟨a1,a2⟩:=Jv (NJ Ac) 4 (fun _ _=>rfl) n (fun c p hc hp=>pz hl hb c p Y Y) p Y;obtain⟨b1,b2⟩:=Jv (On Ac) 2 (fun _ _=>rfl) 4 (fun c p hc hp=>oe hl hb c p Y) (p+n*4) Y;unfold FD;rw[a2];refine(a1.Fj b1).Fj (b:=0) (.GM hl ?_);simp only[CU,Dz,Xu,U4,and_true];omega
end
theorem fv (Ac:Int) (n Dw p:Nat):(FD Ac n Dw p).length=n*4+9:=by
 have hr:∀(f:Nat->Nat->List LI) (m:Nat),(∀c p,(f c p).length=m)->∀n p,(El f n p).length=n*m:=by
  exact maN
 unfold FD;simp only[V,hr (NJ Ac) 4 (fun _ _=>rfl),hr (On Ac) 2 (fun _ _=>rfl),IR,m7]
theorem qV (Ac:Int) (n p:Nat):(JO Ac n p).length=n*3+3:=by
 have hr:∀(f:Nat->Nat->List LI) (m:Nat),(∀c p,(f c p).length=m)->∀n p,(El f n p).length=n*m:=by
  exact maN
 unfold JO;simp only[V,hr (JT Ac) 3 (fun _ _=>rfl),IR,m7]
def Xt:Bt->Nat
 | .nil=>0
 | .set _ _ _ _ r=>1+Xt r
 | .get _ _ _ _ r=>1+Xt r
 | .put _ _ _ _ r=>1+Xt r
 | .out _ r=>1+Xt r
 | .atomic b r=>1+Xt b+Xt r
 | .EA _ b r=>1+Xt b+Xt r
 | .loop _ b r=>1+Xt b+Xt r
def Yc:Bt->Nat
 | .nil=>0
 | .set _ _ _ _ r=>Yc r
 | .get _ _ _ _ r=>Yc r
 | .put _ _ _ _ r=>Yc r
 | .out _ r=>Yc r
 | .atomic b r=>1+Yc b+Yc r
 | .EA _ b r=>Yc b+Yc r
 | .loop _ b r=>Yc b+Yc r
theorem ri (t:Bt):(Xt t:Int)=Iw t:=by
 induction t <;>simp only[Xt,Iw] <;>omega
theorem fe (t:Bt):Cg t<=28*Xt t+268*Yc t:=by
 induction t <;>simp only[Cg,Xt,Yc] <;>omega
theorem AcB (t:Bt):∀d,WF cells t d true->Yc t=0:=by
 induction t with
 | nil=>intro d _;rfl
 | set v op a b r ih=>intro d h;exact ih d h.2.2.2.2
 | get v f s a r ih=>intro d h;exact ih d h.2.2.2.2
 | put f s a b r ih=>intro d h;exact ih d h.2.2.2.2
 | out a r ih=>intro d h;exact ih d h.2
 | atomic b r ib ih=>intro d h;exact UV h.1 AC
 | EA a b r ib ih=>intro d h;simp only[Yc,ib _ h.2.2.1,ih d h.2.2.2]
 | loop k b r ib ih=>intro d h;simp only[Yc,ib _ h.2.2.1,ih d h.2.2.2]
theorem fz (t:Bt):∀(d:Nat) (n:Int) (b o:Int),WF cells t d false->1<=n->Aq t n=some (b,o)->(Yc t:Int)<=b:=by
 induction t with
 | nil=>intro d n b o _ _ h;simp only[Aq,Option.some.injEq,Prod.mk.injEq] at h;simp only[Yc];omega
 | set v op a c r ih=>intro d n b o hw hn h;exact ih d n b o hw.2.2.2.2 hn h
 | get v f s a r ih=>intro d n b o hw hn h;exact ih d n b o hw.2.2.2.2 hn h
 | put f s a c r ih=>intro d n b o hw hn h;exact ih d n b o hw.2.2.2.2 hn h
 | out a r ih=>
  intro d n b o hw hn h;simp only[Aq] at h;cases hc:Aq r n with
  | none=>rw[hc] at h;cases h
  | some q=>
   rw[hc] at h;simp only[Option.some.injEq,Prod.mk.injEq] at h;have:=ih d n q.1 q.2 hw.2 hn hc;simp only[Yc];omega
 | atomic c r ib ih=>
  intro d n b o hw hn h;simp only[Aq] at h;cases hc:Aq c 1 with
  | none=>rw[hc] at h;cases h
  | some q=>
   rw[hc] at h;simp only[] at h;split at h
   ·cases h
   ·cases hr:Aq r n with
    | none=>rw[hr] at h;cases h
    | some q'=>
     rw[hr] at h;simp only[Option.some.injEq,Prod.mk.injEq] at h;have:=ih d n q'.1 q'.2 hw.2.2.2 hn hr;have h0:=AcB c _ hw.2.2.1;simp only[Yc,h0];omega
 | EA a c r ib ih=>
  intro d n b o hw hn h;simp only[Aq] at h;cases hc:Aq c n with
  | none=>rw[hc] at h;cases h
  | some q=>
   rw[hc] at h;cases hr:Aq r n with
   | none=>rw[hr] at h;cases h
   | some q'=>
    rw[hr] at h;simp only[Option.some.injEq,Prod.mk.injEq] at h;have:=ih d n q'.1 q'.2 hw.2.2.2 hn hr;have:=ib (d+1) n q.1 q.2 hw.2.2.1 hn hc;simp only[Yc];omega
 | loop k c r ib ih=>
  intro d n b o hw hn h;simp only[Aq] at h;cases hc:Aq c (n*k) with
  | none=>rw[hc] at h;cases h
  | some q=>
   rw[hc] at h;cases hr:Aq r n with
   | none=>rw[hr] at h;cases h
   | some q'=>
    rw[hr] at h;simp only[Option.some.injEq,Prod.mk.injEq] at h;have:=ih d n q'.1 q'.2 hw.2.2.2 hn hr;have hk:1<=n*k:=by
     have h1:=hw.1.1;have:1*1<=n*k:=Qc5 hn h1 Y Y;omega
    have:=ib (d+1) (n*k) q.1 q.2 hw.2.2.1 hk hc;simp only[Yc];omega
theorem PO.of (t:Bt):∀(d:Nat) (i:Bool),WF cells t d i->PO t i:=by
 induction t with
 | nil=>intro d i _;trivial
 | set v op a b r ih=>intro d i h;exact ih d i h.2.2.2.2
 | get v f s a r ih=>intro d i h;exact ih d i h.2.2.2.2
 | put f s a b r ih=>intro d i h;exact ih d i h.2.2.2.2
 | out a r ih=>intro d i h;exact ih d i h.2
 | atomic b r ib ih=>intro d i h;exact⟨h.1,ib _ _ h.2.2.1,ih d i h.2.2.2⟩
 | EA a b r ib ih=>intro d i h;exact⟨ib _ _ h.2.2.1,ih d i h.2.2.2⟩
 | loop k b r ib ih=>intro d i h;exact⟨ib _ _ h.2.2.1,ih d i h.2.2.2⟩
theorem vM (Ac Cc:Int) (hl:Cc<=4000) (hb:0<=Ac/\Ac<=1000) (cells:Int) (n:Nat) (hn:n<=6) (Db:cells<=6) (t:Bt):∀(d:Nat) (Au:Bool) (Aj p:Nat),WF cells t d Au->Aj<=d->d<=3->
  ((p+(Gx Ac n Au Aj p t).length:Nat):Int)<=Cc->DN Cc (Gx Ac n Au Aj p t) (12*Xt t):=by
 induction t with
 | nil=>intro d Au Aj p _ _ _ _;exact .nil Cc
 | set v op a b r ih=>
  intro d Au Aj p hw hd h3 hp;obtain⟨hv,Kj,ha,zv,hr⟩:=hw;simp only[Gx,V] at hp⊢;have h2:=ih d Au Aj _ hr hd h3 (by rw[d7];exact hp);have h1:DN Cc (VQ Ac v op a b) 12:=by
   unfold VQ;have A1:=OY ha 1 ⟨Y,Y⟩;have B2:=OY zv 2 ⟨Y,Y⟩;have c1:=LL (Cc:=Cc) (Ac:=Ac) hl hb a ha 1 ⟨Y,Y⟩;have c2:=LL (Cc:=Cc) (Ac:=Ac) hl hb b zv 2 ⟨Y,Y⟩;split <;>rename_i ho
   ·refine(c1.Fj (b:=1) (.any hl ?_)).mono Y;simp only[CU,Dz,ss,Px,Rx,and_true];refine⟨?_,?_,A1⟩ <;>first | exact EG (J5 _ Y) | (unfold i64;omega)
   ·refine((c1.Fj c2).Fj (b:=2) (.any hl ?_)).mono Y;simp only[CU,Dz,ss,Px,Rx,and_true];refine⟨⟨Kj.resolve_left ho,?_,A1,B2⟩,?_,?_,?_⟩ <;>first | exact EG (J5 _ Y) | exact EG (Lw _ Y) | (unfold i64;omega) | (unfold Jp;omega)
  exact(h1.Fj h2).mono (by simp only[Xt];omega)
 | get v f s a r ih=>
  intro d Au Aj p hw hd h3 hp;obtain⟨hv,hf,ha,hi,hr⟩:=hw;simp only[Gx,V] at hp⊢;have hg:∀q,(QJ Ac q).length=18:=fun _=>rfl
  simp only[hg,IR,m7] at hp⊢;have h2:=ih d Au Aj (p+((GV Ac p f s a).length+18+(0+1))) hr hd h3 (by simp only[d7] at hp⊢;exact hp);have h1:=ZF (Cc:=Cc) (Ac:=Ac) hl hb p f s ⟨Y,Y,Y,Y⟩ a ha Y;have h4:=vf (Cc:=Cc) (Ac:=Ac) hl hb (p+(GV Ac p f s a).length) Y;have h5:DN Cc [LI.i (.store (.n (Ac+v)) 0 (.r 1))] 0:=by
   refine .GM hl ?_;simp only[CU,Dz,Xu,U4,and_true];refine⟨?_,?_,?_⟩ <;>first | exact Lw _ Y | exact J5 _ Y | (unfold sN;omega)
  exact(((h1.Fj h4).Fj h5).Fj h2).mono (by simp only[Xt];omega)
 | put f s i a r ih=>
  intro d Au Aj p hw hd h3 hp;obtain⟨hf,hi,ha,RV,hr⟩:=hw;simp only[Gx,V,IR,m7] at hp⊢;have h2:=ih d Au Aj (p+((GV Ac p f s i).length+(DX Ac a 1).length+(0+1+1))) hr hd h3 (by simp only[d7] at hp⊢;exact hp);have h1:=ZF (Cc:=Cc) (Ac:=Ac) hl hb p f s ⟨Y,Y,Y,Y⟩ i hi Y;have c1:=LL (Cc:=Cc) (Ac:=Ac) hl hb a ha 1 ⟨Y,Y⟩;have A1:=OY ha 1 ⟨Y,Y⟩;have h5:DN Cc [LI.i (.store (.r 0) (Ac+14) (GS.BF a 1)),LI.i (.store (.r 0) (Ac+8) (.n 1))] 2:=by
   refine .any hl ?_;simp only[CU,Dz,ss,Px,Rx,and_true];refine⟨⟨?_,?_,A1⟩,?_,?_,?_⟩ <;>first | exact EG (Lw _ Y) | exact EG (J5 _ Y) | (unfold i64;omega)
  exact(((h1.Fj c1).Fj h5).Fj h2).mono (by simp only[Xt];omega)
 | out a r ih=>
  intro d Au Aj p hw hd h3 hp;obtain⟨ha,hr⟩:=hw;simp only[Gx,V] at hp⊢;have h2:=ih d Au Aj _ hr hd h3 (by rw[d7];exact hp);have h1:DN Cc (aE Ac Au a) 12:=by
   obtain⟨v1,v2,v3,v4,v5,v6,v7,v8⟩:=Js;unfold aE;have A1:=OY ha 1 ⟨Y,Y⟩;have c1:=LL (Cc:=Cc) (Ac:=Ac) hl hb a ha 1 ⟨Y,Y⟩;split
   ·refine(c1.Fj (b:=4) (.any hl ?_)).mono Y;simp only[CU,Dz,ss,Px,Rx,and_true];refine⟨⟨?_,?_,?_⟩,⟨?_,?_,A1⟩,⟨v1,?_,?_,?_⟩,?_,?_,?_⟩ <;>first | exact EG (J5 _ Y) | exact EG (Lw _ Y) | (unfold i64;omega) | (unfold Jp;omega)
   ·refine(c1.Fj (b:=1) (.any hl ?_)).mono Y;simp only[CU,Dz,ss,Px,Rx,and_true];exact A1
  exact(h1.Fj h2).mono (by simp only[Xt];omega)
 | EA a b r ib ih=>
  intro d Au Aj p hw hd h3 hp;obtain⟨ha,iX,P0,hr⟩:=hw;simp only[Gx,V,IR] at hp⊢;have hB:=ib (d+1) Au Aj (p+(DX Ac a 1).length+1) P0 Y Y Y;generalize hBe:Gx Ac n Au Aj (p+(DX Ac a 1).length+1) b=B at hp hB⊢;have h2:=ih d Au Aj (p+((DX Ac a 1).length+(B.length+1))) hr hd h3 (by simp only[d7] at hp⊢;exact hp);have A1:=OY ha 1 ⟨Y,Y⟩;have c1:=LL (Cc:=Cc) (Ac:=Ac) hl hb a ha 1 ⟨Y,Y⟩;have hj:DN Cc [LI.i (.jz (GS.BF a 1) (p+(DX Ac a 1).length+1+B.length:Nat))] 1:=by
   refine .any hl ?_;simp only[CU,Dz,ss,Px,Rx,and_true];exact⟨A1,Y,Y⟩
  exact((c1.Fj (hj.Fj hB)).Fj h2).mono (by simp only[Xt];omega)
 | loop k b r ib ih=>
  intro d Au Aj p hw hd h3 hp;obtain⟨hk,iX,P0,hr⟩:=hw;simp only[Gx,V,IR,m7,WP] at hp⊢;have hB:=ib (d+1) Au (Aj+1) (p+1) P0 Y Y Y;generalize hBe:Gx Ac n Au (Aj+1) (p+1) b=B at hp hB⊢;have h2:=ih d Au Aj (p+(B.length+(0+1+1+1+1+1)+1)) hr hd h3 Y;obtain⟨v1,v2,v3,v4,v5,v6,v7,v8⟩:=Js;have h0:DN Cc [LI.i (.store (.n (Ac+(48+Aj))) 0 (.n k))] 0:=by
   refine .GM hl ?_;simp only[CU,Dz,Xu,U4,and_true];refine⟨?_,?_,?_⟩ <;>first | exact J5 _ Y | (unfold sN;omega)
  have h5:DN Cc [LI.i (.load 1 (.n (Ac+(48+Aj))) 0),LI.i (.op I9 1 (.r 1) (.n 1)),LI.i (.store (.n (Ac+(48+Aj))) 0 (.r 1)),LI.i (.jz (.r 1) (p+1+B.length+5:Nat)),LI.i (.Gb (p+1:Nat))] 0:=by
   refine .GM hl ?_;simp only[CU,Dz,Xu,U4,and_true];refine⟨⟨?_,?_,?_⟩,⟨v2,?_,?_,?_⟩,⟨?_,?_,?_⟩,⟨?_,?_,?_⟩,?_,?_⟩ <;>first | exact J5 _ Y | exact Lw _ Y | (unfold sN;omega) | (unfold Jp;omega) | omega
  exact((h0.Fj (hB.Fj h5)).Fj h2).mono (by simp only[Xt];omega)
 | atomic b r ib ih=>
  intro d Au Aj p hw hd h3 hp;obtain⟨hi,iX,P0,hr⟩:=hw;have hs4:(El (NB Ac) 4 p).length=8:=rfl;simp only[Gx,V,IR,z9,CX,hs4,fv,qV] at hp⊢;have hB:=ib (d+1) true Aj (p+8+(n*3+3)) P0 Y Y Y;generalize hBe:Gx Ac n true Aj (p+8+(n*3+3)) b=B at hp hB⊢;have hE:=vG (Cc:=Cc) (Ac:=Ac) hl hb n (p+8+(n*3+3)+B.length) hn (Cr b) Y;generalize hEe:ON Ac n (Cr b) (p+8+(n*3+3)+B.length)=E at hp hE⊢;have h2:=ih d Au Aj (p+(8+(n*3+3+B.length+E.length)+(n*4+9+1))) hr hd h3 (by simp only[d7] at hp⊢;exact hp);obtain⟨s1,s2⟩:=Jv (Cc:=Cc) (NB Ac) 2 (fun _ _=>rfl) 4 (fun c p hc _=>mD hl hb c p Y) p Y;have hT:=qT (Cc:=Cc) (Ac:=Ac) hl hb n (p+8) hn Y;have hK:=bT (Cc:=Cc) (Ac:=Ac) hl hb n (p+8) (p+8+(n*3+3+B.length+E.length)+1) hn Y Y;have hm:=((hT.Fj hB).Fj hE).AeV (q:=(p+8+(n*3+3+B.length+E.length)+1:Nat)) Y Y;have hj:DN Cc [LI.i (.Gb (p+8+(n*3+3+B.length+E.length)+1+(n*4+9):Nat))] 0:=by
   refine .GM hl ?_;simp only[CU,Dz,Xu,U4,and_true];omega
  exact(((s1.Fj hm).Fj (hj.Fj hK)).Fj h2).mono (by simp only[Xt];omega)
theorem eP (t:List GI):(t.flatMap fun i=>i.Ae++[10]).length=bytesOf t:=by
 induction t with
 | nil=>rfl
 | cons i t ih=>simp only[Qas,V,ih,bytesOf,d8,List.sum_cons,CR,IR,m7]
theorem pn (cells:Int) (k:Nat) (t:Bt) (hk:k < 3) (Db:0<=cells/\cells<=6) (hw:WF cells t 0 false) (AD:Iw t<=14) {b o:Int} (hc:Aq t 1=some (b,o)) (hb:b<=3):
  (Gf cells k t).length<=1197/\(∀i,i∈Gf cells k t->Px 4000 i)/\bytesOf (Gf cells k t)<=40052:=by
 have h1:=(O0 cells t Db 0 false (.start k cells) hw rfl rfl).2.2;have h2:=fe t;have h3:=fz t 0 1 b o hw Y hc;have h4:=ri t;have e:=W8 cells k t (PO.of t 0 false hw);have hlen:(Gf cells k t).length=(Gx (32+64*k) cells.toNat false 0 0 t).length+1:=by rw[e];simp[rz]
 have Ago:(Gf cells k t).length<=Cg t+1:=by
  unfold Gf;show((GS.Dr t (GS.start k cells)).Ab++[GI.halt]).length<=_;rw[V];have e0:(GS.start k cells).Ab.length=0:=rfl;simp only[IR,m7];omega
 have hl:(Gf cells k t).length<=1197:=Y
 have kR:=vM (32+64*k) 4000 Y Y cells cells.toNat Y Db.2 t 0 false 0 0 hw Y Y Y;refine⟨hl,?_,?_⟩
 ·rw[e];intro i hi;rcases Nm.1 hi with hi | hi
  ·exact kR.rz Y Y i hi
  ·rw[Z] at hi;subst hi;trivial
 ·rw[e,Uo];have:=kR.len 0 Y Y;have h5:bytesOf [GI.halt]=5:=by decide+kernel
  rw[h5];omega
theorem JG (h:PS y p):(∀t,t∈CL y.cells y.Aa y.Aa.length->t.length<=1197/\(∀i,i∈t->Px 4000 i)/\bytesOf t<=40052)/\(∀t,t∈y.Aa->WF y.cells t 0 false/\Cg t<=5000)/\y.cells<=6/\y.Aa.length<=3:=by
 have D3:=h.Cc;unfold Ew at D3;simp only[Qaf,Qad,Qa4] at D3;obtain⟨fW,h3,Ie⟩:=D3;have Ad4:∀u,u∈y.Aa->∃b o,Aq u 1=some (b,o)/\b<=3:=fun u hm=>by
  have Nk:=Ie _ hm;cases eF:Aq u 1 with
  | none=>rw[eF] at Nk;cases Nk
  | some q=>rw[eF] at Nk;exact⟨q.1,q.2,rfl,by simpa using Nk⟩
 refine⟨fun t ht=> ?_,fun t ht=>⟨h.fw.th _ ht,?_⟩,fW,h3⟩
 ·obtain⟨k,hk,rfl⟩:=Qbg.1 ht;have LH:=Qbk.1 hk;have hm:y.Aa.getD k .nil∈y.Aa:=by rw[GE,Id LH];exact Qab _
  obtain⟨b,o,h1,h2⟩:=Ad4 _ hm;exact pn y.cells k _ Y ⟨h.fw.c0,fW⟩ (h.fw.th _ hm) (h.fn.all _ hm) h1 h2
 ·obtain⟨b,o,h1,h2⟩:=Ad4 _ ht;have a1:=fe t;have a2:=fz t 0 1 b o (h.fw.th _ ht) Y h1;have a3:=ri t;have a4:=h.fn.all _ ht;omega
theorem U2 (h:PS y p):(DY (CL y.cells y.Aa y.Aa.length)).length<=131072:=by
 obtain⟨Ms,_,_,h3⟩:=JG h;have hb:∀l:List (List GI),(∀t,t∈l->bytesOf t<=40052)->(DY l).length<=l.length*40059:=by
  intro l;induction l with
  | nil=>intro _;simp[DY]
  | cons t l ih=>
   intro hh;have h1:=ih fun u hu=>hh u (U _ hu)
   have h2:=hh t (J ..);unfold DY at h1⊢;simp only[Qas,V,U0,IR,eP];have h6:AE.length=6:=rfl;rw[Qdg];omega
 have:=hb _ fun t ht=>(Ms t ht).2.2
 rw[Is] at this;have:y.Aa.length*40059<=3*40059:=Qbw _ h3;omega
theorem W7 (h:PS y p):Lj (DY (CL y.cells y.Aa y.Aa.length))= .ok ⟨List.replicate 256 0,(CL y.cells y.Aa y.Aa.length).map fun t=>me (t.map GI.DR)⟩:=by
 obtain⟨Ms,_,_,h3⟩:=JG h;refine nW (Cc:=4000) Y _ ?_ ?_ (fun t ht=>⟨by have:=(Ms t ht).1;omega,(Ms t ht).2.1⟩) (U2 h)
 ·have:=h.ne;intro e;have:=Qao List.length e;rw[Is] at this;exact h.ne (RK (by simpa using this))
 ·rw[Is];exact h3
end Go.Proofs.YtpdfifdlhpmofaaGreatDoor
