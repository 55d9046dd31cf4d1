/-
  Part 47 of the proof, packed by program out of T2.
-/
import Derived.Test.YtpdfifdlhpmofaaGreatDoorZ46
import Derived.Test.YtpdfifdlhpmofaaGreatDoorZ14
import Derived.Test.YtpdfifdlhpmofaaGreatDoorZ38
set_option linter.unusedVariables false
set_option linter.unusedSimpArgs false
set_option maxHeartbeats 3200000
set_option maxRecDepth 100000
namespace Go.Proofs.YtpdfifdlhpmofaaGreatDoor
open Go.RowKit
open Go.Lib (hid)
def CD (i:GI):Nat:=i.Ae.length+1
def fB (BZ:Int):LI→Prop
 | .i i=>Qn BZ i
 | .f r=>Jv r
def sN (v:Int):Prop:=0≤v∧v≤9999
def Ta (a:Ag):Prop:=if a.BF then Jv a.v else sN a.v
def QI (BZ:Int):GI→Prop
 | .J9 d a=>Jv d∧Ta a
 | .op n d a b=>(n∈Cn)∧Jv d∧Ta a∧Ta b
 | .load d a k=>Jv d∧Ta a∧sN k
 | .store a k b=>Ta a∧sN k∧Ta b
 | .LL d a k b c=>Jv d∧Ta a∧sN k∧Ta b∧Ta c
 | .GL d a k b=>Jv d∧Ta a∧sN k∧Ta b
 | .Mf=>False
 | .out a=>Ta a
 | .Ga q=>0≤q∧q≤BZ
 | .jz a q=>Ta a∧0≤q∧q≤BZ
 | .Eu k=>1≤k∧k≤9
 | .halt=>True
def S8 (BZ:Int):LI→Prop
 | .i i=>QI BZ i
 | .f r=>Jv r
def Oh:LI→Prop
 | .i (.LL ..)=>False
 | .i (.GL ..)=>False
 | _=>True
theorem Ed {a:Ag} (h:Ta a):Ez a:=by
 unfold Ta at h;unfold Ez;split <;>rename_i hr <;>simp only[hr,if_true,if_false,Bool.false_eq_true] at h
 ·exact h
 ·obtain⟨h1,h2⟩:=h;exact⟨by omega,by omega⟩
theorem Vb {v:Int} (h:sN v):i64 v:=⟨by have:=h.1;omega,by have:=h.2;omega⟩
theorem nD {BZ:Int} {i:GI} (h:QI BZ i):Qn BZ i:=by
 cases i with
 | J9 d a=>exact⟨h.1,Ed h.2⟩
 | op n d a b=>exact⟨h.1,h.2.1,Ed h.2.2.1,Ed h.2.2.2⟩
 | load d a k=>exact⟨h.1,Ed h.2.1,Vb h.2.2⟩
 | store a k b=>exact⟨Ed h.1,Vb h.2.1,Ed h.2.2⟩
 | LL d a k b c=>exact⟨h.1,Ed h.2.1,Vb h.2.2.1,Ed h.2.2.2.1,Ed h.2.2.2.2⟩
 | GL d a k b=>exact⟨h.1,Ed h.2.1,Vb h.2.2.1,Ed h.2.2.2⟩
 | Mf=>exact h
 | out a=>exact Ed h
 | Ga q=>exact h
 | jz a q=>exact⟨Ed h.1,h.2⟩
 | Eu k=>exact h
 | halt=>trivial
theorem bR {u:Nat} (h:u≤9999):Lib.nDigits u≤4:=by
 rw[Lib.nDigits];split
 ·omega
 ·rw[Lib.nDigits];split
  ·omega
  ·rw[Lib.nDigits];split
   ·omega
   ·rw[Lib.nDigits];split <;>omega
theorem DY {v:Int} (h:sN v):(Lib.itoa v).length≤4:=by
 obtain⟨h1,h2⟩:=h;unfold Lib.itoa;rw[if_neg (by omega),Lib.decDigits_length];exact bR (by omega)
theorem Oo {v:Int} (h:i64 v):(Lib.itoa v).length≤21:=Lib.itoa_length_le v h.1 h.2
theorem Fw {k:Int} (h:Jv k):(FE k).length=2:=by
 obtain⟨c,hc,_⟩:=Wz h;unfold FE;rw[hc];rfl
theorem DQ {a:Ag} (h:Ta a):(EN a).length≤4:=by
 unfold Ta at h;unfold EN;split <;>rename_i hr <;>simp only[hr,if_true,if_false,Bool.false_eq_true] at h
 ·rw[Fw h];omega
 ·exact DY h
theorem Is {a:Ag} (h:Ez a):(EN a).length≤21:=by
 unfold Ez at h;unfold EN;split <;>rename_i hr <;>simp only[hr,if_true,if_false,Bool.false_eq_true] at h
 ·rw[Fw h];omega
 ·exact Oo h
theorem Q3 {n:ByteArray} (h:n∈Cn):(bs n).length≤3:=by
 revert h;revert n
 have:∀n,n∈Cn→(bs n).length≤3:=by decide+kernel
 exact this
theorem Ur {BZ:Int} (hl:BZ≤4000) {i:GI} (h:QI BZ i):CD i≤27:=by
 cases i with
 | J9 d a=>
  have h1:=Fw h.1;have h2:=DQ h.2;simp[CD,GI.Ae,GI.ws,BC];omega
 | op n d a b=>
  have h1:=Fw h.2.1;have h2:=DQ h.2.2.1;have h3:=DQ h.2.2.2;have h4:=Q3 h.1;simp only[CD,GI.Ae,GI.ws,BC,List.length_append,List.length_cons];omega
 | load d a k=>
  have h1:=Fw h.1;have h2:=DQ h.2.1;have h3:=DY h.2.2;simp[CD,GI.Ae,GI.ws,BC];omega
 | store a k b=>
  have h1:=DQ h.1;have h2:=DY h.2.1;have h3:=DQ h.2.2;simp[CD,GI.Ae,GI.ws,BC];omega
 | LL d a k b c=>
  have h1:=Fw h.1;have h2:=DQ h.2.1;have h3:=DY h.2.2.1;have h4:=DQ h.2.2.2.1;have h5:=DQ h.2.2.2.2;simp[CD,GI.Ae,GI.ws,BC];omega
 | GL d a k b=>
  have h1:=Fw h.1;have h2:=DQ h.2.1;have h3:=DY h.2.2.1;have h4:=DQ h.2.2.2;simp[CD,GI.Ae,GI.ws,BC];omega
 | Mf=>simp[CD,GI.Ae,GI.ws,BC]
 | out a=>
  have h1:=DQ h;simp[CD,GI.Ae,GI.ws,BC];omega
 | Ga q=>
  have h1:=DY (v:=q) ⟨h.1,by have:=h.2;omega⟩;simp[CD,GI.Ae,GI.ws,BC];omega
 | jz a q=>
  have h1:=DQ h.1;have h2:=DY (v:=q) ⟨h.2.1,by have:=h.2.2;omega⟩;simp[CD,GI.Ae,GI.ws,BC];omega
 | Eu k=>
  have h1:=DY (v:=k) ⟨by have:=h.1;omega,by have:=h.2;omega⟩;simp[CD,GI.Ae,GI.ws,BC];omega
 | halt=>simp[CD,GI.Ae,GI.ws,BC]
theorem kQ {BZ:Int} (hl:BZ≤4000) {i:GI} (h:Qn BZ i) (hc:Oh (.i i)):CD i≤73:=by
 cases i with
 | J9 d a=>
  have h1:=Fw h.1;have h2:=Is h.2;simp[CD,GI.Ae,GI.ws,BC];omega
 | op n d a b=>
  have h1:=Fw h.2.1;have h2:=Is h.2.2.1;have h3:=Is h.2.2.2;have h4:=Q3 h.1;simp only[CD,GI.Ae,GI.ws,BC,List.length_append,List.length_cons];omega
 | load d a k=>
  have h1:=Fw h.1;have h2:=Is h.2.1;have h3:=Oo h.2.2;simp[CD,GI.Ae,GI.ws,BC];omega
 | store a k b=>
  have h1:=Is h.1;have h2:=Oo h.2.1;have h3:=Is h.2.2;simp[CD,GI.Ae,GI.ws,BC];omega
 | LL d a k b c=>exact hc.elim
 | GL d a k b=>exact hc.elim
 | Mf=>simp[CD,GI.Ae,GI.ws,BC]
 | out a=>
  have h1:=Is h;simp[CD,GI.Ae,GI.ws,BC];omega
 | Ga q=>
  have h1:=DY (v:=q) ⟨h.1,by have:=h.2;omega⟩;simp[CD,GI.Ae,GI.ws,BC];omega
 | jz a q=>
  have h1:=Is h.1;have h2:=DY (v:=q) ⟨h.2.1,by have:=h.2.2;omega⟩;simp[CD,GI.Ae,GI.ws,BC];omega
 | Eu k=>
  have h1:=DY (v:=k) ⟨by have:=h.1;omega,by have:=h.2;omega⟩;simp[CD,GI.Ae,GI.ws,BC];omega
 | halt=>simp[CD,GI.Ae,GI.ws,BC]
def Fp (l:List GI):Nat:=(l.map CD).sum
structure Dt (BZ:Int) (l:List LI) (a:Nat):Prop where
 ok:∀x,x∈l→fB BZ x
 len:∀q:Int,0≤q→q≤BZ→Fp (rz q l)≤27*l.length+46*a
theorem fA {BZ q:Int} {x:LI} (h:fB BZ x) (h0:0≤q) (h1:q≤BZ):Qn BZ (x.A5 q):=by
 cases x with
 | i x=>exact h
 | f r=>exact⟨h,h0,h1⟩
theorem Dt.rz {BZ:Int} {l:List LI} {a:Nat} (h:Dt BZ l a) {q:Int} (h0:0≤q) (h1:q≤BZ):∀i,i∈rz q l→Qn BZ i:=by
 intro i hi;obtain⟨x,hx,rfl⟩:=List.mem_map.1 hi;exact fA (h.ok x hx) h0 h1
theorem Dt.nil (BZ:Int):Dt BZ [] 0:=⟨fun x h=>by simp at h,fun q _ _=>by simp[Fp,_root_.Go.Proofs.YtpdfifdlhpmofaaGreatDoor.rz]⟩
theorem Qj (l m:List GI):Fp (l++m)=Fp l+Fp m:=by simp[Fp]
theorem Dt.Ec {BZ:Int} {l m:List LI} {a b:Nat} (h:Dt BZ l a) (k:Dt BZ m b):Dt BZ (l++m) (a+b):=
 ⟨fun x hx=>(List.mem_append.1 hx).elim (h.ok x) (k.ok x),fun q h0 h1=>by
   have:=h.len q h0 h1;have:=k.len q h0 h1;rw[Vd,Qj,List.length_append];omega⟩
theorem Dt.mono {BZ:Int} {l:List LI} {a b:Nat} (h:Dt BZ l a) (Hh:a≤b):Dt BZ l b:=
 ⟨h.ok,fun q h0 h1=>by have:=h.len q h0 h1;omega⟩
theorem Dt.F6 {BZ:Int} (hl:BZ≤4000) {l:List LI} (h:∀x,x∈l→S8 BZ x):Dt BZ l 0:=by
 induction l with
 | nil=>exact Dt.nil BZ
 | cons x l ih=>
  have h1:=h x (List.mem_cons_self ..);have ih:=ih fun y hy=>h y (List.mem_cons_of_mem _ hy)
  have hx:fB BZ x:=by
   cases x with
   | i x=>exact nD h1
   | f r=>exact h1
  refine⟨fun y hy=>(List.mem_cons.1 hy).elim (fun e=>e▸hx) (ih.ok y),fun q h0 hq=> ?_⟩;have:=ih.len q h0 hq;have Ef:CD (x.A5 q)≤27:=by
   cases x with
   | i x=>exact Ur hl h1
   | f r=>exact Ur hl (BZ:=BZ) ⟨by unfold Ta;exact h1,h0,hq⟩
  simp only[Fp,_root_.Go.Proofs.YtpdfifdlhpmofaaGreatDoor.rz,List.map_cons,List.sum_cons,List.length_cons] at this⊢;omega
theorem Dt.any {BZ:Int} (hl:BZ≤4000) {l:List LI} (h:∀x,x∈l→fB BZ x∧Oh x):Dt BZ l l.length:=by
 induction l with
 | nil=>exact Dt.nil BZ
 | cons x l ih=>
  obtain⟨hx,hc⟩:=h x (List.mem_cons_self ..);have ih:=ih fun y hy=>h y (List.mem_cons_of_mem _ hy)
  refine⟨fun y hy=>(List.mem_cons.1 hy).elim (fun e=>e▸hx) (ih.ok y),fun q h0 hq=> ?_⟩;have:=ih.len q h0 hq;have Ef:CD (x.A5 q)≤73:=kQ hl (fA hx h0 hq) (by cases x with | i x=>exact hc | f r=>trivial);simp only[Fp,_root_.Go.Proofs.YtpdfifdlhpmofaaGreatDoor.rz,List.map_cons,List.sum_cons,List.length_cons] at this⊢;omega
theorem Dt.uE {BZ:Int} {l:List LI} {a:Nat} (h:Dt BZ l a) {q:Int} (h0:0≤q) (h1:q≤BZ):Dt BZ ((_root_.Go.Proofs.YtpdfifdlhpmofaaGreatDoor.rz q l).map LI.i) a:=by
 refine⟨fun x hx=> ?_,fun r _ _=> ?_⟩
 ·obtain⟨i,hi,rfl⟩:=List.mem_map.1 hx;exact h.rz h0 h1 i hi
 ·rw[eS,List.length_map,Vc];exact h.len q h0 h1
theorem Df (P:LI→Prop):(∀x,x∈([]:List LI)→P x)↔True:=by simp
theorem CE (P:LI→Prop) (a:LI) (l:List LI):(∀x,x∈a::l→P x)↔P a∧∀x,x∈l→P x:=by simp
section
variable {Ah:Int} {BZ:Int}
theorem It:Fk∈Cn∧Dx∈Cn∧Ib∈Cn∧PY∈Cn∧Tr∈Cn∧Li∈Cn∧D6∈Cn∧GB∈Cn:=
 ⟨List.mem_of_getElem? (i:=0) rfl,List.mem_of_getElem? (i:=1) rfl,List.mem_of_getElem? (i:=5) rfl,List.mem_of_getElem? (i:=6) rfl,List.mem_of_getElem? (i:=8) rfl,List.mem_of_getElem? (i:=9) rfl,List.mem_of_getElem? (i:=10) rfl,List.mem_of_getElem? (i:=11) rfl⟩
theorem J5 (k:Int) (h:0≤k∧k≤7):Ta (.r k):=by unfold Ta Ag.r;exact h
theorem IZ (k:Int) (h:0≤k∧k≤9999):Ta (.n k):=by unfold Ta Ag.n;exact h
theorem OZ (hl:BZ≤4000) (hb:0≤Ah∧Ah≤1000) (r:Int) (hr:0≤r∧r≤7):Dt BZ (Ju Ah r) 0:=by
 obtain⟨v1,v2,v3,v4,v5,v6,v7,v8⟩:=It;refine .F6 hl ?_;unfold Ju;simp only[CE,Df,S8,QI,and_true];refine⟨⟨v3,?_,?_,?_⟩,⟨v8,?_,?_,?_⟩,?_,⟨v6,?_,?_,?_⟩,⟨?_,?_,?_⟩,⟨v7,?_,?_,?_⟩,⟨v8,?_,?_,?_⟩,?_⟩ <;>first | exact J5 _ (by omega) | exact IZ _ (by omega) | (unfold Jv;omega) | (unfold sN;omega)
theorem Mq {a:At} (h:Gn a) (r:Int) (hr:Jv r):_root_.Go.Proofs.YtpdfifdlhpmofaaGreatDoor.Ez (GS.As a r):=by
 unfold Gn at h;unfold GS.As;split <;>rename_i hl <;>simp only[hl,if_true,if_false,Bool.false_eq_true] at h
 ·exact hr
 ·exact h
theorem Km (hl:BZ≤4000) (hb:0≤Ah∧Ah≤1000) (a:At) (ha:Gn a) (r:Int) (hr:Jv r):Dt BZ (F4 Ah a r) 0:=by
 refine .F6 hl ?_;unfold F4;split <;>rename_i vD
 ·unfold Gn at ha;rw[if_pos vD] at ha;simp only[CE,Df,S8,QI,and_true];refine⟨hr,?_,?_⟩ <;>first | exact IZ _ (by omega) | (unfold sN;omega)
 ·simp
theorem UL (hl:BZ≤4000) (hb:0≤Ah∧Ah≤1000) (p:Nat) (f s:Int) (hf:0≤f∧f≤100∧0≤s∧s≤100) (a:At) (ha:Gn a) (hp:(p+(IT Ah p f s a).length:Int)≤BZ):Dt BZ (IT Ah p f s a) 8:=by
 obtain⟨v1,v2,v3,v4,v5,v6,v7,v8⟩:=It;unfold IT at hp⊢;rw[List.length_append] at hp;have h8:(SK (p+(F4 Ah a 0).length) f s (GS.As a 0)).length=8:=rfl;rw[h8] at hp;have h0:=Km hl hb a ha 0 ⟨by omega,by omega⟩;have hA:=Mq ha 0 ⟨by omega,by omega⟩;refine(h0.Ec (b:=8) ?_).mono (by omega);refine .any hl ?_;unfold SK;simp only[CE,Df,fB,Qn,Oh,and_true];refine⟨⟨v7,?_,hA,?_⟩,⟨?_,?_,?_⟩,?_,⟨v7,?_,hA,?_⟩,⟨v8,?_,?_,?_⟩,⟨?_,?_,?_⟩,?_,⟨v1,?_,hA,?_⟩⟩ <;>first | exact Ed (J5 _ (by omega)) | exact Ed (IZ _ (by omega)) | (unfold Jv;omega) | omega
theorem iH (hl:BZ≤4000) (hb:0≤Ah∧Ah≤1000) (p:Nat) (hp:(p+18:Int)≤BZ):Dt BZ (Zg Ah p) 0:=by
 obtain⟨v1,v2,v3,v4,v5,v6,v7,v8⟩:=It;unfold Zg;refine((Dt.Ec (a:=0) (b:=0) ?_ (OZ hl hb 2 (by omega))).Ec (b:=0) ?_)
 ·refine .F6 hl ?_;simp only[CE,Df,S8,QI,and_true];refine⟨⟨?_,?_,?_⟩,⟨?_,?_,?_⟩,⟨?_,?_,?_⟩,⟨?_,?_⟩,?_,?_,?_⟩ <;>first | exact J5 _ (by omega) | exact IZ _ (by omega) | (unfold Jv;omega) | (unfold sN;omega) | omega
 ·refine .F6 hl ?_;simp only[CE,Df,S8,QI,and_true];refine⟨⟨?_,?_,?_⟩,⟨?_,?_,?_⟩,⟨v8,?_,?_,?_⟩,?_,?_,?_,?_⟩ <;>first | exact J5 _ (by omega) | exact IZ _ (by omega) | (unfold Jv;omega) | (unfold sN;omega) | omega
theorem ch (hl:BZ≤4000) (hb:0≤Ah∧Ah≤1000) (c p:Nat) (hc:c < 6) (hp:(p+16:Int)≤BZ):Dt BZ (PZ Ah c p) 0:=by
 obtain⟨v1,v2,v3,v4,v5,v6,v7,v8⟩:=It;unfold PZ;refine((Dt.Ec (a:=0) (b:=0) ?_ (OZ hl hb 2 (by omega))).Ec (b:=0) ?_)
 ·refine .F6 hl ?_;simp only[CE,Df,S8,QI,and_true];refine⟨⟨?_,?_,?_⟩,⟨?_,?_,?_⟩,?_,?_,?_⟩ <;>first | exact J5 _ (by omega) | exact IZ _ (by omega) | (unfold Jv;omega) | (unfold sN;omega) | omega
 ·refine .F6 hl ?_;simp only[CE,Df,S8,QI,and_true];refine⟨⟨v4,?_,?_,?_⟩,⟨?_,?_,?_,?_,?_⟩,?_,⟨?_,?_,?_⟩,?_,?_,?_⟩ <;>first | exact J5 _ (by omega) | exact IZ _ (by omega) | (unfold Jv;omega) | (unfold sN;omega) | omega
theorem cd (hl:BZ≤4000) (hb:0≤Ah∧Ah≤1000) (c p:Nat) (hc:c < 6) (hp:(p+14:Int)≤BZ):Dt BZ (RN Ah c p) 0:=by
 unfold RN;refine(Dt.Ec (a:=0) (b:=0) ?_ (OZ hl hb 2 (by omega)));refine .F6 hl ?_;simp only[CE,Df,S8,QI,and_true];refine⟨⟨?_,?_,?_⟩,⟨?_,?_,?_⟩,⟨?_,?_,?_⟩,⟨?_,?_,?_⟩,⟨?_,?_⟩,?_,?_,?_⟩ <;>first | exact J5 _ (by omega) | exact IZ _ (by omega) | (unfold Jv;omega) | (unfold sN;omega) | omega
theorem fo (hl:BZ≤4000) (hb:0≤Ah∧Ah≤1000) (c p:Nat) (hc:c < 6) (hp:(p+4:Int)≤BZ):Dt BZ (YD Ah c p) 0:=by
 refine .F6 hl ?_;unfold YD;simp only[CE,Df,S8,QI,and_true];refine⟨⟨?_,?_,?_⟩,⟨?_,?_,?_⟩,⟨?_,?_,?_⟩,?_,?_,?_⟩ <;>first | exact J5 _ (by omega) | exact IZ _ (by omega) | (unfold Jv;omega) | (unfold sN;omega) | omega
theorem di (hl:BZ≤4000) (hb:0≤Ah∧Ah≤1000) (c p:Nat) (hc:c < 6) (hp:(p+3:Int)≤BZ):Dt BZ (SA Ah c p) 0:=by
 refine .F6 hl ?_;unfold SA;simp only[CE,Df,S8,QI,and_true];refine⟨⟨?_,?_,?_⟩,⟨?_,?_,?_⟩,?_,?_,?_⟩ <;>first | exact J5 _ (by omega) | exact IZ _ (by omega) | (unfold Jv;omega) | (unfold sN;omega) | omega
theorem dB (hl:BZ≤4000) (hb:0≤Ah∧Ah≤1000) (c p:Nat) (hc:c < 6) (hp:(p+4:Int)≤BZ):Dt BZ (Qk Ah c p) 0:=by
 refine .F6 hl ?_;unfold Qk;simp only[CE,Df,S8,QI,and_true];refine⟨⟨?_,?_,?_⟩,⟨?_,?_,?_⟩,⟨?_,?_,?_⟩,?_,?_,?_⟩ <;>first | exact J5 _ (by omega) | exact IZ _ (by omega) | (unfold Jv;omega) | (unfold sN;omega) | omega
theorem cw (hl:BZ≤4000) (hb:0≤Ah∧Ah≤1000) (c p:Nat) (hc:c < 6):Dt BZ (P2 Ah c p) 0:=by
 refine .F6 hl ?_;unfold P2;simp only[CE,Df,S8,QI,and_true];refine⟨⟨?_,?_,?_⟩,?_,?_,?_⟩ <;>first | exact J5 _ (by omega) | exact IZ _ (by omega) | (unfold Jv;omega) | (unfold sN;omega) | omega
theorem bA (hl:BZ≤4000) (hb:0≤Ah∧Ah≤1000) (c p:Nat) (hc:c < 6):Dt BZ (N9 Ah c p) 0:=by
 refine .F6 hl ?_;unfold N9;simp only[CE,Df,S8,QI,and_true];refine⟨⟨?_,?_,?_⟩,?_,?_,?_⟩ <;>first | exact J5 _ (by omega) | exact IZ _ (by omega) | (unfold Jv;omega) | (unfold sN;omega) | omega
theorem Zx (hl:BZ≤4000) (hb:0≤Ah∧Ah≤1000) (c p:Nat) (hc:c < 6):Dt BZ (Mk Ah c p) 0:=by
 refine .F6 hl ?_;unfold Mk;simp only[CE,Df,S8,QI,and_true];refine⟨⟨?_,?_,?_⟩,⟨?_,?_,?_⟩,?_,?_,?_⟩ <;>first | exact J5 _ (by omega) | exact IZ _ (by omega) | (unfold Jv;omega) | (unfold sN;omega) | omega
theorem TL (hl:BZ≤4000) (hb:0≤Ah∧Ah≤1000) (p:Nat) (hp:(p+8:Int)≤BZ):Dt BZ (TN Ah p) 0:=by
 obtain⟨v1,v2,v3,v4,v5,v6,v7,v8⟩:=It;refine .F6 hl ?_;unfold TN;simp only[CE,Df,S8,QI,and_true];refine⟨⟨?_,?_⟩,⟨?_,?_,?_⟩,⟨v7,?_,?_,?_⟩,⟨?_,?_,?_⟩,⟨?_,?_,?_⟩,?_,⟨v1,?_,?_,?_⟩,?_,?_⟩ <;>first | exact J5 _ (by omega) | exact IZ _ (by omega) | (unfold Jv;omega) | (unfold sN;omega) | omega
theorem Iw (f:Nat→Nat→List LI) (m:Nat) (hlen:∀c p,(f c p).length=m) (n:Nat) (h:∀c p:Nat,c < n→((p+m:Nat):Int)≤BZ→Dt BZ (f c p) 0):∀p:Nat,((p+n*m:Nat):Int)≤BZ→Dt BZ (F7 f n p) 0∧(F7 f n p).length=n*m:=by
 induction n with
 | zero=>intro p _;exact⟨.nil BZ,by simp[F7]⟩
 | succ n ih=>
  intro p hp;rw[Nat.add_mul,Nat.one_mul] at hp⊢;obtain⟨i1,i2⟩:=ih (fun c p hc=>h c p (by omega)) p (by omega);simp only[F7,List.length_append,i2,hlen];exact⟨i1.Ec (b:=0) (h n _ (by omega) (by omega)),trivial⟩
theorem Xx (hl:BZ≤4000) (hb:0≤Ah∧Ah≤1000) (n p:Nat) (hn:n≤6) (hp:((p+n*37+3:Nat):Int)≤BZ):Dt BZ (Jb Ah n p) 0∧(Jb Ah n p).length=n*37+3:=by
 obtain⟨v1,v2,v3,v4,v5,v6,v7,v8⟩:=It;obtain⟨a1,a2⟩:=Iw (PZ Ah) 16 (fun _ _=>rfl) n (fun c p hc hp=>ch hl hb c p (by omega) (by omega)) p (by omega);have sq:Dt BZ jf 0:=by
  refine .F6 hl ?_;unfold jf;simp only[CE,Df,S8,QI,and_true];refine⟨⟨?_,?_,?_,?_⟩,⟨v1,?_,?_,?_⟩,v5,?_,?_,?_⟩ <;>first | exact J5 _ (by omega) | exact IZ _ (by omega) | (unfold Jv;omega) | (unfold sN;omega) | omega
 have b1:=a1.Ec sq;have l1:(F7 (PZ Ah) n p++jf).length=n*16+3:=by rw[List.length_append,a2];rfl
 obtain⟨c1,c2⟩:=Iw (RN Ah) 14 (fun _ _=>rfl) n (fun c p hc hp=>cd hl hb c p (by omega) (by omega)) (p+(n*16+3)) (by omega);obtain⟨d1,d2⟩:=Iw (YD Ah) 4 (fun _ _=>rfl) n (fun c p hc hp=>fo hl hb c p (by omega) (by omega)) (p+(n*16+3+n*14)) (by omega);obtain⟨e1,e2⟩:=Iw (SA Ah) 3 (fun _ _=>rfl) n (fun c p hc hp=>di hl hb c p (by omega) (by omega)) (p+(n*16+3+n*14+n*4)) (by omega);unfold Jb;simp only[List.length_append,l1,c2,d2];exact⟨((b1.Ec c1).Ec d1).Ec e1,by simp only[List.length_append,a2,c2,d2,e2];show n*16+3+_+_+_=_;omega⟩
theorem iU (hl:BZ≤4000) (hb:0≤Ah∧Ah≤1000) (n p:Nat) (hn:n≤6) (Cu:Bool) (hp:((p+(Xu Ah n Cu p).length:Nat):Int)≤BZ):Dt BZ (Xu Ah n Cu p) 0:=by
 unfold Xu at hp⊢;cases Cu with
 | true=>
  simp only[if_true] at hp⊢;rw[List.length_append] at hp;have Pb:(Jb Ah n p).length=n*37+3:=by
   unfold Jb;have hr:∀(f:Nat→Nat→List LI) (m:Nat),(∀c p,(f c p).length=m)→∀n p,(F7 f n p).length=n*m:=by
    intro f m hf n;induction n with
    | zero=>intro p;simp[F7]
    | succ n ih=>intro p;simp only[F7,List.length_append,ih,hf];rw[Nat.add_mul,Nat.one_mul]
   simp only[List.length_append,hr (PZ Ah) 16 (fun _ _=>rfl),hr (RN Ah) 14 (fun _ _=>rfl),hr (YD Ah) 4 (fun _ _=>rfl),hr (SA Ah) 3 (fun _ _=>rfl)];show n*16+3+_+_+_=_;omega
  have h8:∀q,(TN Ah q).length=8:=fun _=>rfl
  rw[Pb,h8] at hp;obtain⟨a1,a2⟩:=Xx hl hb n p hn (by omega);rw[a2];exact a1.Ec (TL hl hb _ (by omega))
 | false=>
  simp only[Bool.false_eq_true,if_false,List.nil_append,List.length_nil,Nat.add_zero] at hp⊢;have h8:(TN Ah p).length=8:=rfl;rw[h8] at hp;exact TL hl hb p (by omega)
theorem ew (hl:BZ≤4000) (hb:0≤Ah∧Ah≤1000) (n p:Nat) (hn:n≤6) (hp:((p+n*3:Nat):Int)≤BZ):Dt BZ (Q8 Ah n p) 0:=by
 obtain⟨a1,a2⟩:=Iw (Mk Ah) 3 (fun _ _=>rfl) n (fun c p hc hp=>Zx hl hb c p (by omega)) p hp;refine a1.Ec (b:=0) (.F6 hl ?_);simp only[CE,Df,S8,QI,and_true];refine⟨⟨?_,?_,?_⟩,⟨?_,?_,?_⟩,?_,?_,?_⟩ <;>first | exact J5 _ (by omega) | exact IZ _ (by omega) | (unfold Jv;omega) | (unfold sN;omega) | omega
theorem VV (hl:BZ≤4000) (hb:0≤Ah∧Ah≤1000) (n top p:Nat) (hn:n≤6) (ht:(top:Int)≤BZ) (hp:((p+n*4+8:Nat):Int)≤BZ):Dt BZ (J2 Ah n top p) 0:=by
 obtain⟨a1,a2⟩:=Iw (Qk Ah) 4 (fun _ _=>rfl) n (fun c p hc hp=>dB hl hb c p (by omega) (by omega)) p (by omega);obtain⟨b1,b2⟩:=Iw (P2 Ah) 2 (fun _ _=>rfl) 4 (fun c p hc hp=>cw hl hb c p (by omega)) (p+n*4) (by omega);unfold J2;rw[a2];refine(a1.Ec b1).Ec (b:=0) (.F6 hl ?_);simp only[CE,Df,S8,QI,and_true];omega
end
theorem XE (Ah:Int) (n top p:Nat):(J2 Ah n top p).length=n*4+9:=by
 have hr:∀(f:Nat→Nat→List LI) (m:Nat),(∀c p,(f c p).length=m)→∀n p,(F7 f n p).length=n*m:=by
  intro f m hf n;induction n with
  | zero=>intro p;simp[F7]
  | succ n ih=>intro p;simp only[F7,List.length_append,ih,hf];rw[Nat.add_mul,Nat.one_mul]
 unfold J2;simp only[List.length_append,hr (Qk Ah) 4 (fun _ _=>rfl),hr (P2 Ah) 2 (fun _ _=>rfl),List.length_cons,List.length_nil]
theorem eA (Ah:Int) (n p:Nat):(Q8 Ah n p).length=n*3+3:=by
 have hr:∀(f:Nat→Nat→List LI) (m:Nat),(∀c p,(f c p).length=m)→∀n p,(F7 f n p).length=n*m:=by
  intro f m hf n;induction n with
  | zero=>intro p;simp[F7]
  | succ n ih=>intro p;simp only[F7,List.length_append,ih,hf];rw[Nat.add_mul,Nat.one_mul]
 unfold Q8;simp only[List.length_append,hr (Mk Ah) 3 (fun _ _=>rfl),List.length_cons,List.length_nil]
def SZ:Ck→Nat
 | .nil=>0
 | .set _ _ _ _ r=>1+SZ r
 | .get _ _ _ _ r=>1+SZ r
 | .put _ _ _ _ r=>1+SZ r
 | .out _ r=>1+SZ r
 | .atomic b r=>1+SZ b+SZ r
 | .ES _ b r=>1+SZ b+SZ r
 | .loop _ b r=>1+SZ b+SZ r
def Tz:Ck→Nat
 | .nil=>0
 | .set _ _ _ _ r=>Tz r
 | .get _ _ _ _ r=>Tz r
 | .put _ _ _ _ r=>Tz r
 | .out _ r=>Tz r
 | .atomic b r=>1+Tz b+Tz r
 | .ES _ b r=>Tz b+Tz r
 | .loop _ b r=>Tz b+Tz r
theorem eH (t:Ck):(SZ t:Int)=JR t:=by
 induction t <;>simp only[SZ,JR] <;>omega
theorem Xw (t:Ck):Ci t≤28*SZ t+268*Tz t:=by
 induction t <;>simp only[Ci,SZ,Tz] <;>omega
theorem pG {cells:Int} (t:Ck):∀d,WF cells t d true→Tz t=0:=by
 induction t with
 | nil=>intro d _;rfl
 | set v op a b r ih=>intro d h;exact ih d h.2.2.2.2
 | get v f s a r ih=>intro d h;exact ih d h.2.2.2.2
 | put f s a b r ih=>intro d h;exact ih d h.2.2.2.2
 | out a r ih=>intro d h;exact ih d h.2
 | atomic b r ib ih=>intro d h;exact absurd h.1 (by decide)
 | ES a b r ib ih=>intro d h;simp only[Tz,ib _ h.2.2.1,ih d h.2.2.2]
 | loop k b r ib ih=>intro d h;simp only[Tz,ib _ h.2.2.1,ih d h.2.2.2]
theorem XG {cells:Int} (t:Ck):∀(d:Nat) (n:Int) (b o:Int),WF cells t d false→1≤n→Az t n=some (b,o)→(Tz t:Int)≤b:=by
 induction t with
 | nil=>intro d n b o _ _ h;simp only[Az,Option.some.injEq,Prod.mk.injEq] at h;simp only[Tz];omega
 | set v op a c r ih=>intro d n b o hw hn h;exact ih d n b o hw.2.2.2.2 hn h
 | get v f s a r ih=>intro d n b o hw hn h;exact ih d n b o hw.2.2.2.2 hn h
 | put f s a c r ih=>intro d n b o hw hn h;exact ih d n b o hw.2.2.2.2 hn h
 | out a r ih=>
  intro d n b o hw hn h;simp only[Az] at h;cases hc:Az r n with
  | none=>rw[hc] at h;cases h
  | some q=>
   rw[hc] at h;simp only[Option.some.injEq,Prod.mk.injEq] at h;have:=ih d n q.1 q.2 hw.2 hn hc;simp only[Tz];omega
 | atomic c r ib ih=>
  intro d n b o hw hn h;simp only[Az] at h;cases hc:Az c 1 with
  | none=>rw[hc] at h;cases h
  | some q=>
   rw[hc] at h;simp only[] at h;split at h
   ·cases h
   ·cases hr:Az r n with
    | none=>rw[hr] at h;cases h
    | some q'=>
     rw[hr] at h;simp only[Option.some.injEq,Prod.mk.injEq] at h;have:=ih d n q'.1 q'.2 hw.2.2.2 hn hr;have h0:=pG c _ hw.2.2.1;simp only[Tz,h0];omega
 | ES a c r ib ih=>
  intro d n b o hw hn h;simp only[Az] at h;cases hc:Az c n with
  | none=>rw[hc] at h;cases h
  | some q=>
   rw[hc] at h;cases hr:Az r n with
   | none=>rw[hr] at h;cases h
   | some q'=>
    rw[hr] at h;simp only[Option.some.injEq,Prod.mk.injEq] at h;have:=ih d n q'.1 q'.2 hw.2.2.2 hn hr;have:=ib (d+1) n q.1 q.2 hw.2.2.1 hn hc;simp only[Tz];omega
 | loop k c r ib ih=>
  intro d n b o hw hn h;simp only[Az] at h;cases hc:Az c (n*k) with
  | none=>rw[hc] at h;cases h
  | some q=>
   rw[hc] at h;cases hr:Az r n with
   | none=>rw[hr] at h;cases h
   | some q'=>
    rw[hr] at h;simp only[Option.some.injEq,Prod.mk.injEq] at h;have:=ih d n q'.1 q'.2 hw.2.2.2 hn hr;have hk:1≤n*k:=by
     have h1:=hw.1.1;have:1*1≤n*k:=Int.mul_le_mul hn h1 (by omega) (by omega);omega
    have:=ib (d+1) (n*k) q.1 q.2 hw.2.2.1 hk hc;simp only[Tz];omega
theorem NO.of {cells:Int} (t:Ck):∀(d:Nat) (i:Bool),WF cells t d i→NO t i:=by
 induction t with
 | nil=>intro d i _;trivial
 | set v op a b r ih=>intro d i h;exact ih d i h.2.2.2.2
 | get v f s a r ih=>intro d i h;exact ih d i h.2.2.2.2
 | put f s a b r ih=>intro d i h;exact ih d i h.2.2.2.2
 | out a r ih=>intro d i h;exact ih d i h.2
 | atomic b r ib ih=>intro d i h;exact⟨h.1,ib _ _ h.2.2.1,ih d i h.2.2.2⟩
 | ES a b r ib ih=>intro d i h;exact⟨ib _ _ h.2.2.1,ih d i h.2.2.2⟩
 | loop k b r ib ih=>intro d i h;exact⟨ib _ _ h.2.2.1,ih d i h.2.2.2⟩
theorem iY (Ah BZ:Int) (hl:BZ≤4000) (hb:0≤Ah∧Ah≤1000) (cells:Int) (n:Nat) (hn:n≤6) (Dp:cells≤6) (t:Ck):∀(d:Nat) (AP:Bool) (Aj p:Nat),WF cells t d AP→Aj≤d→d≤3→
  ((p+(KR Ah n AP Aj p t).length:Nat):Int)≤BZ→Dt BZ (KR Ah n AP Aj p t) (12*SZ t):=by
 induction t with
 | nil=>intro d AP Aj p _ _ _ _;exact .nil BZ
 | set v op a b r ih=>
  intro d AP Aj p hw hd h3 hp;obtain⟨hv,II,ha,o6,hr⟩:=hw;simp only[KR,List.length_append] at hp⊢;have h2:=ih d AP Aj _ hr hd h3 (by rw[Nat.add_assoc];exact hp);have h1:Dt BZ (Wq Ah v op a b) 12:=by
   unfold Wq;have A1:=Mq ha 1 ⟨by omega,by omega⟩;have B2:=Mq o6 2 ⟨by omega,by omega⟩;have c1:=Km (BZ:=BZ) (Ah:=Ah) hl hb a ha 1 ⟨by omega,by omega⟩;have c2:=Km (BZ:=BZ) (Ah:=Ah) hl hb b o6 2 ⟨by omega,by omega⟩;split <;>rename_i ho
   ·refine(c1.Ec (b:=1) (.any hl ?_)).mono (by omega);simp only[CE,Df,fB,Qn,Oh,and_true];refine⟨?_,?_,A1⟩ <;>first | exact Ed (IZ _ (by omega)) | (unfold i64;omega)
   ·refine((c1.Ec c2).Ec (b:=2) (.any hl ?_)).mono (by omega);simp only[CE,Df,fB,Qn,Oh,and_true];refine⟨⟨II.resolve_left ho,?_,A1,B2⟩,?_,?_,?_⟩ <;>first | exact Ed (IZ _ (by omega)) | exact Ed (J5 _ (by omega)) | (unfold i64;omega) | (unfold Jv;omega)
  exact(h1.Ec h2).mono (by simp only[SZ];omega)
 | get v f s a r ih=>
  intro d AP Aj p hw hd h3 hp;obtain⟨hv,hf,ha,hi,hr⟩:=hw;simp only[KR,List.length_append] at hp⊢;have hg:∀q,(Zg Ah q).length=18:=fun _=>rfl
  simp only[hg,List.length_cons,List.length_nil] at hp⊢;have h2:=ih d AP Aj (p+((IT Ah p f s a).length+18+(0+1))) hr hd h3 (by simp only[Nat.add_assoc] at hp⊢;exact hp);have h1:=UL (BZ:=BZ) (Ah:=Ah) hl hb p f s ⟨by omega,by omega,by omega,by omega⟩ a ha (by omega);have h4:=iH (BZ:=BZ) (Ah:=Ah) hl hb (p+(IT Ah p f s a).length) (by omega);have h5:Dt BZ [LI.i (.store (.n (Ah+v)) 0 (.r 1))] 0:=by
   refine .F6 hl ?_;simp only[CE,Df,S8,QI,and_true];refine⟨?_,?_,?_⟩ <;>first | exact J5 _ (by omega) | exact IZ _ (by omega) | (unfold sN;omega)
  exact(((h1.Ec h4).Ec h5).Ec h2).mono (by simp only[SZ];omega)
 | put f s i a r ih=>
  intro d AP Aj p hw hd h3 hp;obtain⟨hf,hi,ha,Tc,hr⟩:=hw;simp only[KR,List.length_append,List.length_cons,List.length_nil] at hp⊢;have h2:=ih d AP Aj (p+((IT Ah p f s i).length+(F4 Ah a 1).length+(0+1+1))) hr hd h3 (by simp only[Nat.add_assoc] at hp⊢;exact hp);have h1:=UL (BZ:=BZ) (Ah:=Ah) hl hb p f s ⟨by omega,by omega,by omega,by omega⟩ i hi (by omega);have c1:=Km (BZ:=BZ) (Ah:=Ah) hl hb a ha 1 ⟨by omega,by omega⟩;have A1:=Mq ha 1 ⟨by omega,by omega⟩;have h5:Dt BZ [LI.i (.store (.r 0) (Ah+14) (GS.As a 1)),LI.i (.store (.r 0) (Ah+8) (.n 1))] 2:=by
   refine .any hl ?_;simp only[CE,Df,fB,Qn,Oh,and_true];refine⟨⟨?_,?_,A1⟩,?_,?_,?_⟩ <;>first | exact Ed (J5 _ (by omega)) | exact Ed (IZ _ (by omega)) | (unfold i64;omega)
  exact(((h1.Ec c1).Ec h5).Ec h2).mono (by simp only[SZ];omega)
 | out a r ih=>
  intro d AP Aj p hw hd h3 hp;obtain⟨ha,hr⟩:=hw;simp only[KR,List.length_append] at hp⊢;have h2:=ih d AP Aj _ hr hd h3 (by rw[Nat.add_assoc];exact hp);have h1:Dt BZ (WJ Ah AP a) 12:=by
   obtain⟨v1,v2,v3,v4,v5,v6,v7,v8⟩:=It;unfold WJ;have A1:=Mq ha 1 ⟨by omega,by omega⟩;have c1:=Km (BZ:=BZ) (Ah:=Ah) hl hb a ha 1 ⟨by omega,by omega⟩;split
   ·refine(c1.Ec (b:=4) (.any hl ?_)).mono (by omega);simp only[CE,Df,fB,Qn,Oh,and_true];refine⟨⟨?_,?_,?_⟩,⟨?_,?_,A1⟩,⟨v1,?_,?_,?_⟩,?_,?_,?_⟩ <;>first | exact Ed (IZ _ (by omega)) | exact Ed (J5 _ (by omega)) | (unfold i64;omega) | (unfold Jv;omega)
   ·refine(c1.Ec (b:=1) (.any hl ?_)).mono (by omega);simp only[CE,Df,fB,Qn,Oh,and_true];exact A1
  exact(h1.Ec h2).mono (by simp only[SZ];omega)
 | ES a b r ib ih=>
  intro d AP Aj p hw hd h3 hp;obtain⟨ha,ea,P7,hr⟩:=hw;simp only[KR,List.length_append,List.length_cons] at hp⊢;have hB:=ib (d+1) AP Aj (p+(F4 Ah a 1).length+1) P7 (by omega) (by omega) (by omega);generalize zn:KR Ah n AP Aj (p+(F4 Ah a 1).length+1) b=B at hp hB⊢;have h2:=ih d AP Aj (p+((F4 Ah a 1).length+(B.length+1))) hr hd h3 (by simp only[Nat.add_assoc] at hp⊢;exact hp);have A1:=Mq ha 1 ⟨by omega,by omega⟩;have c1:=Km (BZ:=BZ) (Ah:=Ah) hl hb a ha 1 ⟨by omega,by omega⟩;have hj:Dt BZ [LI.i (.jz (GS.As a 1) (p+(F4 Ah a 1).length+1+B.length:Nat))] 1:=by
   refine .any hl ?_;simp only[CE,Df,fB,Qn,Oh,and_true];exact⟨A1,by omega,by omega⟩
  exact((c1.Ec (hj.Ec hB)).Ec h2).mono (by simp only[SZ];omega)
 | loop k b r ib ih=>
  intro d AP Aj p hw hd h3 hp;obtain⟨hk,ea,P7,hr⟩:=hw;simp only[KR,List.length_append,List.length_cons,List.length_nil,List.cons_append] at hp⊢;have hB:=ib (d+1) AP (Aj+1) (p+1) P7 (by omega) (by omega) (by omega);generalize zn:KR Ah n AP (Aj+1) (p+1) b=B at hp hB⊢;have h2:=ih d AP Aj (p+(B.length+(0+1+1+1+1+1)+1)) hr hd h3 (by omega);obtain⟨v1,v2,v3,v4,v5,v6,v7,v8⟩:=It;have h0:Dt BZ [LI.i (.store (.n (Ah+(48+Aj))) 0 (.n k))] 0:=by
   refine .F6 hl ?_;simp only[CE,Df,S8,QI,and_true];refine⟨?_,?_,?_⟩ <;>first | exact IZ _ (by omega) | (unfold sN;omega)
  have h5:Dt BZ [LI.i (.load 1 (.n (Ah+(48+Aj))) 0),LI.i (.op Dx 1 (.r 1) (.n 1)),LI.i (.store (.n (Ah+(48+Aj))) 0 (.r 1)),LI.i (.jz (.r 1) (p+1+B.length+5:Nat)),LI.i (.Ga (p+1:Nat))] 0:=by
   refine .F6 hl ?_;simp only[CE,Df,S8,QI,and_true];refine⟨⟨?_,?_,?_⟩,⟨v2,?_,?_,?_⟩,⟨?_,?_,?_⟩,⟨?_,?_,?_⟩,?_,?_⟩ <;>first | exact IZ _ (by omega) | exact J5 _ (by omega) | (unfold sN;omega) | (unfold Jv;omega) | omega
  exact((h0.Ec (hB.Ec h5)).Ec h2).mono (by simp only[SZ];omega)
 | atomic b r ib ih=>
  intro d AP Aj p hw hd h3 hp;obtain⟨hi,ea,P7,hr⟩:=hw;have hs4:(F7 (N9 Ah) 4 p).length=8:=rfl;simp only[KR,List.length_append,List.length_cons,List.length_map,Vc,hs4,XE,eA] at hp⊢;have hB:=ib (d+1) true Aj (p+8+(n*3+3)) P7 (by omega) (by omega) (by omega);generalize zn:KR Ah n true Aj (p+8+(n*3+3)) b=B at hp hB⊢;have hE:=iU (BZ:=BZ) (Ah:=Ah) hl hb n (p+8+(n*3+3)+B.length) hn (Du b) (by omega);generalize hEe:Xu Ah n (Du b) (p+8+(n*3+3)+B.length)=E at hp hE⊢;have h2:=ih d AP Aj (p+(8+(n*3+3+B.length+E.length)+(n*4+9+1))) hr hd h3 (by simp only[Nat.add_assoc] at hp⊢;exact hp);obtain⟨s1,s2⟩:=Iw (BZ:=BZ) (N9 Ah) 2 (fun _ _=>rfl) 4 (fun c p hc _=>bA hl hb c p (by omega)) p (by omega);have hT:=ew (BZ:=BZ) (Ah:=Ah) hl hb n (p+8) hn (by omega);have hK:=VV (BZ:=BZ) (Ah:=Ah) hl hb n (p+8) (p+8+(n*3+3+B.length+E.length)+1) hn (by omega) (by omega);have hm:=((hT.Ec hB).Ec hE).uE (q:=(p+8+(n*3+3+B.length+E.length)+1:Nat)) (by omega) (by omega);have hj:Dt BZ [LI.i (.Ga (p+8+(n*3+3+B.length+E.length)+1+(n*4+9):Nat))] 0:=by
   refine .F6 hl ?_;simp only[CE,Df,S8,QI,and_true];omega
  exact(((s1.Ec hm).Ec (hj.Ec hK)).Ec h2).mono (by simp only[SZ];omega)
theorem Xr (t:List GI):(t.flatMap fun i=>i.Ae++[10]).length=Fp t:=by
 induction t with
 | nil=>rfl
 | cons i t ih=>simp only[List.flatMap_cons,List.length_append,ih,Fp,List.map_cons,List.sum_cons,CD,List.length_cons,List.length_nil]
theorem du (cells:Int) (k:Nat) (t:Ck) (hk:k < 3) (Dp:0≤cells∧cells≤6) (hw:WF cells t 0 false) (AI:JR t≤14) {b o:Int} (hc:Az t 1=some (b,o)) (hb:b≤3):
  (IK cells k t).length≤1197∧(∀i,i∈IK cells k t→Qn 4000 i)∧Fp (IK cells k t)≤40052:=by
 have h1:=(IY cells t Dp 0 false (.start k cells) hw rfl rfl).2.2;have h2:=Xw t;have h3:=XG t 0 1 b o hw (by omega) hc;have h4:=eH t;have e:=Zt cells k t (NO.of t 0 false hw);have hlen:(IK cells k t).length=(KR (32+64*k) cells.toNat false 0 0 t).length+1:=by rw[e];simp[rz]
 have yN:(IK cells k t).length≤Ci t+1:=by
  unfold IK;show((GS.BX t (GS.start k cells)).Af++[GI.halt]).length≤_;rw[List.length_append];have e0:(GS.start k cells).Af.length=0:=rfl;simp only[List.length_cons,List.length_nil];omega
 have hl:(IK cells k t).length≤1197:=by omega
 have aq:=iY (32+64*k) 4000 (by omega) (by omega) cells cells.toNat (by omega) Dp.2 t 0 false 0 0 hw (by omega) (by omega) (by omega);refine⟨hl,?_,?_⟩
 ·rw[e];intro i hi;rcases List.mem_append.1 hi with hi | hi
  ·exact aq.rz (by omega) (by omega) i hi
  ·rw[List.mem_singleton] at hi;subst hi;trivial
 ·rw[e,Qj];have:=aq.len 0 (by omega) (by omega);have h5:Fp [GI.halt]=5:=by decide+kernel
  rw[h5];omega
theorem OC {y:qr} {p:RP} (h:PS y p):(∀t,t∈CS y.cells y.Aa y.Aa.length→t.length≤1197∧(∀i,i∈t→Qn 4000 i)∧Fp t≤40052)∧(∀t,t∈y.Aa→WF y.cells t 0 false∧Ci t≤5000)∧y.cells≤6∧y.Aa.length≤3:=by
 have Eg:=h.BZ;unfold Em at Eg;simp only[Bool.and_eq_true,decide_eq_true_eq,List.all_eq_true] at Eg;obtain⟨so,h3,FV⟩:=Eg;have sg:∀u,u∈y.Aa→∃b o,Az u 1=some (b,o)∧b≤3:=fun u hm=>by
  have VE:=FV _ hm;cases jN:Az u 1 with
  | none=>rw[jN] at VE;cases VE
  | some q=>rw[jN] at VE;exact⟨q.1,q.2,rfl,by simpa using VE⟩
 refine⟨fun t ht=> ?_,fun t ht=>⟨h.fw.th _ ht,?_⟩,so,h3⟩
 ·obtain⟨k,hk,rfl⟩:=List.mem_map.1 ht;have QQ:=List.mem_range.1 hk;have hm:y.Aa.getD k .nil∈y.Aa:=by rw[List.getD_eq_getElem?_getD,List.getElem?_eq_getElem QQ];exact List.getElem_mem _
  obtain⟨b,o,h1,h2⟩:=sg _ hm;exact du y.cells k _ (by omega) ⟨h.fw.c0,so⟩ (h.fw.th _ hm) (h.fn.all _ hm) h1 h2
 ·obtain⟨b,o,h1,h2⟩:=sg _ ht;have a1:=Xw t;have a2:=XG t 0 1 b o (h.fw.th _ ht) (by omega) h1;have a3:=eH t;have a4:=h.fn.all _ ht;omega
theorem U2 {y:qr} {p:RP} (h:PS y p):(DB (CS y.cells y.Aa y.Aa.length)).length≤131072:=by
 obtain⟨Tt,_,_,h3⟩:=OC h;have hb:∀l:List (List GI),(∀t,t∈l→Fp t≤40052)→(DB l).length≤l.length*40059:=by
  intro l;induction l with
  | nil=>intro _;simp[DB]
  | cons t l ih=>
   intro hh;have h1:=ih fun u hu=>hh u (List.mem_cons_of_mem _ hu)
   have h2:=hh t (List.mem_cons_self ..);unfold DB at h1⊢;simp only[List.flatMap_cons,List.length_append,QG,List.length_cons,Xr];have h6:AE.length=6:=rfl;rw[Nat.add_mul];omega
 have:=hb _ fun t ht=>(Tt t ht).2.2
 rw[ID] at this;have:y.Aa.length*40059≤3*40059:=Nat.mul_le_mul_right _ h3;omega
theorem Zs {y:qr} {p:RP} (h:PS y p):Ky (DB (CS y.cells y.Aa y.Aa.length))= .ok ⟨List.replicate 256 0,(CS y.cells y.Aa y.Aa.length).map fun t=>j7 (t.map GI.Yz)⟩:=by
 obtain⟨Tt,_,_,h3⟩:=OC h;refine ck (BZ:=4000) (by omega) _ ?_ ?_ (fun t ht=>⟨by have:=(Tt t ht).1;omega,(Tt t ht).2.1⟩) (U2 h)
 ·have:=h.ne;intro e;have:=congrArg List.length e;rw[ID] at this;exact h.ne (List.eq_nil_of_length_eq_zero (by simpa using this))
 ·rw[ID];exact h3
end Go.Proofs.YtpdfifdlhpmofaaGreatDoor
