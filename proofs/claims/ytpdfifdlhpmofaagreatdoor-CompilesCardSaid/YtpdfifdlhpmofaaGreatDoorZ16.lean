/-
  Part 16 of the proof, packed by program out of G10, G6.
-/
import Derived.Test.YtpdfifdlhpmofaaGreatDoorZ15
set_option linter.unusedVariables false
set_option linter.unusedSimpArgs false
set_option maxHeartbeats 3200000
set_option maxRecDepth 100000
namespace Go.Proofs.YtpdfifdlhpmofaaGreatDoor
open Go.RowKit
open Go.Lib (hid)
def D4 (F:List (Nat×Obj)) (sl:Value) (ws:List Value):Prop:=
 (ws=[]∧∃p c,sl= .slice p 0 c)∨∃b c T,∃cur:Array Value,sl= .slice (some ⟨b,0,none⟩) ws.length c∧(b,Obj.cells cur T (0,0))∈F∧ws=cur.toList.take ws.length
def At.c2 (a:At):List Value:=[.bool a.AL,.int .i64 a.v]
def DI (F:List (Nat×Obj)):Ck→List Value→Prop
 | .nil,vs=>vs=[]
 | .set v op a b r,vs=>∃p us,vs= .iface 233 (.pointer (some ⟨p,0,none⟩))::us∧(p,Obj.cells #[.int .i64 v,.string op,.bool a.AL,.int .i64 a.v,.bool b.AL,.int .i64 b.v] 238 (0,0))∈F∧DI F r us
 | .get v f s a r,vs=>∃p us,vs= .iface 243 (.pointer (some ⟨p,0,none⟩))::us∧(p,Obj.cells #[.int .i64 v,.int .i64 f,.int .i64 s,.bool a.AL,.int .i64 a.v] 245 (0,0))∈F∧DI F r us
 | .put f s i a r,vs=>∃p us,vs= .iface 246 (.pointer (some ⟨p,0,none⟩))::us∧(p,Obj.cells #[.int .i64 f,.int .i64 s,.bool i.AL,.int .i64 i.v,.bool a.AL,.int .i64 a.v] 248 (0,0))∈F∧DI F r us
 | .out a r,vs=>∃p us,vs= .iface 249 (.pointer (some ⟨p,0,none⟩))::us∧(p,Obj.cells #[.bool a.AL,.int .i64 a.v] 251 (0,0))∈F∧DI F r us
 | .atomic b r,vs=>∃p us sl ws,vs= .iface 253 (.pointer (some ⟨p,0,none⟩))::us∧(p,Obj.cells #[sl] 255 (0,0))∈F∧D4 F sl ws∧DI F b ws∧DI F r us
 | .ES a b r,vs=>∃p us sl ws,vs= .iface 256 (.pointer (some ⟨p,0,none⟩))::us∧(p,Obj.cells #[.bool a.AL,.int .i64 a.v,sl] 258 (0,0))∈F∧D4 F sl ws∧DI F b ws∧DI F r us
 | .loop n b r,vs=>∃p us sl ws,vs= .iface 259 (.pointer (some ⟨p,0,none⟩))::us∧(p,Obj.cells #[.int .i64 n,sl] 261 (0,0))∈F∧D4 F sl ws∧DI F b ws∧DI F r us
theorem D4.sub {F E:List (Nat×Obj)} {sl:Value} {ws:List Value} (h:D4 F sl ws) (k:∀x,x∈F→x∈E):D4 E sl ws:=by
 rcases h with h | ⟨b,c,T,cur,h1,h2,h3⟩
 ·exact .inl h
 ·exact .inr ⟨b,c,T,cur,h1,k _ h2,h3⟩
theorem DI.sub {F E:List (Nat×Obj)} {t:Ck} {vs:List Value} (h:DI F t vs) (k:∀x,x∈F→x∈E):DI E t vs:=by
 induction t generalizing vs with
 | nil=>exact h
 | set v op a b r ih=>obtain⟨p,us,h1,h2,h3⟩:=h;exact⟨p,us,h1,k _ h2,ih h3⟩
 | get v f s a r ih=>obtain⟨p,us,h1,h2,h3⟩:=h;exact⟨p,us,h1,k _ h2,ih h3⟩
 | put f s i a r ih=>obtain⟨p,us,h1,h2,h3⟩:=h;exact⟨p,us,h1,k _ h2,ih h3⟩
 | out a r ih=>obtain⟨p,us,h1,h2,h3⟩:=h;exact⟨p,us,h1,k _ h2,ih h3⟩
 | atomic b r ib ih=>obtain⟨p,us,sl,ws,h1,h2,h3,h4,h5⟩:=h;exact⟨p,us,sl,ws,h1,k _ h2,h3.sub k,ib h4,ih h5⟩
 | ES a b r ib ih=>obtain⟨p,us,sl,ws,h1,h2,h3,h4,h5⟩:=h;exact⟨p,us,sl,ws,h1,k _ h2,h3.sub k,ib h4,ih h5⟩
 | loop n b r ib ih=>obtain⟨p,us,sl,ws,h1,h2,h3,h4,h5⟩:=h;exact⟨p,us,sl,ws,h1,k _ h2,h3.sub k,ib h4,ih h5⟩
theorem D4.JF {F:List (Nat×Obj)} {sl:Value} {ws:List Value} (h:D4 F sl ws):∃p c,sl= .slice p ws.length c:=by
 rcases h with⟨rfl,p,c,rfl⟩ | ⟨b,c,T,cur,h1,_,_⟩
 ·exact⟨p,c,rfl⟩
 ·exact⟨_,c,h1⟩
theorem D4.A5 {F:List (Nat×Obj)} {p:Option Addr} {c n:Nat} {ws:List Value} (h:D4 F (.slice p n c) ws) {w:World} {L:List Ob} (K:Ba w L F) {k:Nat} {v:Value} {us:List Value} (hk:ws.drop k=v::us):
  n=ws.length∧k < n∧∃b,p=some ⟨b,0,none⟩∧w.cell? ⟨b,k,none⟩=some v:=by
 have Bi:k < ws.length:=by
  rcases Nat.lt_or_ge k ws.length with h | h
  ·exact h
  ·rw[List.drop_eq_nil_of_le h] at hk;cases hk
 have hv:ws[k]?=some v:=by
  have:=congrArg List.head? hk;rwa[List.head?_drop,List.head?_cons] at this
 rcases h with⟨rfl,_⟩ | ⟨b,c',T,cur,h1,h2,h3⟩
 ·simp at Bi
 ·cases h1;refine⟨rfl,Bi,b,rfl,?_⟩;rw[K.cell h2];rw[h3,List.getElem?_take,if_pos Bi,Array.getElem?_toList] at hv;exact hv
def EX:Ck→Nat
 | .nil=>0
 | .set _ _ _ _ r=>1+EX r
 | .get _ _ _ _ r=>1+EX r
 | .put _ _ _ _ r=>1+EX r
 | .out _ r=>1+EX r
 | .atomic b r=>1+EX b+EX r
 | .ES _ b r=>1+EX b+EX r
 | .loop _ b r=>1+EX b+EX r
def Qc:Ck→Ck
 | .nil=> .nil
 | .set v op a b _=> .set v op a b .nil
 | .get v f s a _=> .get v f s a .nil
 | .put f s i a _=> .put f s i a .nil
 | .out a _=> .out a .nil
 | .atomic b _=> .atomic b .nil
 | .ES a b _=> .ES a b .nil
 | .loop n b _=> .loop n b .nil
def jZ:Ck→Ck
 | .nil=> .nil
 | .set _ _ _ _ r=>r
 | .get _ _ _ _ r=>r
 | .put _ _ _ _ r=>r
 | .out _ r=>r
 | .atomic _ r=>r
 | .ES _ _ r=>r
 | .loop _ _ r=>r
theorem DI.len {F:List (Nat×Obj)} {t:Ck} {vs:List Value} (h:DI F t vs):vs.length≤EX t:=by
 induction t generalizing vs with
 | nil=>rw[show vs=[] from h];simp
 | set v op a b r ih=>obtain⟨p,us,rfl,_,h3⟩:=h;have:=ih h3;simp[EX];omega
 | get v f s a r ih=>obtain⟨p,us,rfl,_,h3⟩:=h;have:=ih h3;simp[EX];omega
 | put f s i a r ih=>obtain⟨p,us,rfl,_,h3⟩:=h;have:=ih h3;simp[EX];omega
 | out a r ih=>obtain⟨p,us,rfl,_,h3⟩:=h;have:=ih h3;simp[EX];omega
 | atomic b r _ ih=>obtain⟨p,us,sl,ws,rfl,_,_,_,h3⟩:=h;have:=ih h3;simp[EX];omega
 | ES a b r _ ih=>obtain⟨p,us,sl,ws,rfl,_,_,_,h3⟩:=h;have:=ih h3;simp[EX];omega
 | loop n b r _ ih=>obtain⟨p,us,sl,ws,rfl,_,_,_,h3⟩:=h;have:=ih h3;simp[EX];omega
theorem RZ (k:Nat) (hk:k≤1000):wrap64 ((k:Int)+1)=k+1:=IntWalk.wrap64_in _ (by omega)
theorem DI.hd {F:List (Nat×Obj)} {t:Ck} {v:Value} {us:List Value} (h:DI F t (v::us)):DI F (Qc t) [v]∧DI F (jZ t) us:=by
 cases t with
 | nil=>cases h
 | set _ op a b r=>obtain⟨p,q,h1,h2,h3⟩:=h;cases h1;exact⟨⟨p,[],rfl,h2,rfl⟩,h3⟩
 | get _ f s a r=>obtain⟨p,q,h1,h2,h3⟩:=h;cases h1;exact⟨⟨p,[],rfl,h2,rfl⟩,h3⟩
 | put f s i a r=>obtain⟨p,q,h1,h2,h3⟩:=h;cases h1;exact⟨⟨p,[],rfl,h2,rfl⟩,h3⟩
 | out a r=>obtain⟨p,q,h1,h2,h3⟩:=h;cases h1;exact⟨⟨p,[],rfl,h2,rfl⟩,h3⟩
 | atomic b r=>obtain⟨p,q,sl,ws,h1,h2,h3,h4,h5⟩:=h;cases h1;exact⟨⟨p,[],sl,ws,rfl,h2,h3,h4,rfl⟩,h5⟩
 | ES a b r=>obtain⟨p,q,sl,ws,h1,h2,h3,h4,h5⟩:=h;cases h1;exact⟨⟨p,[],sl,ws,rfl,h2,h3,h4,rfl⟩,h5⟩
 | loop n b r=>obtain⟨p,q,sl,ws,h1,h2,h3,h4,h5⟩:=h;cases h1;exact⟨⟨p,[],sl,ws,rfl,h2,h3,h4,rfl⟩,h5⟩
theorem Rc (p:Value) (w:World):(Instr.typeAssert (.iface 233 p) 208 233 true).run Tryz.prog w= .ok (.tuple #[p,.bool true]) w:=by kernel_rfl
theorem Yc (p:Value) (w:World):(Instr.typeAssert (.iface 233 p) 208 246 true).run Tryz.prog w= .ok (.tuple #[.pointer none,.bool false]) w:=by kernel_rfl
theorem Yd (p:Value) (w:World):(Instr.typeAssert (.iface 233 p) 208 249 true).run Tryz.prog w= .ok (.tuple #[.pointer none,.bool false]) w:=by kernel_rfl
theorem TP (p:Value) (w:World):(Instr.typeAssert (.iface 233 p) 208 256 true).run Tryz.prog w= .ok (.tuple #[.pointer none,.bool false]) w:=by kernel_rfl
theorem Pw (p:Value) (w:World):(Instr.typeAssert (.iface 233 p) 208 259 true).run Tryz.prog w= .ok (.tuple #[.pointer none,.bool false]) w:=by kernel_rfl
theorem Th (p:Value) (w:World):(Instr.typeAssert (.iface 233 p) 208 253 true).run Tryz.prog w= .ok (.tuple #[.pointer none,.bool false]) w:=by kernel_rfl
theorem Yh (p:Value) (w:World):(Instr.typeAssert (.iface 243 p) 208 233 true).run Tryz.prog w= .ok (.tuple #[.pointer none,.bool false]) w:=by kernel_rfl
theorem Yk (p:Value) (w:World):(Instr.typeAssert (.iface 243 p) 208 243 true).run Tryz.prog w= .ok (.tuple #[p,.bool true]) w:=by kernel_rfl
theorem Yi (p:Value) (w:World):(Instr.typeAssert (.iface 243 p) 208 246 true).run Tryz.prog w= .ok (.tuple #[.pointer none,.bool false]) w:=by kernel_rfl
theorem Yj (p:Value) (w:World):(Instr.typeAssert (.iface 243 p) 208 249 true).run Tryz.prog w= .ok (.tuple #[.pointer none,.bool false]) w:=by kernel_rfl
theorem TU (p:Value) (w:World):(Instr.typeAssert (.iface 243 p) 208 256 true).run Tryz.prog w= .ok (.tuple #[.pointer none,.bool false]) w:=by kernel_rfl
theorem PC (p:Value) (w:World):(Instr.typeAssert (.iface 243 p) 208 259 true).run Tryz.prog w= .ok (.tuple #[.pointer none,.bool false]) w:=by kernel_rfl
theorem Tk (p:Value) (w:World):(Instr.typeAssert (.iface 243 p) 208 253 true).run Tryz.prog w= .ok (.tuple #[.pointer none,.bool false]) w:=by kernel_rfl
theorem Ye (p:Value) (w:World):(Instr.typeAssert (.iface 246 p) 208 233 true).run Tryz.prog w= .ok (.tuple #[.pointer none,.bool false]) w:=by kernel_rfl
theorem Yg (p:Value) (w:World):(Instr.typeAssert (.iface 246 p) 208 243 true).run Tryz.prog w= .ok (.tuple #[.pointer none,.bool false]) w:=by kernel_rfl
theorem Re (p:Value) (w:World):(Instr.typeAssert (.iface 246 p) 208 246 true).run Tryz.prog w= .ok (.tuple #[p,.bool true]) w:=by kernel_rfl
theorem Yf (p:Value) (w:World):(Instr.typeAssert (.iface 246 p) 208 249 true).run Tryz.prog w= .ok (.tuple #[.pointer none,.bool false]) w:=by kernel_rfl
theorem TQ (p:Value) (w:World):(Instr.typeAssert (.iface 246 p) 208 256 true).run Tryz.prog w= .ok (.tuple #[.pointer none,.bool false]) w:=by kernel_rfl
theorem Px (p:Value) (w:World):(Instr.typeAssert (.iface 246 p) 208 259 true).run Tryz.prog w= .ok (.tuple #[.pointer none,.bool false]) w:=by kernel_rfl
theorem Ti (p:Value) (w:World):(Instr.typeAssert (.iface 246 p) 208 253 true).run Tryz.prog w= .ok (.tuple #[.pointer none,.bool false]) w:=by kernel_rfl
theorem Rf (p:Value) (w:World):(Instr.typeAssert (.iface 249 p) 208 233 true).run Tryz.prog w= .ok (.tuple #[.pointer none,.bool false]) w:=by kernel_rfl
theorem Rg (p:Value) (w:World):(Instr.typeAssert (.iface 249 p) 208 243 true).run Tryz.prog w= .ok (.tuple #[.pointer none,.bool false]) w:=by kernel_rfl
theorem Np (p:Value) (w:World):(Instr.typeAssert (.iface 249 p) 208 246 true).run Tryz.prog w= .ok (.tuple #[.pointer none,.bool false]) w:=by kernel_rfl
theorem Nq (p:Value) (w:World):(Instr.typeAssert (.iface 249 p) 208 249 true).run Tryz.prog w= .ok (.tuple #[p,.bool true]) w:=by kernel_rfl
theorem TR (p:Value) (w:World):(Instr.typeAssert (.iface 249 p) 208 256 true).run Tryz.prog w= .ok (.tuple #[.pointer none,.bool false]) w:=by kernel_rfl
theorem Py (p:Value) (w:World):(Instr.typeAssert (.iface 249 p) 208 259 true).run Tryz.prog w= .ok (.tuple #[.pointer none,.bool false]) w:=by kernel_rfl
theorem Tj (p:Value) (w:World):(Instr.typeAssert (.iface 249 p) 208 253 true).run Tryz.prog w= .ok (.tuple #[.pointer none,.bool false]) w:=by kernel_rfl
theorem TS (p:Value) (w:World):(Instr.typeAssert (.iface 256 p) 208 233 true).run Tryz.prog w= .ok (.tuple #[.pointer none,.bool false]) w:=by kernel_rfl
theorem TT (p:Value) (w:World):(Instr.typeAssert (.iface 256 p) 208 243 true).run Tryz.prog w= .ok (.tuple #[.pointer none,.bool false]) w:=by kernel_rfl
theorem OS (p:Value) (w:World):(Instr.typeAssert (.iface 256 p) 208 246 true).run Tryz.prog w= .ok (.tuple #[.pointer none,.bool false]) w:=by kernel_rfl
theorem OT (p:Value) (w:World):(Instr.typeAssert (.iface 256 p) 208 249 true).run Tryz.prog w= .ok (.tuple #[.pointer none,.bool false]) w:=by kernel_rfl
theorem NZ (p:Value) (w:World):(Instr.typeAssert (.iface 256 p) 208 256 true).run Tryz.prog w= .ok (.tuple #[p,.bool true]) w:=by kernel_rfl
theorem Ri (p:Value) (w:World):(Instr.typeAssert (.iface 256 p) 208 259 true).run Tryz.prog w= .ok (.tuple #[.pointer none,.bool false]) w:=by kernel_rfl
theorem U4 (p:Value) (w:World):(Instr.typeAssert (.iface 256 p) 208 253 true).run Tryz.prog w= .ok (.tuple #[.pointer none,.bool false]) w:=by kernel_rfl
theorem Pz (p:Value) (w:World):(Instr.typeAssert (.iface 259 p) 208 233 true).run Tryz.prog w= .ok (.tuple #[.pointer none,.bool false]) w:=by kernel_rfl
theorem PB (p:Value) (w:World):(Instr.typeAssert (.iface 259 p) 208 243 true).run Tryz.prog w= .ok (.tuple #[.pointer none,.bool false]) w:=by kernel_rfl
theorem LM (p:Value) (w:World):(Instr.typeAssert (.iface 259 p) 208 246 true).run Tryz.prog w= .ok (.tuple #[.pointer none,.bool false]) w:=by kernel_rfl
theorem LN (p:Value) (w:World):(Instr.typeAssert (.iface 259 p) 208 249 true).run Tryz.prog w= .ok (.tuple #[.pointer none,.bool false]) w:=by kernel_rfl
theorem KY (p:Value) (w:World):(Instr.typeAssert (.iface 259 p) 208 256 true).run Tryz.prog w= .ok (.tuple #[.pointer none,.bool false]) w:=by kernel_rfl
theorem IX (p:Value) (w:World):(Instr.typeAssert (.iface 259 p) 208 259 true).run Tryz.prog w= .ok (.tuple #[p,.bool true]) w:=by kernel_rfl
theorem Rh (p:Value) (w:World):(Instr.typeAssert (.iface 259 p) 208 253 true).run Tryz.prog w= .ok (.tuple #[.pointer none,.bool false]) w:=by kernel_rfl
theorem Tl (p:Value) (w:World):(Instr.typeAssert (.iface 253 p) 208 233 true).run Tryz.prog w= .ok (.tuple #[.pointer none,.bool false]) w:=by kernel_rfl
theorem Tm (p:Value) (w:World):(Instr.typeAssert (.iface 253 p) 208 243 true).run Tryz.prog w= .ok (.tuple #[.pointer none,.bool false]) w:=by kernel_rfl
theorem M5 (p:Value) (w:World):(Instr.typeAssert (.iface 253 p) 208 246 true).run Tryz.prog w= .ok (.tuple #[.pointer none,.bool false]) w:=by kernel_rfl
theorem M6 (p:Value) (w:World):(Instr.typeAssert (.iface 253 p) 208 249 true).run Tryz.prog w= .ok (.tuple #[.pointer none,.bool false]) w:=by kernel_rfl
theorem KZ (p:Value) (w:World):(Instr.typeAssert (.iface 253 p) 208 256 true).run Tryz.prog w= .ok (.tuple #[.pointer none,.bool false]) w:=by kernel_rfl
theorem Jm (p:Value) (w:World):(Instr.typeAssert (.iface 253 p) 208 259 true).run Tryz.prog w= .ok (.tuple #[.pointer none,.bool false]) w:=by kernel_rfl
theorem Kp (p:Value) (w:World):(Instr.typeAssert (.iface 253 p) 208 253 true).run Tryz.prog w= .ok (.tuple #[p,.bool true]) w:=by kernel_rfl
theorem fm (F:List (Nat×Obj)) (w:World) (L:List Ob) (hK:Ba w L F) (n:Nat) (rL:n≤1000):∀(t:Ck) (sl:Value) (vs:List Value),EX t≤n→D4 F sl vs→DI F t vs→
  Calls Tryz.prog 155 #[sl] w fun e w'=>e= .returned (.bool (Du t))∧w'=w:=by
 induction n using Nat.strongRecOn with
 | _ n ih=>
 intro t sl vs hn hr hs;have hlen:vs.length≤1000:=by have:=hs.len;omega
 obtain⟨p,c,rfl⟩:=hr.JF;have Hr:=hid hr;have Hs:=hid hs;have HK:=hid hK;have IH:=hid ih;clear hr hs hK ih;go_enter Tryz.func155,Tryz.ntmps155;go_wp2
 go_loop [10] (fun i=>∃(k:Nat) (t':Ck),i= .int .i64 k∧k≤vs.length∧DI F t' (vs.drop k)∧Du t=Du t'∧EX t'≤n) (fun i=>vs.length - (intOf i).toNat)
 case atStart=>exact⟨0,t,rfl,Nat.zero_le _,Hs.out,rfl,hn⟩
 case round=>
  obtain⟨k,t',rfl,hk,AI,rA,GK⟩:=hrel;have SU:=hid rA;clear rA;cases hd:vs.drop k with
  | nil=>
   rw[hd] at AI;have QP:¬(k:Int) < (vs.length:Int):=by have:=List.drop_eq_nil_iff.1 hd;omega
   have ht:Du t'=false:=by
    cases t' with
    | nil=>rfl
    | set v op a b r=>obtain⟨q,us,h1,_⟩:=AI;cases h1
    | get v f s a r=>obtain⟨q,us,h1,_⟩:=AI;cases h1
    | put f s i a r=>obtain⟨q,us,h1,_⟩:=AI;cases h1
    | out a r=>obtain⟨q,us,h1,_⟩:=AI;cases h1
    | atomic b r=>obtain⟨q,us,sl,ws,h1,_⟩:=AI;cases h1
    | ES a b r=>obtain⟨q,us,sl,ws,h1,_⟩:=AI;cases h1
    | loop m b r=>obtain⟨q,us,sl,ws,h1,_⟩:=AI;cases h1
   have Ht:=hid ht;clear ht AI hd;go_wp2;go_ret;rw[SU.out,Ht.out];exact⟨rfl,rfl⟩
  | cons v us=>
   obtain⟨_,XY,b,hp,Qd⟩:=Hr.out.A5 HK.out hd;subst hp;have QP:(k:Int) < (vs.length:Int):=by omega
   have cU:us=vs.drop (k+1):=by rw[←List.tail_drop,hd];rfl
   rw[hd] at AI;have aO:=hid cU;clear hd cU;have inc:=RZ k (by omega);cases t' with
   | nil=>cases AI
   | set v0 op a b0 r=>
    obtain⟨q,us',h1,h2,h3⟩:=AI;cases h1;have ta1:=Yc;have ta2:=TP;have ta3:=Pw;have H3:=hid h3;clear h3 h2;simp only[EX] at GK;go_wp2_with fail
    go_round
    case rel=>(try rw[inc]);exact⟨k+1,r,rfl,by omega,aO.out▸H3.out,SU.out,by omega⟩
    case measure=>(try rw[inc]);simp[intOf];omega
   | get v0 f s a r=>
    obtain⟨q,us',h1,h2,h3⟩:=AI;cases h1;have ta1:=Yi;have ta2:=TU;have ta3:=PC;have H3:=hid h3;clear h3 h2;simp only[EX] at GK;go_wp2_with fail
    go_round
    case rel=>(try rw[inc]);exact⟨k+1,r,rfl,by omega,aO.out▸H3.out,SU.out,by omega⟩
    case measure=>(try rw[inc]);simp[intOf];omega
   | out a r=>
    obtain⟨q,us',h1,h2,h3⟩:=AI;cases h1;have ta1:=Np;have ta2:=TR;have ta3:=Py;have H3:=hid h3;clear h3 h2;simp only[EX] at GK;go_wp2_with fail
    go_round
    case rel=>(try rw[inc]);exact⟨k+1,r,rfl,by omega,aO.out▸H3.out,SU.out,by omega⟩
    case measure=>(try rw[inc]);simp[intOf];omega
   | atomic b r=>
    obtain⟨q,us',sl',ws,h1,h2,h3,h4,h5⟩:=AI;cases h1;have ta1:=M5;have ta2:=KZ;have ta3:=Jm;have H5:=hid h5;clear h3 h4 h5 h2;simp only[EX] at GK;go_wp2_with fail
    go_round
    case rel=>(try rw[inc]);exact⟨k+1,r,rfl,by omega,aO.out▸H5.out,SU.out,by omega⟩
    case measure=>(try rw[inc]);simp[intOf];omega
   | put f s i a r=>
    obtain⟨q,us',h1,h2,h3⟩:=AI;cases h1;have ta1:=Re;have ta2:=TQ;have ta3:=Px;clear h3 h2;go_wp2;go_ret;rw[SU.out];exact⟨rfl,rfl⟩
   | ES a b r=>
    obtain⟨q,us',sl',ws,h1,h2,h3,h4,h5⟩:=AI;cases h1;have ta1:=OS;have ta2:=NZ;have ta3:=Ri;have H3:=hid h3;have H4:=hid h4;have H5:=hid h5;have kq:=HK.out.cell h2;clear h3 h4 h5 h2;simp only[EX] at GK;obtain⟨p',c',rfl⟩:=H3.out.JF;go_wp2_with fail;refine(IH.out (EX b) (by omega) (by omega) b _ ws (Nat.le_refl _) H3.out H4.out).mono ?_;rintro e w' ⟨rfl,rfl⟩;cases dW:Du b with
    | true=>
     go_wp2_with fail;go_ret;rw[SU.out];simp[Du,dW]
    | false=>
     have xD:=hid dW;clear dW;go_wp2_with fail
     go_round
     case rel=>(try rw[inc]);exact⟨k+1,r,rfl,by omega,aO.out▸H5.out,by rw[SU.out];simp[Du,xD.out],by omega⟩
     case measure=>(try rw[inc]);simp[intOf];omega
   | loop m b r=>
    obtain⟨q,us',sl',ws,h1,h2,h3,h4,h5⟩:=AI;cases h1;have ta1:=LM;have ta2:=KY;have ta3:=IX;have H3:=hid h3;have H4:=hid h4;have H5:=hid h5;have kq:=HK.out.cell h2;clear h3 h4 h5 h2;simp only[EX] at GK;obtain⟨p',c',rfl⟩:=H3.out.JF;go_wp2_with fail;refine(IH.out (EX b) (by omega) (by omega) b _ ws (Nat.le_refl _) H3.out H4.out).mono ?_;rintro e w' ⟨rfl,rfl⟩;cases dW:Du b with
    | true=>
     go_wp2_with fail;go_ret;rw[SU.out];simp[Du,dW]
    | false=>
     have xD:=hid dW;clear dW;go_wp2_with fail
     go_round
     case rel=>(try rw[inc]);exact⟨k+1,r,rfl,by omega,aO.out▸H5.out,by rw[SU.out];simp[Du,xD.out],by omega⟩
     case measure=>(try rw[inc]);simp[intOf];omega
def Gg (F:List (Nat×Obj)):List Ck→List Value→Prop
 | [],vs=>vs=[]
 | t::r,vs=>∃sl ws us,vs=sl::us∧D4 F sl ws∧DI F t ws∧Gg F r us
theorem Gg.len {F:List (Nat×Obj)} {ts:List Ck} {vs:List Value} (h:Gg F ts vs):vs.length=ts.length:=by
 induction ts generalizing vs with
 | nil=>rw[show vs=[] from h];rfl
 | cons t r ih=>obtain⟨sl,ws,us,rfl,_,_,h3⟩:=h;rw[List.length_cons,List.length_cons,ih h3]
theorem Gg.A5 {F:List (Nat×Obj)} {ts:List Ck} {vs:List Value} (h:Gg F ts vs) (k:Nat) (hk:k < ts.length):∃sl ws us,vs.drop k=sl::us∧D4 F sl ws∧DI F (ts.getD k .nil) ws:=by
 induction ts generalizing vs k with
 | nil=>simp at hk
 | cons t r ih=>
  obtain⟨sl,ws,us,rfl,h1,h2,h3⟩:=h;cases k with
  | zero=>exact⟨sl,ws,us,rfl,h1,h2⟩
  | succ k=>exact ih h3 k (by simpa using hk)
theorem O3 (r:Int) (w:World) (g:MG) (G:GS) (h:AK w (g.Ax G)) (hn:G.Af.length≤999950) (ha:g.av.length≤G.Af.length) (Gd:Ap G.Ah):
  Calls Tryz.prog 152 #[.pointer (some ⟨g.mb,0,none⟩),.int .i64 r] w (mU (G.BI r) g G w):=by
 have H:=hid h;have hb:=hid Gd;clear h Gd;go_enter Tryz.func152,Tryz.ntmps152;have S:=hid (Ad.refl H.out);have K:=hid (Ba.nil w (g.Ax G));have A:=hid (Io.nil [] g.mb G.Af.length);have B:=hid (Po G.Be);go_wp2_with fail;refine(A3 r _).mono ?_;rintro e w1 ⟨rfl,hm⟩;replace K:=hid (K.out.step (Ad.quiet S.out.Al hm));replace S:=hid (S.out.trans (Ad.quiet S.out.Al hm));clear hm;go_wp2_with fail;refine(BD 1 _).mono ?_;rintro e w2 ⟨rfl,hm⟩;replace K:=hid (K.out.step (Ad.quiet S.out.Al hm));replace S:=hid (S.out.trans (Ad.quiet S.out.Al hm));clear hm;go_wp2_with fail;refine(DE Ib 3 (.r r) (.n 1) _ {g with c:=g.c} G S.out.Al (by (try simp only[BH]);omega)).mono ?_;rintro e w3 ⟨rfl,c4,st⟩;replace K:=hid (K.out.step st);replace S:=hid (S.out.trans st);clear st;replace hb:=hid (Ap.eq hb.out (GS.CG G Ib 3 (.r r) (.n 1)));replace B:=hid ((GS.DO G Ib 3 (.r r) (.n 1)).trans B.out);go_wp2_with fail;refine(A3 3 _).mono ?_;rintro e w5 ⟨rfl,hm⟩;replace K:=hid (K.out.step (Ad.quiet S.out.Al hm));replace S:=hid (S.out.trans (Ad.quiet S.out.Al hm));clear hm;go_wp2_with fail;refine(BD 0 _).mono ?_;rintro e w6 ⟨rfl,hm⟩;replace K:=hid (K.out.step (Ad.quiet S.out.Al hm));replace S:=hid (S.out.trans (Ad.quiet S.out.Al hm));clear hm;go_wp2_with fail;refine(DE GB 3 (.r 3) (.n 0) _ {g with c:=c4} (GS.A2 G Ib 3 (.r r) (.n 1)) S.out.Al (by (try simp only[BH]);omega)).mono ?_;rintro e w7 ⟨rfl,c8,st⟩;dsimp only at st;replace K:=hid (K.out.step st);replace S:=hid (S.out.trans st);clear st;replace hb:=hid (Ap.eq hb.out (GS.CG (GS.A2 G Ib 3 (.r r) (.n 1)) GB 3 (.r 3) (.n 0)));replace B:=hid ((GS.DO (GS.A2 G Ib 3 (.r r) (.n 1)) GB 3 (.r 3) (.n 0)).trans B.out);go_wp2_with fail;refine(Lk 3 _ {g with c:=c8} (GS.A2 (GS.A2 G Ib 3 (.r r) (.n 1)) GB 3 (.r 3) (.n 0)) S.out.Al (by (try simp only[BH]);omega) (by (try simp only[List.length_append,BH]);omega)).mono ?_;rintro e w9 ⟨rfl,c10,a11,Tg,nN,E14,Hh,st,kn,an,nX⟩;try simp only[List.length_append,BH] at nX
 dsimp only at st kn;replace K:=hid ((K.out.step st).Gq kn);replace A:=hid (A.out.Ec an (by (try simp only[BH]);omega));replace B:=hid (Kf B.out Hh);replace S:=hid (S.out.trans st);clear kn st an Hh;replace hb:=hid (Ap.eq hb.out (GS.Gs (GS.A2 (GS.A2 G Ib 3 (.r r) (.n 1)) GB 3 (.r 3) (.n 0)) 3));go_wp2_with fail;refine(A3 r _).mono ?_;rintro e w16 ⟨rfl,hm⟩;replace K:=hid (K.out.step (Ad.quiet S.out.Al hm));replace S:=hid (S.out.trans (Ad.quiet S.out.Al hm));clear hm;go_wp2_with fail;refine(BD 1 _).mono ?_;rintro e w17 ⟨rfl,hm⟩;replace K:=hid (K.out.step (Ad.quiet S.out.Al hm));replace S:=hid (S.out.trans (Ad.quiet S.out.Al hm));clear hm;go_wp2_with fail;refine(DE Li 3 (.r r) (.n 1) _ {g with c:=c10,a:=a11,av:=g.av++Tg} (GS.B0 (GS.A2 (GS.A2 G Ib 3 (.r r) (.n 1)) GB 3 (.r 3) (.n 0)) 3) S.out.Al (by (try simp only[BH]);omega)).mono ?_;rintro e w18 ⟨rfl,c19,st⟩;dsimp only at st;replace K:=hid (K.out.step st);replace S:=hid (S.out.trans st);clear st;replace hb:=hid (Ap.eq hb.out (GS.CG (GS.B0 (GS.A2 (GS.A2 G Ib 3 (.r r) (.n 1)) GB 3 (.r 3) (.n 0)) 3) Li 3 (.r r) (.n 1)));replace B:=hid ((GS.DO (GS.B0 (GS.A2 (GS.A2 G Ib 3 (.r r) (.n 1)) GB 3 (.r 3) (.n 0)) 3) Li 3 (.r r) (.n 1)).trans B.out);go_wp2_with fail;refine(Co 38 _ {g with c:=c19,a:=a11,av:=g.av++Tg} (GS.A2 (GS.B0 (GS.A2 (GS.A2 G Ib 3 (.r r) (.n 1)) GB 3 (.r 3) (.n 0)) 3) Li 3 (.r r) (.n 1)) S.out.Al (Ch (k:=38) hb.out (by omega))).mono ?_;rintro e w20 ⟨rfl,hm⟩;replace K:=hid (K.out.step (Ad.quiet S.out.Al hm));replace S:=hid (S.out.trans (Ad.quiet S.out.Al hm));clear hm;go_wp2_with fail;refine(Cv 4 (.n (GS.Ah (GS.A2 (GS.B0 (GS.A2 (GS.A2 G Ib 3 (.r r) (.n 1)) GB 3 (.r 3) (.n 0)) 3) Li 3 (.r r) (.n 1))+38)) 0 _ {g with c:=c19,a:=a11,av:=g.av++Tg} (GS.A2 (GS.B0 (GS.A2 (GS.A2 G Ib 3 (.r r) (.n 1)) GB 3 (.r 3) (.n 0)) 3) Li 3 (.r r) (.n 1)) S.out.Al (by (try simp only[BH]);omega)).mono ?_;rintro e w21 ⟨rfl,c22,st⟩;dsimp only at st;replace K:=hid (K.out.step st);replace S:=hid (S.out.trans st);clear st;replace hb:=hid (Ap.eq hb.out (GS.DF (GS.A2 (GS.B0 (GS.A2 (GS.A2 G Ib 3 (.r r) (.n 1)) GB 3 (.r 3) (.n 0)) 3) Li 3 (.r r) (.n 1)) 4 38));replace B:=hid ((GS.IB (GS.A2 (GS.B0 (GS.A2 (GS.A2 G Ib 3 (.r r) (.n 1)) GB 3 (.r 3) (.n 0)) 3) Li 3 (.r r) (.n 1)) 4 38).trans B.out);go_wp2_with fail;refine(A3 4 _).mono ?_;rintro e w23 ⟨rfl,hm⟩;replace K:=hid (K.out.step (Ad.quiet S.out.Al hm));replace S:=hid (S.out.trans (Ad.quiet S.out.Al hm));clear hm;go_wp2_with fail;refine(A3 3 _).mono ?_;rintro e w24 ⟨rfl,hm⟩;replace K:=hid (K.out.step (Ad.quiet S.out.Al hm));replace S:=hid (S.out.trans (Ad.quiet S.out.Al hm));clear hm;go_wp2_with fail;refine(DE D6 3 (.r 4) (.r 3) _ {g with c:=c22,a:=a11,av:=g.av++Tg} (GS.lo (GS.A2 (GS.B0 (GS.A2 (GS.A2 G Ib 3 (.r r) (.n 1)) GB 3 (.r 3) (.n 0)) 3) Li 3 (.r r) (.n 1)) 4 38) S.out.Al (by (try simp only[BH]);omega)).mono ?_;rintro e w25 ⟨rfl,c26,st⟩;dsimp only at st;replace K:=hid (K.out.step st);replace S:=hid (S.out.trans st);clear st;replace hb:=hid (Ap.eq hb.out (GS.CG (GS.lo (GS.A2 (GS.B0 (GS.A2 (GS.A2 G Ib 3 (.r r) (.n 1)) GB 3 (.r 3) (.n 0)) 3) Li 3 (.r r) (.n 1)) 4 38) D6 3 (.r 4) (.r 3)));replace B:=hid ((GS.DO (GS.lo (GS.A2 (GS.B0 (GS.A2 (GS.A2 G Ib 3 (.r r) (.n 1)) GB 3 (.r 3) (.n 0)) 3) Li 3 (.r r) (.n 1)) 4 38) D6 3 (.r 4) (.r 3)).trans B.out);go_wp2_with fail;refine(A3 3 _).mono ?_;rintro e w27 ⟨rfl,hm⟩;replace K:=hid (K.out.step (Ad.quiet S.out.Al hm));replace S:=hid (S.out.trans (Ad.quiet S.out.Al hm));clear hm;go_wp2_with fail;refine(BD 0 _).mono ?_;rintro e w28 ⟨rfl,hm⟩;replace K:=hid (K.out.step (Ad.quiet S.out.Al hm));replace S:=hid (S.out.trans (Ad.quiet S.out.Al hm));clear hm;go_wp2_with fail;refine(DE GB 3 (.r 3) (.n 0) _ {g with c:=c26,a:=a11,av:=g.av++Tg} (GS.A2 (GS.lo (GS.A2 (GS.B0 (GS.A2 (GS.A2 G Ib 3 (.r r) (.n 1)) GB 3 (.r 3) (.n 0)) 3) Li 3 (.r r) (.n 1)) 4 38) D6 3 (.r 4) (.r 3)) S.out.Al (by (try simp only[BH]);omega)).mono ?_;rintro e w29 ⟨rfl,c30,st⟩;dsimp only at st;replace K:=hid (K.out.step st);replace S:=hid (S.out.trans st);clear st;replace hb:=hid (Ap.eq hb.out (GS.CG (GS.A2 (GS.lo (GS.A2 (GS.B0 (GS.A2 (GS.A2 G Ib 3 (.r r) (.n 1)) GB 3 (.r 3) (.n 0)) 3) Li 3 (.r r) (.n 1)) 4 38) D6 3 (.r 4) (.r 3)) GB 3 (.r 3) (.n 0)));replace B:=hid ((GS.DO (GS.A2 (GS.lo (GS.A2 (GS.B0 (GS.A2 (GS.A2 G Ib 3 (.r r) (.n 1)) GB 3 (.r 3) (.n 0)) 3) Li 3 (.r r) (.n 1)) 4 38) D6 3 (.r 4) (.r 3)) GB 3 (.r 3) (.n 0)).trans B.out);go_wp2_with fail;refine(Lk 3 _ {g with c:=c30,a:=a11,av:=g.av++Tg} (GS.A2 (GS.A2 (GS.lo (GS.A2 (GS.B0 (GS.A2 (GS.A2 G Ib 3 (.r r) (.n 1)) GB 3 (.r 3) (.n 0)) 3) Li 3 (.r r) (.n 1)) 4 38) D6 3 (.r 4) (.r 3)) GB 3 (.r 3) (.n 0)) S.out.Al (by (try simp only[BH]);omega) (by (try simp only[List.length_append,BH]);omega)).mono ?_;rintro e w31 ⟨rfl,c32,a33,uC,uM,E36,Hh,st,kn,an,uX⟩;try simp only[List.length_append,BH] at uX
 dsimp only at st kn;rw[List.append_assoc] at st kn;replace K:=hid ((K.out.step st).Gq kn);replace A:=hid (A.out.Ec an (by (try simp only[BH]);omega));replace B:=hid (Kf B.out Hh);replace S:=hid (S.out.trans st);clear kn st an Hh;replace hb:=hid (Ap.eq hb.out (GS.Gs (GS.A2 (GS.A2 (GS.lo (GS.A2 (GS.B0 (GS.A2 (GS.A2 G Ib 3 (.r r) (.n 1)) GB 3 (.r 3) (.n 0)) 3) Li 3 (.r r) (.n 1)) 4 38) D6 3 (.r 4) (.r 3)) GB 3 (.r 3) (.n 0)) 3));go_wp2_with fail
 go_end0
 exact⟨rfl,c32,a33,(Tg++uC),(nN++uM),_,B.out,S.out,K.out,A.out.up (fun _ h=>h) (by (try simp only[BH]);omega),(by (try simp only[List.length_append,BH]);omega)⟩
theorem fW (w:World) (g:MG) (G:GS) (h:AK w (g.Ax G)) (hn:G.Af.length≤999900) (ha:g.av.length≤G.Af.length) (Gd:Ap G.Ah):
  Calls Tryz.prog 137 #[.pointer (some ⟨g.mb,0,none⟩)] w (mU G.KD g G w):=by
 have H:=hid h;have hb:=hid Gd;clear h Gd;go_enter Tryz.func137,Tryz.ntmps137;have S:=hid (Ad.refl H.out);have K:=hid (Ba.nil w (g.Ax G));have A:=hid (Io.nil [] g.mb G.Af.length);have B:=hid (Po G.Be);go_wp2_with fail;refine(Lj 8 0 _ {g with c:=g.c} G S.out.Al (Ch (k:=8) hb.out (by omega))).mono ?_;rintro e w1 ⟨rfl,hm⟩;replace K:=hid (K.out.step (Ad.quiet S.out.Al hm));replace S:=hid (S.out.trans (Ad.quiet S.out.Al hm));clear hm;go_wp2_with fail;refine(Cv 1 (.r 0) (GS.Ah G+8) _ {g with c:=g.c} G S.out.Al (by (try simp only[BH]);omega)).mono ?_;rintro e w2 ⟨rfl,c3,st⟩;replace K:=hid (K.out.step st);replace S:=hid (S.out.trans st);clear st;replace hb:=hid (Ap.eq hb.out (GS.ME G 1 8 0));replace B:=hid ((GS.RQ G 1 8 0).trans B.out);go_wp2_with fail;refine(A3 1 _).mono ?_;rintro e w4 ⟨rfl,hm⟩;replace K:=hid (K.out.step (Ad.quiet S.out.Al hm));replace S:=hid (S.out.trans (Ad.quiet S.out.Al hm));clear hm;go_wp2_with fail;refine(EJ (.r 1) _ {g with c:=c3} (GS.Bj G 1 8 0) S.out.Al (by (try simp only[BH]);omega)).mono ?_;rintro e w8 ⟨wX,wJ,wQ,c9,rfl,st,kn,im⟩;dsimp only at st kn;clear im;replace K:=hid ((K.out.step st).Gq kn);replace S:=hid (S.out.trans st);clear kn st;replace A:=hid (A.out.aZ K.out (fun _ hx=>List.mem_append_right _ hx));replace hb:=hid (Ap.eq hb.out (GS.B8 (GS.Bj G 1 8 0) (.r 1)));replace B:=hid ((GS.Ei (GS.Bj G 1 8 0) (.r 1)).trans B.out);go_wp2_with fail;refine(Lj 14 0 _ {g with c:=c9} (GS.An (GS.Bj G 1 8 0) (.r 1)) S.out.Al (Ch (k:=14) hb.out (by omega))).mono ?_;rintro e w11 ⟨rfl,hm⟩;replace K:=hid (K.out.step (Ad.quiet S.out.Al hm));replace S:=hid (S.out.trans (Ad.quiet S.out.Al hm));clear hm;go_wp2_with fail;refine(Cv 1 (.r 0) (GS.Ah (GS.An (GS.Bj G 1 8 0) (.r 1))+14) _ {g with c:=c9} (GS.An (GS.Bj G 1 8 0) (.r 1)) S.out.Al (by (try simp only[BH]);omega)).mono ?_;rintro e w12 ⟨rfl,c13,st⟩;dsimp only at st;replace K:=hid (K.out.step st);replace S:=hid (S.out.trans st);clear st;replace hb:=hid (Ap.eq hb.out (GS.ME (GS.An (GS.Bj G 1 8 0) (.r 1)) 1 14 0));replace B:=hid ((GS.RQ (GS.An (GS.Bj G 1 8 0) (.r 1)) 1 14 0).trans B.out);go_wp2_with fail;refine(My _ {g with c:=c13} (GS.Bj (GS.An (GS.Bj G 1 8 0) (.r 1)) 1 14 0) S.out.Al (by (try simp only[BH]);omega)).mono ?_;rintro e w16 ⟨wO,wV,c17,rfl,st,kn⟩;dsimp only at st kn;replace K:=hid ((K.out.step st).Gq kn);replace S:=hid (S.out.trans st);clear kn st;replace A:=hid (A.out.aZ K.out (fun _ hx=>List.mem_append_right _ hx));replace hb:=hid (Ap.eq hb.out (GS.Lm (GS.Bj (GS.An (GS.Bj G 1 8 0) (.r 1)) 1 14 0)));replace B:=hid ((GS.P3 (GS.Bj (GS.An (GS.Bj G 1 8 0) (.r 1)) 1 14 0)).trans B.out);go_wp2_with fail;refine(CQ (.r 1) wX wJ wQ ((GS.Af (GS.Bj G 1 8 0)).length) _ {g with c:=c17} (GS.Bc (GS.Bj (GS.An (GS.Bj G 1 8 0) (.r 1)) 1 14 0)) _ S.out.Al K.out (by simp) (by simp) (by simp) (by (try simp only[BH]);omega) (by (try simp only[BH]);omega)).mono ?_;rintro e w19 ⟨rfl,c20,st⟩;dsimp only at st;replace K:=hid (K.out.step st);replace S:=hid (S.out.trans st);clear st;replace hb:=hid (Ap.eq hb.out (GS.Ce (GS.Bc (GS.Bj (GS.An (GS.Bj G 1 8 0) (.r 1)) 1 14 0)) ⟨(GS.Af (GS.Bj G 1 8 0)).length,some (.r 1)⟩));replace B:=hid ((GS.D2 (GS.Bc (GS.Bj (GS.An (GS.Bj G 1 8 0) (.r 1)) 1 14 0)) ⟨(GS.Af (GS.Bj G 1 8 0)).length,some (.r 1)⟩).trans B.out);go_wp2_with fail;refine(A3 0 _).mono ?_;rintro e w21 ⟨rfl,hm⟩;replace K:=hid (K.out.step (Ad.quiet S.out.Al hm));replace S:=hid (S.out.trans (Ad.quiet S.out.Al hm));clear hm;go_wp2_with fail;replace K:=hid (K.out.new S.out.Al (.cells #[.bool true,.int .i64 0,.int .i64 8] 270));replace S:=hid (S.out.trans (Ad.alloc S.out.Al (.cells #[.bool true,.int .i64 0,.int .i64 8] 270)));replace A:=hid (A.out.aZ K.out (fun _ hx=>List.mem_cons_of_mem _ hx));refine(Cv 2 (.r 0) 8 _ {g with c:=c20} (GS.AM (GS.Bc (GS.Bj (GS.An (GS.Bj G 1 8 0) (.r 1)) 1 14 0)) ⟨(GS.Af (GS.Bj G 1 8 0)).length,some (.r 1)⟩) S.out.Al (by (try simp only[BH]);omega)).mono ?_;rintro e w22 ⟨rfl,c23,st⟩;dsimp only at st;replace K:=hid (K.out.step st);replace S:=hid (S.out.trans st);clear st;replace hb:=hid (Ap.eq hb.out (GS.Cg (GS.AM (GS.Bc (GS.Bj (GS.An (GS.Bj G 1 8 0) (.r 1)) 1 14 0)) ⟨(GS.Af (GS.Bj G 1 8 0)).length,some (.r 1)⟩) (.load 2 (.r 0) 8)));replace B:=hid ((GS.Fb (GS.AM (GS.Bc (GS.Bj (GS.An (GS.Bj G 1 8 0) (.r 1)) 1 14 0)) ⟨(GS.Af (GS.Bj G 1 8 0)).length,some (.r 1)⟩) (.load 2 (.r 0) 8)).trans B.out);obtain⟨Au,AQ⟩:=K.out.cl w21.heap.size #[.bool true,.int .i64 0,.int .i64 8] 270 (by simp);go_wp2_with fail;clear Au AQ;refine(O3 2 _ {g with c:=c23} (GS.Aq (GS.AM (GS.Bc (GS.Bj (GS.An (GS.Bj G 1 8 0) (.r 1)) 1 14 0)) ⟨(GS.Af (GS.Bj G 1 8 0)).length,some (.r 1)⟩) (.load 2 (.r 0) 8)) S.out.Al (by (try simp only[BH]);omega) (by (try simp only[List.length_append,BH]);omega) hb.out).mono ?_;rintro e w24 ⟨rfl,c25,a26,Wc,uN,E29,Hh,st,kn,an,uZ⟩;try simp only[List.length_append,BH] at uZ
 dsimp only at st kn;replace K:=hid ((K.out.step st).Gq kn);replace A:=hid (A.out.Ec an (by (try simp only[BH]);omega));replace B:=hid (Kf B.out Hh);replace S:=hid (S.out.trans st);clear kn st an Hh;replace hb:=hid (Ap.eq hb.out (GS.H9 (GS.Aq (GS.AM (GS.Bc (GS.Bj (GS.An (GS.Bj G 1 8 0) (.r 1)) 1 14 0)) ⟨(GS.Af (GS.Bj G 1 8 0)).length,some (.r 1)⟩) (.load 2 (.r 0) 8)) 2));obtain⟨Au,AQ⟩:=K.out.cl w21.heap.size #[.bool true,.int .i64 0,.int .i64 8] 270 (by simp);go_wp2_with fail;clear Au AQ;refine(A3 0 _).mono ?_;rintro e w31 ⟨rfl,hm⟩;replace K:=hid (K.out.step (Ad.quiet S.out.Al hm));replace S:=hid (S.out.trans (Ad.quiet S.out.Al hm));clear hm;obtain⟨Au,AQ⟩:=K.out.cl w21.heap.size #[.bool true,.int .i64 0,.int .i64 8] 270 (by simp);go_wp2_with fail;clear Au AQ;refine(Cv 1 (.r 0) 0 _ {g with c:=c25,a:=a26,av:=g.av++Wc} (GS.BI (GS.Aq (GS.AM (GS.Bc (GS.Bj (GS.An (GS.Bj G 1 8 0) (.r 1)) 1 14 0)) ⟨(GS.Af (GS.Bj G 1 8 0)).length,some (.r 1)⟩) (.load 2 (.r 0) 8)) 2) S.out.Al (by (try simp only[BH]);omega)).mono ?_;rintro e w32 ⟨rfl,c33,st⟩;dsimp only at st;replace K:=hid (K.out.step st);replace S:=hid (S.out.trans st);clear st;replace hb:=hid (Ap.eq hb.out (GS.Cg (GS.BI (GS.Aq (GS.AM (GS.Bc (GS.Bj (GS.An (GS.Bj G 1 8 0) (.r 1)) 1 14 0)) ⟨(GS.Af (GS.Bj G 1 8 0)).length,some (.r 1)⟩) (.load 2 (.r 0) 8)) 2) (.load 1 (.r 0) 0)));replace B:=hid ((GS.Fb (GS.BI (GS.Aq (GS.AM (GS.Bc (GS.Bj (GS.An (GS.Bj G 1 8 0) (.r 1)) 1 14 0)) ⟨(GS.Af (GS.Bj G 1 8 0)).length,some (.r 1)⟩) (.load 2 (.r 0) 8)) 2) (.load 1 (.r 0) 0)).trans B.out);obtain⟨Au,AQ⟩:=K.out.cl w21.heap.size #[.bool true,.int .i64 0,.int .i64 8] 270 (by simp);go_wp2_with fail;clear Au AQ;refine(Cv 3 (.r 0) 8 _ {g with c:=c33,a:=a26,av:=g.av++Wc} (GS.Aq (GS.BI (GS.Aq (GS.AM (GS.Bc (GS.Bj (GS.An (GS.Bj G 1 8 0) (.r 1)) 1 14 0)) ⟨(GS.Af (GS.Bj G 1 8 0)).length,some (.r 1)⟩) (.load 2 (.r 0) 8)) 2) (.load 1 (.r 0) 0)) S.out.Al (by (try simp only[BH]);omega)).mono ?_;rintro e w34 ⟨rfl,c35,st⟩;dsimp only at st;replace K:=hid (K.out.step st);replace S:=hid (S.out.trans st);clear st;replace hb:=hid (Ap.eq hb.out (GS.Cg (GS.Aq (GS.BI (GS.Aq (GS.AM (GS.Bc (GS.Bj (GS.An (GS.Bj G 1 8 0) (.r 1)) 1 14 0)) ⟨(GS.Af (GS.Bj G 1 8 0)).length,some (.r 1)⟩) (.load 2 (.r 0) 8)) 2) (.load 1 (.r 0) 0)) (.load 3 (.r 0) 8)));replace B:=hid ((GS.Fb (GS.Aq (GS.BI (GS.Aq (GS.AM (GS.Bc (GS.Bj (GS.An (GS.Bj G 1 8 0) (.r 1)) 1 14 0)) ⟨(GS.Af (GS.Bj G 1 8 0)).length,some (.r 1)⟩) (.load 2 (.r 0) 8)) 2) (.load 1 (.r 0) 0)) (.load 3 (.r 0) 8)).trans B.out);obtain⟨Au,AQ⟩:=K.out.cl w21.heap.size #[.bool true,.int .i64 0,.int .i64 8] 270 (by simp);go_wp2_with fail;clear Au AQ;refine(A3 3 _).mono ?_;rintro e w36 ⟨rfl,hm⟩;replace K:=hid (K.out.step (Ad.quiet S.out.Al hm));replace S:=hid (S.out.trans (Ad.quiet S.out.Al hm));clear hm;obtain⟨Au,AQ⟩:=K.out.cl w21.heap.size #[.bool true,.int .i64 0,.int .i64 8] 270 (by simp);go_wp2_with fail;clear Au AQ;refine(A3 2 _).mono ?_;rintro e w37 ⟨rfl,hm⟩;replace K:=hid (K.out.step (Ad.quiet S.out.Al hm));replace S:=hid (S.out.trans (Ad.quiet S.out.Al hm));clear hm;obtain⟨Au,AQ⟩:=K.out.cl w21.heap.size #[.bool true,.int .i64 0,.int .i64 8] 270 (by simp);go_wp2_with fail;clear Au AQ;refine(DE GB 3 (.r 3) (.r 2) _ {g with c:=c35,a:=a26,av:=g.av++Wc} (GS.Aq (GS.Aq (GS.BI (GS.Aq (GS.AM (GS.Bc (GS.Bj (GS.An (GS.Bj G 1 8 0) (.r 1)) 1 14 0)) ⟨(GS.Af (GS.Bj G 1 8 0)).length,some (.r 1)⟩) (.load 2 (.r 0) 8)) 2) (.load 1 (.r 0) 0)) (.load 3 (.r 0) 8)) S.out.Al (by (try simp only[BH]);omega)).mono ?_;rintro e w38 ⟨rfl,c39,st⟩;dsimp only at st;replace K:=hid (K.out.step st);replace S:=hid (S.out.trans st);clear st;replace hb:=hid (Ap.eq hb.out (GS.CG (GS.Aq (GS.Aq (GS.BI (GS.Aq (GS.AM (GS.Bc (GS.Bj (GS.An (GS.Bj G 1 8 0) (.r 1)) 1 14 0)) ⟨(GS.Af (GS.Bj G 1 8 0)).length,some (.r 1)⟩) (.load 2 (.r 0) 8)) 2) (.load 1 (.r 0) 0)) (.load 3 (.r 0) 8)) GB 3 (.r 3) (.r 2)));replace B:=hid ((GS.DO (GS.Aq (GS.Aq (GS.BI (GS.Aq (GS.AM (GS.Bc (GS.Bj (GS.An (GS.Bj G 1 8 0) (.r 1)) 1 14 0)) ⟨(GS.Af (GS.Bj G 1 8 0)).length,some (.r 1)⟩) (.load 2 (.r 0) 8)) 2) (.load 1 (.r 0) 0)) (.load 3 (.r 0) 8)) GB 3 (.r 3) (.r 2)).trans B.out);obtain⟨Au,AQ⟩:=K.out.cl w21.heap.size #[.bool true,.int .i64 0,.int .i64 8] 270 (by simp);go_wp2_with fail;clear Au AQ;refine(Lk 3 _ {g with c:=c39,a:=a26,av:=g.av++Wc} (GS.A2 (GS.Aq (GS.Aq (GS.BI (GS.Aq (GS.AM (GS.Bc (GS.Bj (GS.An (GS.Bj G 1 8 0) (.r 1)) 1 14 0)) ⟨(GS.Af (GS.Bj G 1 8 0)).length,some (.r 1)⟩) (.load 2 (.r 0) 8)) 2) (.load 1 (.r 0) 0)) (.load 3 (.r 0) 8)) GB 3 (.r 3) (.r 2)) S.out.Al (by (try simp only[BH]);omega) (by (try simp only[List.length_append,BH]);omega)).mono ?_;rintro e w40 ⟨rfl,c41,a42,jW,uL,E45,Hh,st,kn,an,uW⟩;try simp only[List.length_append,BH] at uW
 dsimp only at st kn;rw[List.append_assoc] at st kn;replace K:=hid ((K.out.step st).Gq kn);replace A:=hid (A.out.Ec an (by (try simp only[BH]);omega));replace B:=hid (Kf B.out Hh);replace S:=hid (S.out.trans st);clear kn st an Hh;replace hb:=hid (Ap.eq hb.out (GS.Gs (GS.A2 (GS.Aq (GS.Aq (GS.BI (GS.Aq (GS.AM (GS.Bc (GS.Bj (GS.An (GS.Bj G 1 8 0) (.r 1)) 1 14 0)) ⟨(GS.Af (GS.Bj G 1 8 0)).length,some (.r 1)⟩) (.load 2 (.r 0) 8)) 2) (.load 1 (.r 0) 0)) (.load 3 (.r 0) 8)) GB 3 (.r 3) (.r 2)) 3));obtain⟨Au,AQ⟩:=K.out.cl w21.heap.size #[.bool true,.int .i64 0,.int .i64 8] 270 (by simp);go_wp2_with fail;clear Au AQ;refine(Lj 20 0 _ {g with c:=c41,a:=a42,av:=g.av++(Wc++jW)} (GS.B0 (GS.A2 (GS.Aq (GS.Aq (GS.BI (GS.Aq (GS.AM (GS.Bc (GS.Bj (GS.An (GS.Bj G 1 8 0) (.r 1)) 1 14 0)) ⟨(GS.Af (GS.Bj G 1 8 0)).length,some (.r 1)⟩) (.load 2 (.r 0) 8)) 2) (.load 1 (.r 0) 0)) (.load 3 (.r 0) 8)) GB 3 (.r 3) (.r 2)) 3) S.out.Al (Ch (k:=20) hb.out (by omega))).mono ?_;rintro e w47 ⟨rfl,hm⟩;replace K:=hid (K.out.step (Ad.quiet S.out.Al hm));replace S:=hid (S.out.trans (Ad.quiet S.out.Al hm));clear hm;obtain⟨Au,AQ⟩:=K.out.cl w21.heap.size #[.bool true,.int .i64 0,.int .i64 8] 270 (by simp);go_wp2_with fail;clear Au AQ;refine(BD 1 _).mono ?_;rintro e w48 ⟨rfl,hm⟩;replace K:=hid (K.out.step (Ad.quiet S.out.Al hm));replace S:=hid (S.out.trans (Ad.quiet S.out.Al hm));clear hm;obtain⟨Au,AQ⟩:=K.out.cl w21.heap.size #[.bool true,.int .i64 0,.int .i64 8] 270 (by simp);go_wp2_with fail;clear Au AQ;refine(BM (.r 0) (GS.Ah (GS.B0 (GS.A2 (GS.Aq (GS.Aq (GS.BI (GS.Aq (GS.AM (GS.Bc (GS.Bj (GS.An (GS.Bj G 1 8 0) (.r 1)) 1 14 0)) ⟨(GS.Af (GS.Bj G 1 8 0)).length,some (.r 1)⟩) (.load 2 (.r 0) 8)) 2) (.load 1 (.r 0) 0)) (.load 3 (.r 0) 8)) GB 3 (.r 3) (.r 2)) 3)+20) (.n 1) _ {g with c:=c41,a:=a42,av:=g.av++(Wc++jW)} (GS.B0 (GS.A2 (GS.Aq (GS.Aq (GS.BI (GS.Aq (GS.AM (GS.Bc (GS.Bj (GS.An (GS.Bj G 1 8 0) (.r 1)) 1 14 0)) ⟨(GS.Af (GS.Bj G 1 8 0)).length,some (.r 1)⟩) (.load 2 (.r 0) 8)) 2) (.load 1 (.r 0) 0)) (.load 3 (.r 0) 8)) GB 3 (.r 3) (.r 2)) 3) S.out.Al (by (try simp only[BH]);omega)).mono ?_;rintro e w49 ⟨rfl,c50,st⟩;dsimp only at st;replace K:=hid (K.out.step st);replace S:=hid (S.out.trans st);clear st;replace hb:=hid (Ap.eq hb.out (GS.Ms (GS.B0 (GS.A2 (GS.Aq (GS.Aq (GS.BI (GS.Aq (GS.AM (GS.Bc (GS.Bj (GS.An (GS.Bj G 1 8 0) (.r 1)) 1 14 0)) ⟨(GS.Af (GS.Bj G 1 8 0)).length,some (.r 1)⟩) (.load 2 (.r 0) 8)) 2) (.load 1 (.r 0) 0)) (.load 3 (.r 0) 8)) GB 3 (.r 3) (.r 2)) 3) 20 0 (.n 1)));replace B:=hid ((GS.K7 (GS.B0 (GS.A2 (GS.Aq (GS.Aq (GS.BI (GS.Aq (GS.AM (GS.Bc (GS.Bj (GS.An (GS.Bj G 1 8 0) (.r 1)) 1 14 0)) ⟨(GS.Af (GS.Bj G 1 8 0)).length,some (.r 1)⟩) (.load 2 (.r 0) 8)) 2) (.load 1 (.r 0) 0)) (.load 3 (.r 0) 8)) GB 3 (.r 3) (.r 2)) 3) 20 0 (.n 1)).trans B.out);obtain⟨Au,AQ⟩:=K.out.cl w21.heap.size #[.bool true,.int .i64 0,.int .i64 8] 270 (by simp);go_wp2_with fail;clear Au AQ;refine(Jg wO wV ((GS.Af (GS.Bj (GS.An (GS.Bj G 1 8 0) (.r 1)) 1 14 0)).length) _ {g with c:=c50,a:=a42,av:=g.av++(Wc++jW)} (GS.Fj (GS.B0 (GS.A2 (GS.Aq (GS.Aq (GS.BI (GS.Aq (GS.AM (GS.Bc (GS.Bj (GS.An (GS.Bj G 1 8 0) (.r 1)) 1 14 0)) ⟨(GS.Af (GS.Bj G 1 8 0)).length,some (.r 1)⟩) (.load 2 (.r 0) 8)) 2) (.load 1 (.r 0) 0)) (.load 3 (.r 0) 8)) GB 3 (.r 3) (.r 2)) 3) 20 0 (.n 1)) _ S.out.Al K.out (by simp) (by simp) (by (try simp only[BH]);omega) (by (try simp only[BH]);omega)).mono ?_;rintro e w51 ⟨rfl,c52,st⟩;dsimp only at st;replace K:=hid (K.out.step st);replace S:=hid (S.out.trans st);clear st;replace hb:=hid (Ap.eq hb.out (GS.Ce (GS.Fj (GS.B0 (GS.A2 (GS.Aq (GS.Aq (GS.BI (GS.Aq (GS.AM (GS.Bc (GS.Bj (GS.An (GS.Bj G 1 8 0) (.r 1)) 1 14 0)) ⟨(GS.Af (GS.Bj G 1 8 0)).length,some (.r 1)⟩) (.load 2 (.r 0) 8)) 2) (.load 1 (.r 0) 0)) (.load 3 (.r 0) 8)) GB 3 (.r 3) (.r 2)) 3) 20 0 (.n 1)) ⟨(GS.Af (GS.Bj (GS.An (GS.Bj G 1 8 0) (.r 1)) 1 14 0)).length,none⟩));replace B:=hid ((GS.D2 (GS.Fj (GS.B0 (GS.A2 (GS.Aq (GS.Aq (GS.BI (GS.Aq (GS.AM (GS.Bc (GS.Bj (GS.An (GS.Bj G 1 8 0) (.r 1)) 1 14 0)) ⟨(GS.Af (GS.Bj G 1 8 0)).length,some (.r 1)⟩) (.load 2 (.r 0) 8)) 2) (.load 1 (.r 0) 0)) (.load 3 (.r 0) 8)) GB 3 (.r 3) (.r 2)) 3) 20 0 (.n 1)) ⟨(GS.Af (GS.Bj (GS.An (GS.Bj G 1 8 0) (.r 1)) 1 14 0)).length,none⟩).trans B.out);obtain⟨Au,AQ⟩:=K.out.cl w21.heap.size #[.bool true,.int .i64 0,.int .i64 8] 270 (by simp);go_wp2_with fail;clear Au AQ
 go_end0
 exact⟨rfl,c52,a42,(Wc++jW),(uN++uL),_,B.out,S.out,K.out,A.out.up (fun _ h=>h) (by (try simp only[BH]);omega),(by (try simp only[List.length_append,BH]);omega)⟩
end Go.Proofs.YtpdfifdlhpmofaaGreatDoor
