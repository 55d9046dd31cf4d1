/-
  Part 20 of the proof.
-/
import Derived.Test.YtpdfifdlhpmofaaGreatDoorZ10
import Derived.Test.YtpdfifdlhpmofaaGreatDoorZ07
set_option linter.unusedVariables false
set_option linter.unusedSimpArgs false
set_option maxHeartbeats 3200000
set_option maxRecDepth 100000
namespace Go.Proofs.YtpdfifdlhpmofaaGreatDoor
open Go.RowKit Tryz
open Go.Lib (hid)
theorem mai {p:Prop} (h:p:=by
 have AF:=AJ.out;replace AJ:=hid (show R.node l= .error 4 by simpa using AF);clear AF;go_upto_region 26 with fail
 refine Ap (l:=[(0,true),(1,true),(2,true),(3,true),(4,true),(5,true),(6,true),(7,true),(8,true),(9,true),(10,true),(11,true),(12,true),(13,true),(14,true),(15,true),(16,true),(17,false)]) (fun W=>W.cell? ⟨g2.rb,0,none⟩=some (i6 g2.pb)/\W.cell? ⟨g2.pb,3,none⟩=some (.slice (some ⟨qb,0,none⟩) (m+1) qc)) 17 ?_ ?_
 ·exact⟨by go_simp,by go_simp⟩
 refine detE ?_;intro K hK;refine hK _ _ (fun h=>UV rfl h) ?_;simp only[BB];have t1:=S.Am.set (i:=0) rfl 3 (.bool al);have t2:=t1.Am.set (i:=0) rfl 4 (i5 ai);have t3:=SI (a:=DS (w.heap.size+1) ({x2 with a:=⟨al,ai⟩}:Nd)) (g:=g2) (R:=R2) (E:=[DS w.heap.size (.of 0)]) t2.Am Hqe Hm.out;have t4:Ak w (g.Ar R) _ ((DS (w.heap.size+1) ({x2 with a:=⟨al,ai⟩}:Nd)::g2.Ar R2.DG)++[DS w.heap.size (.of 0)]):=S.trans (t1.trans (t2.trans t3));have t5:=t4.trans (Ak.alloc t4.Am (.cells #[.bool al,i5 ai] 108));have s4:=t5.trans (Ak.drew t5.Am);clear t1 t2 t3 t4 t5 Jq KN Fa GG IG Cu A8 C6 Bv AX Cq Bi Nf Nc Nb YB S hqf nxq nrq npq hqv AbR;generalize ((((w3.setCell {block:=w.heap.size+1,off:=3} (Value.bool al)).setCell {block:=w.heap.size+1,off:=4} (Value.int IntKind.i64 ai)).setCell {block:=qb,off:=m} (Value.bool true)).alloc (Obj.cells #[Value.bool al,Value.int IntKind.i64 ai] 108)).drew=w4 at s4⊢;have KY:=Cs (AO s4.Am);obtain⟨Jq,KN,Fa,GG,IG⟩:=KY;obtain⟨Cu,A8,C6,Bv,AX,Cq,Bi⟩:=AI (Ak.Cn (AO s4.Am));have De:BM w4 w.heap.size #[.int .u8 0,i5 0,.string ⟨#[]⟩,.bool false,i5 0,.bool false,i5 0,.bool false,i5 0,i5 0,i5 0,i5 0,i5 0,i5 0] 110:=s4.Am.Au (i:=(g2.Ar R2.DG).length+1) Bq;have Nf:∀i:Nat,w4.cell? ⟨w.heap.size,i,none⟩=(#[.int .u8 0,i5 0,.string ⟨#[]⟩,.bool false,i5 0,.bool false,i5 0,.bool false,i5 0,i5 0,i5 0,i5 0,i5 0,i5 0]:Array Value)[i]?:=De.cell;have Nc:=De.free;have Nb:=De.lt;have YB:=hid De;clear De;have HL3:=hid (Qp wU Hp2);have S:=hid s4;clear s4;go_wp2;refine BQ (x:=({x2 with a:=⟨al,ai⟩}:Nd)) (c:=4) (yb:=w.heap.size) rfl rfl ?_ ?_
 ·exact BM.Ei YB (.int .u8 x2.kind) (i5 x2.v) (.string x2.op) (.bool al) (i5 ai) (.bool x2.b.AR) (i5 x2.b.v) (.bool x2.AW.AR) (i5 x2.AW.v) (i5 x2.first) (i5 x2.size) (i5 x2.Dg) (i5 x2.n) (i5 x2.Aj)
 rw[AJ.out];refine⟨_,rfl,Ka S.Bf (LE _) ?_⟩;exact Av.Ei _ _ _ _ _ _ _ _ _ _ _ _ _ _):p:=h
theorem mak {p:Prop} (h:p:=by
 go_upto_region 41 with fail
 have t1:=S.Am.set (i:=0) rfl 5 (.bool bl);have t2:=t1.Am.set (i:=0) rfl 6 (i5 bi);have t3:Ak w (g.Ar R) _ ((DS (w.heap.size+1) ({Nd.of 115 with a:=⟨al,ai⟩,op:=vn,b:=⟨bl,bi⟩}:Nd)::g.Ar R)++[DS w.heap.size (.of 0)]):=S.trans (t1.trans t2);have s9:=t3.trans (Ak.alloc t3.Am (.cells #[.bool bl,i5 bi] 108));clear t1 t2 t3 Jq KN Fa GG IG Cu A8 C6 Bv AX Cq Bi Nf Nc Nb YB S c1 Fb;generalize (((w6.setCell {block:=w.heap.size+1,off:=5} (Value.bool bl)).setCell {block:=w.heap.size+1,off:=6} (Value.int IntKind.i64 bi)).alloc (Obj.cells #[Value.bool bl,Value.int IntKind.i64 bi] 108))=w7 at s9⊢;have uX:=Hd.Bf s9.Bf;have c1:=uX.c 1 Y;have Fb:=uX.lt;clear uX;have KY:=Cs (AO s9.Am);obtain⟨Jq,KN,Fa,GG,IG⟩:=KY;obtain⟨Cu,A8,C6,Bv,AX,Cq,Bi⟩:=AI (Ak.Cn (AO s9.Am));have De:BM w7 w.heap.size #[.int .u8 0,i5 0,.string ⟨#[]⟩,.bool false,i5 0,.bool false,i5 0,.bool false,i5 0,i5 0,i5 0,i5 0,i5 0,i5 0] 110:=s9.Am.Au (i:=(g.Ar R).length+1) Bq;have Nf:∀i:Nat,w7.cell? ⟨w.heap.size,i,none⟩=(#[.int .u8 0,i5 0,.string ⟨#[]⟩,.bool false,i5 0,.bool false,i5 0,.bool false,i5 0,i5 0,i5 0,i5 0,i5 0,i5 0]:Array Value)[i]?:=De.cell;have Nc:=De.free;have Nb:=De.lt;have YB:=hid De;clear De;have S:=hid s9;clear s9;have AF:=AJ.out;replace AJ:=hid (show R.node l= .error 4 by simpa using AF);clear AF;go_wp2;refine BQ (x:=({Nd.of 115 with a:=⟨al,ai⟩,op:=vn,b:=⟨bl,bi⟩}:Nd)) (c:=4) (yb:=w.heap.size) rfl rfl ?_ ?_
 ·exact BM.Ei YB (.int .u8 115) (i5 0) (.string vn) (.bool al) (i5 ai) (.bool bl) (i5 bi) (.bool false) (i5 0) (i5 0) (i5 0) (i5 0) (i5 0) (i5 0)
 rw[AJ.out];refine⟨_,rfl,Ka S.Bf (LE _) ?_⟩;exact Av.Ei _ _ _ _ _ _ _ _ _ _ _ _ _ _):p:=h
theorem mar {p:Prop} (h:p:=by
 have Nc:=De.free;have Nb:=De.lt;have YB:=hid De;clear De;have S:=hid s3;clear s3;go_wp2;refine BQ (x:=x3) (c:=0) (yb:=w.heap.size) rfl rfl ?_ ?_
 ·exact BM.Ei YB (.int .u8 x3.kind) (i5 x3.v) (.string x3.op) (.bool x3.a.AR) (i5 x3.a.v) (.bool x3.b.AR) (i5 x3.b.v) (.bool x3.AW.AR) (i5 x3.AW.v) (i5 x3.first) (i5 x3.size) (i5 x3.Dg) (i5 x3.n) (i5 x3.Aj)
 rw[AJ.out];refine⟨rfl,g3,HRB,HL3,O5 S (LE _) ?_⟩;exact Av.Ei _ _ _ _ _ _ _ _ _ _ _ _ _ _):p:=h
theorem maK {p:Prop} (h:p:=by
 exact(BM.Ei ((B1.Em (p:=⟨w.heap.size+1,3,none⟩) (Ne.symm hb) (.bool al)).Em (p:=⟨w.heap.size+1,4,none⟩) (Ne.symm hb) (i5 ai)) (.int .u8 111) (i5 0) (.string ⟨#[]⟩) (.bool al) (i5 ai) (.bool false) (i5 0) (.bool false) (i5 0) (i5 0) (i5 0) (i5 0) (i5 0) (i5 0)).alloc _):p:=h
theorem maL {p:Prop} (h:p:=by
 exact(BM.Ei ((B1.Em (p:=⟨w.heap.size+1,3,none⟩) (Ne.symm hb) (.bool al)).Em (p:=⟨w.heap.size+1,4,none⟩) (Ne.symm hb) (i5 ai)) (.int .u8 122) (i5 0) (.string ⟨#[]⟩) (.bool al) (i5 ai) (.bool false) (i5 0) (.bool false) (i5 0) (i5 0) (i5 0) (i5 0) (i5 0) (i5 0)).alloc _):p:=h
theorem ma5 {p:Prop} (h:p:=by
 exact BM.Ei YB (.int .u8 x2.kind) (i5 x2.v) (.string x2.op) (.bool x2.a.AR) (i5 x2.a.v) (.bool x2.b.AR) (i5 x2.b.v) (.bool x2.AW.AR) (i5 x2.AW.v) (i5 x2.first) (i5 x2.size) (i5 x2.Dg) (i5 x2.n) (i5 x2.Aj)):p:=h
theorem mbn {p:Prop} (h:p:=by
 exact BM.Ei YB (.int .u8 115) (i5 0) (.string ⟨#[]⟩) (.bool al) (i5 ai) (.bool false) (i5 0) (.bool false) (i5 0) (i5 0) (i5 0) (i5 0) (i5 0) (i5 0)):p:=h
variable {w w' w'':World} {R:RS} {b yb:Nat} {x:Nd} {T:TypeId} {a:Ob} {L E M:List Ob} {l:Ws} {ds:List SG} {d:SG} {us:List (List Bool)} {u:List Bool} {v:Value} {xs:List Value}
def Es (l:List Int):List Value:=l.map (Value.int .i64)
def FK (l:List Bool):List Value:=l.map Value.bool
def At.cells (a:At):List Value:=[.bool a.AR,i5 a.v]
def At.val (a:At):Value:= .agg #[.bool a.AR,i5 a.v]
def Nd.cells (x:Nd):List Value:=[.int .u8 x.kind,i5 x.v,.string x.op,.bool x.a.AR,i5 x.a.v,.bool x.b.AR,i5 x.b.v,.bool x.AW.AR,i5 x.AW.v,
  i5 x.first,i5 x.size,i5 x.Dg,i5 x.n,i5 x.Aj]
def Nd.val (x:Nd):Value:= .agg x.cells.toArray
def Bz (l:List Nd):List Value:=l.flatMap Nd.cells
structure RG where
 rb:Nat
 pb:Nat
 s:SG
 f:SG
 z:SG
 l:SG
 o:SG
 t:SG
 u:SG
 q:SG
 cv:List SG
 dv:List SG
variable {g:RG}
def DQ (a:SG) (l:List Nd):Ob:= .row (.slice a.p l.length a.c) 110 14 l.length (Bz l)
def Kw (a:SG) (l:List ByteArray):Ob:= .row (.slice a.p l.length a.c) 9 1 l.length (A3 l)
def Oo (a:SG) (l:List Int):Ob:= .row (.slice a.p l.length a.c) 3 1 l.length (Es l)
def Qv (l:List Nat):List Int:=l.map fun (k:Nat)=>(k:Int)
def Qw (a:SG) (l:List Nat):Ob:= .row (.slice a.p l.length a.c) 3 1 l.length (Es (Qv l))
def Cd (a:SG) (l:List Bool):Ob:= .row (.slice a.p l.length a.c) 4 1 l.length (FK l)
theorem TO (p:Option Addr) (c:Nat) (l:List ByteArray) (s:ByteArray):Ob.row (.slice p (l.length+1) c) 9 1 (l.length+1) (A3 l++(#[.string s]:Array Value).toList)=Kw ⟨p,c⟩ (l++[s]):=by simp[Kw,A3]
theorem Ub (p:Option Addr) (c:Nat) (l:List Int) (s:Int):Ob.row (.slice p (l.length+1) c) 3 1 (l.length+1) (Es l++(#[i5 s]:Array Value).toList)=Oo ⟨p,c⟩ (l++[s]):=by simp[Oo,Es]
theorem T2 (p:Option Addr) (c:Nat) (l:List Nat) (s:Nat):Ob.row (.slice p (l.length+1) c) 3 1 (l.length+1) (Es (Qv l)++(#[i5 (s:Int)]:Array Value).toList)=Qw ⟨p,c⟩ (l++[s]):=by simp[Qw,Qv,Es]
theorem bS (p:Option Addr) (c:Nat) (l:List Bool) (s:Bool):Ob.row (.slice p (l.length+1) c) 4 1 (l.length+1) (FK l++(#[.bool s]:Array Value).toList)=Cd ⟨p,c⟩ (l++[s]):=by simp[Cd,FK]
def RG.Ar (g:RG) (R:RS):List Ob:=
 [.Au g.rb #[i6 g.pb,.slice g.s.p R.As.length g.s.c,.slice g.f.p R.first.length g.f.c,.slice g.z.p R.size.length g.z.c,.slice g.l.p R.AA.length g.l.c,.slice g.o.p R.Af.length g.o.c,i5 R.Ah,.bool false,i5 0] 94,
  .Au g.pb #[.slice g.t.p R.p.Aa.length g.t.c,i5 R.p.cells,.slice g.u.p R.p.Ao.length g.u.c,.slice g.q.p R.p.BJ.length g.q.c] 53,
  Kw g.s R.As,Oo g.f R.first,Oo g.z R.size,Kw g.l R.AA,Qw g.o R.Af,
  .row (.slice g.t.p R.p.Aa.length g.t.c) 72 1 R.p.Aa.length (BC g.cv R.p.Aa),
  .row (.slice g.u.p R.p.Ao.length g.u.c) 51 1 R.p.Ao.length (BC g.dv R.p.Ao),
  Cd g.q R.p.BJ]++(List.zipWith DQ g.cv R.p.Aa++List.zipWith Cd g.dv R.p.Ao)
structure Dq (g:RG) (R:RS):Prop where
 cl:g.cv.length=R.p.Aa.length
 dl:g.dv.length=R.p.Ao.length
 ql:R.p.BJ.length=R.p.Aa.length
 tl:R.p.Ao.length=R.p.Aa.length
 fl:R.first.length=R.As.length
 zl:R.size.length=R.As.length
 ll:R.AA.length<=4
def AaT (w:World) (g:RG) (R:RS):Prop:=Az w (g.Ar R)/\Dq g R
structure Aaj (w:World) (g:RG) (R:RS):Prop where
 c:∀i:Nat,w.cell? ⟨g.rb,i,none⟩=(#[i6 g.pb,.slice g.s.p R.As.length g.s.c,.slice g.f.p R.first.length g.f.c,.slice g.z.p R.size.length g.z.c,.slice g.l.p R.AA.length g.l.c,.slice g.o.p R.Af.length g.o.c,i5 R.Ah,.bool false,i5 0]:Array Value)[i]?
 pc:∀i:Nat,w.cell? ⟨g.pb,i,none⟩=(#[.slice g.t.p R.p.Aa.length g.t.c,i5 R.p.cells,.slice g.u.p R.p.Ao.length g.u.c,.slice g.q.p R.p.BJ.length g.q.c]:Array Value)[i]?
 f:∀i:Nat,w.frozen? ⟨g.rb,i,none⟩=false
 pf:∀i:Nat,w.frozen? ⟨g.pb,i,none⟩=false
 lt:g.rb < w.heap.size
 pl:g.pb < w.heap.size
 ne:g.rb≠g.pb
theorem AI (h:Az w (g.Ar R)):Aaj w g R where
 c:=(h.Au (i:=0) rfl).cell
 pc:=(h.Au (i:=1) rfl).cell
 f:=(h.Au (i:=0) rfl).free
 pf:=(h.Au (i:=1) rfl).free
 lt:=(h.Au (i:=0) rfl).lt
 pl:=(h.Au (i:=1) rfl).lt
 ne:=h.ne (i:=0) (j:=1) rfl rfl AC
theorem aJ (s:ByteArray) (w:World) (hs:s.size<=maxLen):Calls prog 86 #[.string s] w fun e w'=>e= .returned (.tuple #[i5 ((number (bs s)).getD 0),.bool (number (bs s)).isSome])/\w'=w:=
 KD s w hs
theorem I7 (s:ByteArray) (w:World) (g:RG) (R:RS) (h:AaT w g R) (hs:s.size<=maxLen):
  Calls prog 87 #[i6 g.rb,.string s] w fun e w'=>e= .returned (.tuple #[(R.CO s).1.val,.bool (R.CO s).2])/\Av [] w w':=by
 have C6:=AI h.1;have AX:=C6.lt;have iM:=Sl.M3 (h.1.row (i:=5) rfl);have hn:=fun w=>aJ s w hs
 unfold RS.CO;generalize number (bs s)=n at*;have Hn:=hid hn;have hc:=C6.c;cases n with
 | some v=>
  clear hn iM hc C6;go_enter func87,ntmps87;go_wp2_with (first | (go_at_call 86;refine(Hn _).mono ?_;rintro e w' ⟨rfl,rfl⟩));refine bodyPost_ret (v:= .tuple #[.agg #[.bool false,i5 v],.bool true]) (by simp[results,results87,go_sem]) rfl ⟨rfl,?_⟩;exact mcf
 | none=>
  have ZR:=hid iM;clear hn iM C6;go_enter func87,ntmps87;go_wp2_with (first | (go_at_call 86;refine(Hn _).mono ?_;rintro e w' ⟨rfl,rfl⟩));refine(Gm R.AA s (.slice g.l.p R.AA.length g.l.c) _ _ (ZR.Bf ((Av.refl [] w).alloc _) EQ)).mono ?_;rintro e w' ⟨rfl,rfl⟩;generalize PG:A6 R.AA s=k;by_cases hk:0<=k
  ·have LH:decide (0<=k)=true:=by simpa using hk
   go_wp2;refine bodyPost_ret (v:= .tuple #[.agg #[.bool true,i5 k],.bool true]) (by simp[results,results87,go_sem]) rfl ⟨by rw[PG,LH];rfl,?_⟩;exact mcf
  ·have LH:decide (0<=k)=false:=by simpa using hk
   go_wp2;refine bodyPost_ret (v:= .tuple #[.agg #[.bool true,i5 k],.bool false]) (by simp[results,results87,go_sem]) rfl ⟨by rw[PG,LH];rfl,?_⟩;exact mcf
def DS (b:Nat) (x:Nd):Ob:= .Au b x.cells.toArray 110
def lO (res:Except Int (RS×Nd)) (g:RG) (R:RS) (xb:Nat) (x:Nd) (w:World) (e:Ending) (w':World):Prop:=
 match res with
 | .error c=>e= .returned (i5 c)/\Av [] w w'
 | .ok (R',x')=>e= .returned (i5 0)/\∃g',g'.rb=g.rb/\Dq g' R'/\Ak w (DS xb x::g.Ar R) w' (DS xb x'::g'.Ar R')
theorem aM (h:BM w b x.cells.toArray T) (i:Nat):w.cell? ⟨b,i,none⟩=(#[.int .u8 x.kind,i5 x.v,.string x.op,.bool x.a.AR,i5 x.a.v,.bool x.b.AR,i5 x.b.v,.bool x.AW.AR,i5 x.AW.v,
  i5 x.first,i5 x.size,i5 x.Dg,i5 x.n,i5 x.Aj]:Array Value)[i]?:=h.cell i
structure Aak (w:World) (xb:Nat) (g:RG) (x:Nd):Prop where
 c:∀i:Nat,w.cell? ⟨xb,i,none⟩=(#[.int .u8 x.kind,i5 x.v,.string x.op,.bool x.a.AR,i5 x.a.v,.bool x.b.AR,i5 x.b.v,.bool x.AW.AR,i5 x.AW.v,
   i5 x.first,i5 x.size,i5 x.Dg,i5 x.n,i5 x.Aj]:Array Value)[i]?
 f:∀i:Nat,w.frozen? ⟨xb,i,none⟩=false
 lt:xb < w.heap.size
 n1:xb≠g.rb
 n2:xb≠g.pb
theorem Cs {xb:Nat} (h:Az w (DS xb x::g.Ar R)):Aak w xb g x where
 c:=aM (h.Au (i:=0) rfl)
 f:=(h.Au (i:=0) rfl).free
 lt:=(h.Au (i:=0) rfl).lt
 n1:=h.ne (i:=0) (j:=1) rfl rfl AC
 n2:=h.ne (i:=0) (j:=2) rfl rfl AC
theorem Uc:(prog.info? 9).map (fun i=>(i.zero,i.size,i.bytes))=some (some (.string ByteArray.empty),1,16):=Fd
theorem Ak.Cn (h:Az w (a::L)):Az w L:=(Ak.drop (A:=[]) (B:=[a]) (C:=L) h).Am
theorem SE (s:ByteArray) (w:World) (g:RG) (R:RS) (xb:Nat) (x:Nd) (h:Az w (DS xb x::g.Ar R)) (hL:Dq g R):
  Calls prog 90 #[i6 g.rb,i6 xb,.string s] w (lO (R.JA x s) g R xb x w):=by
 obtain⟨rb,pb,⟨sp,sc⟩,f,z,⟨lp,lc⟩,o,t,u,q,cv,dv⟩:=g;obtain⟨j0,hj,KW,Fo,K7⟩:=info_parts Uc;obtain⟨hc,_,hBf,_,AX,_,_⟩:=AI (Ak.Cn h);obtain⟨Jq,KN,Fa,Bi,_⟩:=Cs h;have cu:=fun w' (k:Av [] w w')=>Gm R.As s (.slice sp R.As.length sc) w' _ ((Sl.M3 (h.row (i:=3) rfl)).Bf k EQ)
 have Ib:=fun w' (k:Av [] w w')=>Gm R.AA s (.slice lp R.AA.length lc) w' _ ((Sl.M3 (h.row (i:=6) rfl)).Bf k EQ)
 unfold RS.JA;generalize Iu:A6 R.As s=k1 at*;generalize Ss:A6 R.AA s=k2 at*;have Hp1:=hid cu;have Hp2:=hid Ib;have H:=hid h;have HL:=hid hL;clear cu Ib h hL Iu Ss;by_cases c1:0<=k1
 ·rw[In c1];go_enter func90,ntmps90;go_wp2_with fail;refine(Hp1 _ (Av.refl _ _)).mono ?_;rintro e w' ⟨rfl,rfl⟩;go_wp2;go_ret;exact⟨rfl,Av.refl _ _⟩
 ·rw[I c1];have c1':k1 < 0:=Y
  by_cases c2:0<=k2
  ·rw[In c2];have c2':¬k2 < 0:=Y
   go_enter func90,ntmps90;go_wp2_with fail;refine(Hp1 _ (Av.refl _ _)).mono ?_;rintro e w' ⟨rfl,rfl⟩;go_wp2_with fail;refine(Hp2 _ (Av.refl _ _)).mono ?_;rintro e w' ⟨rfl,rfl⟩;go_wp2;go_ret;exact⟨rfl,_,rfl,HL,H.set (i:=0) rfl 1 _⟩
  ·rw[I c2];have c2':k2 < 0:=Y
   by_cases c3:R.AA.length=4
   ·rw[In c3];have c3':((R.AA.length:Int)==4)=true:=by rw[c3];rfl
    clear c3;go_enter func90,ntmps90;go_wp2_with fail;refine(Hp1 _ (Av.refl _ _)).mono ?_;rintro e w' ⟨rfl,rfl⟩;go_wp2_with fail;refine(Hp2 _ (Av.refl _ _)).mono ?_;rintro e w' ⟨rfl,rfl⟩;go_wp2;go_ret;exact⟨rfl,Av.refl _ _⟩
   ·rw[I c3];have c3':((R.AA.length:Int)==4)=false:=by rw[NE];omega
    have C3:=hid c3;clear c3;go_enter func90,ntmps90;go_wp2_with fail;refine(Hp1 _ (Av.refl _ _)).mono ?_;rintro e w' ⟨rfl,rfl⟩;go_wp2_with fail;refine(Hp2 _ (Av.refl _ _)).mono ?_;rintro e w' ⟨rfl,rfl⟩;go_wp2_with (first | (at_builtin;refine B6 16 _ _ _ j0 _ #[.string s] _ H (k:=6) rfl Do Do underlying90 hj KW Fo K7 rfl Y Do Do rfl (by simp[Value.oneCell']) (by have:=HL.ll;unfold maxLen;omega) (by have:=HL.ll;omega) ?_;intro g6 AZ w6 AD zm;rw[TO] at AD;have q1:=(AD.Am.Au (i:=1) rfl).cell;have q2:=(AD.Am.Au (i:=1) rfl).free;have q3:=aM (AD.Am.Au (i:=0) rfl);have q4:=(AD.Am.Au (i:=0) rfl).free;have KT:=hid AD;clear AD zm hc KN Jq hBf));go_ret;have t1:=KT.Am.set (i:=1) rfl 4 (.slice (some ⟨g6,0,none⟩) (R.AA.length+1) AZ);have t2:=t1.Am.set (i:=0) rfl 1 (i5 R.AA.length);have t3:=KT.trans (t1.trans t2);refine⟨rfl,⟨rb,pb,⟨sp,sc⟩,f,z,⟨some ⟨g6,0,none⟩,AZ⟩,o,t,u,q,cv,dv⟩,rfl,⟨HL.cl,HL.dl,HL.ql,HL.tl,HL.fl,HL.zl,?_⟩,?_⟩;rotate_left
    ·have e:(R.AA++[s]).length=R.AA.length+1:=EQ
     unfold RG.Ar;rw[e];exact t3
    have:=HL.ll;have:=C3.out;simp only[V,d5] at*;omega
def AeN (res:RS×Nd×Bool) (g:RG) (R:RS) (xb:Nat) (x:Nd) (w:World) (e:Ending) (w':World):Prop:=
 e= .returned (.bool res.2.2)/\∃g',g'.rb=g.rb/\Dq g' res.1/\Ak w (DS xb x::g.Ar R) w' (DS xb res.2.1::g'.Ar res.1)
theorem ZJ (l:List Bool) (k:Nat) (b:Bool):(FK l).set k (.bool b)=FK (l.set k b):=by simp[FK,Qc6]
theorem L8 {α β:Type} {xs:List α} {ys:List β} (h:xs.length=ys.length) (hy:ys≠[]):∃p a q b,xs=p++[a]/\ys=q++[b]/\p.length=q.length:=by
 rcases f5 ys with h0 | ⟨q,b,h0⟩
 ·exact UV h0 hy
 ·rcases f5 xs with h1 | ⟨p,a,h1⟩
  ·rw[h0,h1] at h;simp at h
  ·rw[m8] at h0 h1;exact⟨p,a,q,b,h1,h0,by rw[h0,h1] at h;simpa using h⟩
theorem kG {l:List Int} (h:∀(i:Nat) (hi:i < (Es l).length),w.cell? ⟨b,i,none⟩=some (Es l)[i]) (k:Nat) (hk:k < l.length):w.cell? ⟨b,k,none⟩=some (i5 (l.getD k 0)):=by
 rw[h k (by simpa[Es] using hk)];simp[Es,GE,hk]
theorem HY (h:Az w L) {i j:Nat} {b c:Nat} {o:Obj} {e:TypeId} {s n m cap:Nat} {xs:List Value} (hi:L[i]?=some (.SH b o)) (hj:L[j]?=some (.row (.slice (some ⟨c,0,none⟩) m cap) e s n xs)) (oH:i≠j):b≠c:=by
 have:=h.Abr hi hj oH;rintro rfl;exact this rfl
def RG.aG (g:RG) (R:RS) (ds:List SG) (us:List (List Bool)):List Ob:=
 [.Au g.rb #[i6 g.pb,.slice g.s.p R.As.length g.s.c,.slice g.f.p R.first.length g.f.c,.slice g.z.p R.size.length g.z.c,.slice g.l.p R.AA.length g.l.c,.slice g.o.p R.Af.length g.o.c,i5 R.Ah,.bool false,i5 0] 94,
  .Au g.pb #[.slice g.t.p R.p.Aa.length g.t.c,i5 R.p.cells,.slice g.u.p R.p.Ao.length g.u.c,.slice g.q.p R.p.BJ.length g.q.c] 53,
  Kw g.s R.As,Oo g.f R.first,Oo g.z R.size,Kw g.l R.AA,Qw g.o R.Af,
  .row (.slice g.t.p R.p.Aa.length g.t.c) 72 1 R.p.Aa.length (BC g.cv R.p.Aa),
  .row (.slice g.u.p R.p.Ao.length g.u.c) 51 1 R.p.Ao.length (BC g.dv R.p.Ao),
  Cd g.q R.p.BJ]++(List.zipWith DQ g.cv R.p.Aa++List.zipWith Cd ds us)
theorem sy (hd:g.dv=ds++[d]) (hu:R.p.Ao=us++[u]) (hl:ds.length=us.length):g.Ar R=g.aG R ds us++[Cd d u]:=by
 unfold RG.Ar RG.aG;rw[hd,hu,Qb4 hl];simp
theorem l9 (hd:g.dv=ds++[d]) (hu:R.p.Ao=us++[u]) (hl:ds.length=us.length) (c:Nat):
  g.Ar (R.EY c)=g.aG R ds us++[Cd d (u.set c true)]:=by
 have e:(R.EY c).p.Ao=us++[u.set c true]:=by unfold RS.EY;simp[hu]
 rw[sy (R:=R.EY c) hd e hl];congr 1;unfold RG.aG;rw[e,hd,hu,Bx _ _ _ _ hl,Bx _ _ _ _ hl];simp only[V,d5,Qaa];rfl
theorem OZ (h:Dq g R) (hu:R.p.Ao≠[]) (c:Int):Dq g (R.EY c):=by
 rcases f5 R.p.Ao with h0 | ⟨q,b,h0⟩
 ·exact UV h0 hu
 ·rw[m8] at h0;have e:(R.EY c).p.Ao.length=R.p.Ao.length:=by unfold RS.EY;simp[h0]
  exact⟨h.cl,h.dl.trans e.symm,h.ql,e.trans h.tl,h.fl,h.zl,h.ll⟩
theorem gh {db dc c:Nat} (o:Az w (a::g.Ar R)) (hd:g.dv=ds++[d]) (hu:R.p.Ao=us++[u]) (hl:ds.length=us.length)
  (bB:Value.slice d.p u.length d.c= .slice (some ⟨db,0,none⟩) u.length dc) (hc:c < u.length):Ak w (a::g.Ar R) (w.setCell ⟨db,c,none⟩ (.bool true)) (a::g.Ar (R.EY c)):=by
 have e:∀v:List Bool,v.length=u.length->Cd d v= .row (.slice (some ⟨db,0,none⟩) u.length dc) 4 1 u.length (FK v):=fun v hv=>by
  unfold Cd;rw[hv,bB]
 rw[l9 hd hu hl c];rw[sy hd hu hl] at o⊢;rw[e _ rfl] at o⊢;rw[e _ EQ,<-ZJ];exact Az.mB (A:=a::g.aG R ds us) (B:=[]) o c (by simpa[FK] using hc) _
theorem YM (s:ByteArray) (l:Ws) (lw:Value) (w:World) (g:RG) (R:RS) (xb:Nat) (x:Nd) (n:Nat) (h:Az w (DS xb x::g.Ar R)) (hL:Dq g R) (hI:Mo R n) (hT:R.p.Aa≠[])
  (hw:Sl w (fun b=>b∉D4 (DS xb x::g.Ar R)) lw (A3 l)) (hs:∀a,a∈l->a.size<=maxLen):
  Calls prog 89 #[i6 g.rb,i6 xb,.string s,lw] w (AeN (R.cell x s l) g R xb x w):=by
 have cu:=fun w' (k:Av [] w w')=>Gm R.As s (.slice g.s.p R.As.length g.s.c) w' _ ((Sl.M3 (h.row (i:=3) rfl)).Bf k EQ)
 have Q1:=Of R.As s;have C6:=AI (Ak.Cn h);have KY:=Cs h;have uv:A6 R.As s < 0->R.cell x s l=(R,x,false):=fun h=>by unfold RS.cell;simp[h]
 have uu:∀k:Nat,A6 R.As s=k->R.cell x s l=(let x:={x with first:=R.first.getD k 0,size:=R.size.getD k 0}
     let r:=R.EY x.first
     if l.length=5 then
       let (a,ok):=r.CO (wd l 4)
       (r,{x with AW:=a},ok)
     else (r,x,true)):=fun k h=>by unfold RS.cell;simp only[h,show¬((k:Int) < 0) by omega,y4,Qbq]
 generalize Iu:A6 R.As s=k1 at*;have Hp1:=hid cu;clear cu Iu;by_cases c1:k1 < 0
 ·rw[uv c1];clear Q1 hw uv uu;have hc:=C6.c;have AX:=C6.lt;have H:=hid h;have HL:=hid hL;clear h hL hI hT KY C6;go_enter func89,ntmps89;go_wp2_with fail;refine(Hp1 _ (Av.refl _ _)).mono ?_;rintro e w' ⟨rfl,rfl⟩;go_wp2;go_ret;exact⟨rfl,_,rfl,HL,Ak.refl H⟩
 ·obtain⟨k,rfl⟩:∃k:Nat,k1=k:=⟨k1.toNat,Y⟩;have Jc:k < R.As.length:=by rcases Q1 with h | ⟨_,h⟩ <;>omega
  clear Q1;have hkf:k < R.first.length:=by rw[hL.fl];exact Jc
  have hkz:k < R.size.length:=by rw[hL.zl];exact Jc
  have AaH:=h.row (i:=4) rfl;have AaG:=h.row (i:=5) rfl;obtain⟨fb,fc,hfe,_,zj,AgX,AgW,uT,Ab9⟩:=AG AaH Y;obtain⟨zb,zc,hze,_,hzl,Agr,Agq,ud,AbF⟩:=AG AaG Y;have hF:=kG uT k hkf;have hZ:=kG ud k hkz;have AF:=uu k rfl;clear uv uu;have Ag1:=hI.fi (R.first.getD k 0) (by rw[GE,Id hkf];exact Qab hkf);have hr4:(DS xb x::g.Ar R)[4]?=some (.row (.slice (some ⟨fb,0,none⟩) R.first.length fc) 3 1 R.first.length (Es R.first)):=by rw[<-hfe];rfl
  have hr5:(DS xb x::g.Ar R)[5]?=some (.row (.slice (some ⟨zb,0,none⟩) R.size.length zc) 3 1 R.size.length (Es R.size)):=by rw[<-hze];rfl
  have nxf:=HY h (i:=0) (j:=4) rfl hr4 AC;have nxz:=HY h (i:=0) (j:=5) rfl hr5 AC;generalize R.first.getD k 0=c at*
  generalize R.size.getD k 0=z at*;obtain⟨c,rfl⟩:∃m:Nat,c=m:=⟨c.toNat,Y⟩;have AJ:=hid AF;clear AF;have hu:R.p.Ao≠[]:=fun h0=>hT (RK (by rw[<-hL.tl,h0];rfl))
  obtain⟨ds,d,us,u,UF,hus,zo⟩:=L8 hL.dl hu;have AaD:=h.row (i:=9) rfl;obtain⟨ub,uc,hue,_,hul,Agv,Agu,ug,AbJ⟩:=AG AaD (by rw[hus];simp);have hD:w.cell? ⟨ub,us.length,none⟩=some (.slice d.p u.length d.c):=by
   rw[ug us.length (by rw[UF,hus,Bx _ _ _ _ zo,V,Cm _ _ zo];simp)];simp only[UF,hus,Bx _ _ _ _ zo];rw[Qcf (by rw[Cm _ _ zo];omega)];simp
  have Agn:(u.length:Int)=R.p.cells:=hI.tc u (by rw[hus];simp);have hcu:c < u.length:=Y
  have bq:(DS xb x::g.Ar R)[9]?=some (.row (.slice (some ⟨ub,0,none⟩) R.p.Ao.length uc) 51 1 R.p.Ao.length (BC g.dv R.p.Ao)):=by rw[<-hue];rfl
  have nxu:=HY h (i:=0) (j:=9) rfl bq AC;have UD:=sy UF hus zo;have FJ:(DS xb x::g.Ar R)[(DS xb x::g.aG R ds us).length]?=some (Cd d u):=by rw[UD];simp
  have AaC:=h.row FJ;obtain⟨db,dc,bB,_,AfG,AgZ,AgY,uW,Acb⟩:=AG AaC Y;have hdb:w.cell? ⟨db,c,none⟩=some (.bool (u.getD c false)):=by
   rw[uW c (by simpa[FK] using hcu)];simp[FK,GE,hcu]
  have bw:(DS xb x::g.Ar R)[(DS xb x::g.aG R ds us).length]?=some (.row (.slice (some ⟨db,0,none⟩) u.length dc) 4 1 u.length (FK u)):=by rw[FJ];unfold Cd;rw[bB]
  have nxd:xb≠db:=HY h (i:=0) rfl bw (by unfold RG.aG;simp only[IR,V];omega);have nrd:g.rb≠db:=HY h (i:=1) rfl bw (by unfold RG.aG;simp only[IR,V];omega);have ntl:R.p.Ao.length=us.length+1:=by rw[hus];simp
  rw[hL.tl] at ntl;have hun:us.length<=2500:=by have:=hI.bn;have:=hI.nn;omega
  obtain⟨hc,Ve,_,_,AX,Cq,n12⟩:=C6;obtain⟨Jq,KN,Fa,n1,n2⟩:=KY;rw[hfe,hze] at hc;rw[hue,hL.tl,ntl] at Ve;rw[bB] at hD;have Ag4:=hid UD;have H:=hid h;have HL:=hid hL;have HI:=hid hI;have HT:=hid hT;have Hw:=hid hw;have Af7:=hid bw;have Hdd:=hid bB;have Hde:=hid UF;have Hus:=hid hus;have Hdl:=hid zo;clear UD h hL hI hT hw bw FJ bB UF hus zo bq hr5 hr4 AaH AaG AaD AaC uT ud ug uW hfe hze hue hu Ab9 AbF AbJ;go_enter func89,ntmps89;go_wp2_with fail;refine(Hp1 _ (Av.refl _ _)).mono ?_;rintro e w' ⟨rfl,rfl⟩;go_upto_region 7 with fail
  have hcq:(0:Int)<=(c:Int):=Qa2 _;have hu1:(us.length:Int) < ((us.length:Int)+1):=Y
  have Ag0:(c:Int) < (u.length:Int):=Y
  refine Ap (l:=[(0,true),(1,true),(2,true),(3,true),(4,true),(5,true),(6,true),(7,true),(8,true),(9,true),(10,true),(11,true),(12,true),(13,true),(14,true),(15,false)]) (fun W=>W.cell? ⟨g.rb,0,none⟩=some (i6 g.pb)/\W.cell? ⟨g.pb,2,none⟩=some (.slice (some ⟨ub,0,none⟩) (us.length+1) uc)/\
    W.cell? ⟨ub,us.length,none⟩=some (.slice (some ⟨db,0,none⟩) u.length dc)/\W.cell? ⟨xb,9,none⟩=some (i5 c)) 15 ?_ ?_
  ·exact⟨by go_simp,by go_simp,by go_simp,by go_simp⟩
  refine detE ?_;intro K hK;refine hK _ _ (fun h=>UV rfl h) ?_;simp only[BB];have t1:=H.set (i:=0) rfl 9 (i5 c);have t2:=t1.Am.set (i:=0) rfl 10 (i5 z);have t3:Ak w' (DS xb x::g.Ar R) _ (DS xb {x with first:=c,size:=z}::g.Ar (R.EY c)):=t1.trans (t2.trans (gh (a:=DS xb {x with first:=c,size:=z}) t2.Am Hde Hus Hdl Hdd hcu));have t4:=t3.trans (Ak.drew t3.Am);clear t1 t2 t3;have Pz:=Hw.Bf t4.Bf (fun b hb=>hb);clear hc Ve Jq KN AX Cq n12 n1 n2 hZ hF hD hdb Acb hul AfG zj hzl Fa Hp1 Hw H;generalize (((w'.setCell {block:=xb,off:=9} (Value.int IntKind.i64 ↑c)).setCell {block:=xb,off:=10} (Value.int IntKind.i64 z)).setCell {block:=db,off:=c} (Value.bool true)).drew=w1 at t4 Pz⊢;obtain⟨hc,_,_,_,AX,_,_⟩:=AI (Ak.Cn t4.Am);obtain⟨Jq,KN,Fa,n1,_⟩:=Cs t4.Am;have T4:=hid t4;clear t4;obtain⟨hwm,⟨rfl,hwn⟩ | ⟨wb,woff,wcap,rfl,w1_,w2_,w3_,w4_,w5_⟩⟩:=Pz
  ·have Mu:l.length=0:=by rw[<-CK,hwn];rfl
   have AF:R.cell x s l=(R.EY c,{x with first:=c,size:=z},true):=by rw[AJ.out];simp[Mu]
   have Hr:=hid AF;have uL:((0:Int)==5)=false:=rfl;clear AJ AF hwn Mu;go_wp2;go_ret;rw[Hr.out];exact⟨rfl,g,rfl,OZ HL (by rw[Hus.out];simp) c,T4⟩
  ·rw[CK] at hwm w1_⊢;unfold maxLen at hwm w2_;by_cases hl:l.length=5
   ·have uL:((l.length:Int)==5)=true:=by rw[hl];rfl
    have XA:=Sl.Lv w5_ 4 Y;have AF:R.cell x s l=((R.EY c),{x with first:=c,size:=z,AW:=((R.EY c).CO (wd l 4)).1},((R.EY c).CO (wd l 4)).2):=by rw[AJ.out];simp[hl]
    have Hr:=hid AF;have hl4:(4:Int) < (l.length:Int):=Y
    clear AJ AF w5_ hl;go_wp2_with fail;refine(I7 (wd l 4) _ g (R.EY c) ⟨Ak.Cn T4.Am,OZ HL (by rw[Hus.out];simp) c⟩ (Iy hs 4)).mono ?_;rintro e w2 ⟨rfl,C4⟩;have yX:=Hr.out;clear Hr;generalize (R.EY c).CO (wd l 4)=av at yX⊢;obtain⟨⟨al,ai⟩,ab⟩:=av;have Hr:=hid yX;clear yX;have t5:=T4.trans (Ak.quiet T4.Am C4);clear hc Jq KN AX Fa n1 T4 C4 XA w4_;obtain⟨hc,_,_,_,AX,_,_⟩:=AI (Ak.Cn t5.Am);obtain⟨Jq,KN,Fa,n1,_⟩:=Cs t5.Am;have T5:=hid t5;clear t5;simp only[At.val];go_wp2;go_ret;have t7:=T5.Am.set (i:=0) rfl 7 (.bool al);have t8:=t7.Am.set (i:=0) rfl 8 (i5 ai);have t9:=Ak.alloc t8.Am (.cells #[.bool al,i5 ai] 108);rw[Hr.out];exact⟨rfl,g,rfl,OZ HL (by rw[Hus.out];simp) c,T5.trans (t7.trans (t8.trans t9))⟩
   ·have uL:((l.length:Int)==5)=false:=by rw[NE];omega
    have AF:R.cell x s l=(R.EY c,{x with first:=c,size:=z},true):=by rw[AJ.out];simp[hl]
    have Hr:=hid AF;clear AJ AF hl w5_;go_wp2;go_ret;rw[Hr.out];exact⟨rfl,g,rfl,OZ HL (by rw[Hus.out];simp) c,T4⟩
def OW (res:Except Int (RS×Nd)) (g:RG) (R:RS) (w:World) (e:Ending) (w':World):Prop:=
 match res with
 | .error c=>∃x:Nd,e= .returned (.tuple #[x.val,i5 c])/\Av (D4 (g.Ar R)) w w'
 | .ok (R',x')=>e= .returned (.tuple #[x'.val,i5 0])/\∃g',g'.rb=g.rb/\Dq g' R'/\Ak w (g.Ar R) w' (g'.Ar R')
def pZ:Array Value:= #[.int .u8 0,i5 0,.string ⟨#[]⟩,.bool false,i5 0,.bool false,i5 0,.bool false,i5 0,i5 0,i5 0,i5 0,i5 0,i5 0]
theorem BQ {Q:Ending->World->Prop} {tmps:Array Value} {W:World} {c:Int} (h4:tmps[4]?=some (i6 yb)) (h5:tmps[5]?=some (i5 c)) (hb:BM W yb x.cells.toArray 110)
  (hq:Q (.returned (.tuple #[x.val,i5 c])) W):bodyPost prog f61 Q Exit.ret ⟨tmps,[]⟩ W:=by
 have k:=aM hb;refine bodyPost_ret (v:= .tuple #[x.val,i5 c]) ?_ rfl hq;simp[results,results61,go_sem,h4,h5,k];rfl
theorem BM.Ei {a0 a1 a2 a3 a4 a5 a6 a7 a8 a9 a10 a11 a12 a13:Value} (h:BM w b #[a0,a1,a2,a3,a4,a5,a6,a7,a8,a9,a10,a11,a12,a13] T) (v0 v1 v2 v3 v4 v5 v6 v7 v8 v9 v10 v11 v12 v13:Value):
  BM ((((((((((((((w.setCell ⟨b,0,none⟩ v0).setCell ⟨b,1,none⟩ v1).setCell ⟨b,2,none⟩ v2).setCell ⟨b,3,none⟩ v3).setCell ⟨b,4,none⟩ v4).setCell ⟨b,5,none⟩ v5).setCell ⟨b,6,none⟩ v6).setCell ⟨b,7,none⟩ v7).setCell ⟨b,8,none⟩ v8).setCell ⟨b,9,none⟩ v9).setCell ⟨b,10,none⟩ v10).setCell ⟨b,11,none⟩ v11).setCell ⟨b,12,none⟩ v12).setCell ⟨b,13,none⟩ v13) b #[v0,v1,v2,v3,v4,v5,v6,v7,v8,v9,v10,v11,v12,v13] T:=by
 have h0:=h.set 0 v0;simp only[FQ] at h0;have h1:=h0.set 1 v1;simp only[FQ] at h1;have h2:=h1.set 2 v2;simp only[FQ] at h2;have h3:=h2.set 3 v3;simp only[FQ] at h3;have h4:=h3.set 4 v4;simp only[FQ] at h4;have h5:=h4.set 5 v5;simp only[FQ] at h5;have h6:=h5.set 6 v6;simp only[FQ] at h6;have h7:=h6.set 7 v7;simp only[FQ] at h7;have h8:=h7.set 8 v8;simp only[FQ] at h8;have h9:=h8.set 9 v9;simp only[FQ] at h9;have h10:=h9.set 10 v10;simp only[FQ] at h10;have h11:=h10.set 11 v11;simp only[FQ] at h11;have h12:=h11.set 12 v12;simp only[FQ] at h12;have h13:=h12.set 13 v13;simp only[FQ] at h13;exact h13
theorem Av.Ei (v0 v1 v2 v3 v4 v5 v6 v7 v8 v9 v10 v11 v12 v13:Value):Av [b] w ((((((((((((((w.setCell ⟨b,0,none⟩ v0).setCell ⟨b,1,none⟩ v1).setCell ⟨b,2,none⟩ v2).setCell ⟨b,3,none⟩ v3).setCell ⟨b,4,none⟩ v4).setCell ⟨b,5,none⟩ v5).setCell ⟨b,6,none⟩ v6).setCell ⟨b,7,none⟩ v7).setCell ⟨b,8,none⟩ v8).setCell ⟨b,9,none⟩ v9).setCell ⟨b,10,none⟩ v10).setCell ⟨b,11,none⟩ v11).setCell ⟨b,12,none⟩ v12).setCell ⟨b,13,none⟩ v13):=
 ((((((((((((((Av.refl [b] w).setCell (p:=⟨b,0,none⟩) (.inl (Z.2 rfl)) v0).setCell (p:=⟨b,1,none⟩) (.inl (Z.2 rfl)) v1).setCell (p:=⟨b,2,none⟩) (.inl (Z.2 rfl)) v2).setCell (p:=⟨b,3,none⟩) (.inl (Z.2 rfl)) v3).setCell (p:=⟨b,4,none⟩) (.inl (Z.2 rfl)) v4).setCell (p:=⟨b,5,none⟩) (.inl (Z.2 rfl)) v5).setCell (p:=⟨b,6,none⟩) (.inl (Z.2 rfl)) v6).setCell (p:=⟨b,7,none⟩) (.inl (Z.2 rfl)) v7).setCell (p:=⟨b,8,none⟩) (.inl (Z.2 rfl)) v8).setCell (p:=⟨b,9,none⟩) (.inl (Z.2 rfl)) v9).setCell (p:=⟨b,10,none⟩) (.inl (Z.2 rfl)) v10).setCell (p:=⟨b,11,none⟩) (.inl (Z.2 rfl)) v11).setCell (p:=⟨b,12,none⟩) (.inl (Z.2 rfl)) v12).setCell (p:=⟨b,13,none⟩) (.inl (Z.2 rfl)) v13
theorem ZD (R:RS) (x:Nd) (s:ByteArray) (l:Ws):(R.cell x s l).2.1.kind=x.kind:=by
 unfold RS.cell;simp only[];split
 ·rfl
 ·split <;>rfl
theorem pq (R:RS) (x:Nd) (s:ByteArray) (l:Ws):(R.cell x s l).1.p.BJ=R.p.BJ:=by
 unfold RS.cell;simp only[];split
 ·rfl
 ·split <;>rfl
theorem Qp (h:Dq g R) (hp:R.p.BJ≠[]):Dq g R.DG:=by
 have e:R.DG.p.BJ.length=R.p.BJ.length:=by
  unfold RS.DG;have:=Qae.2 hp;simp;omega
 exact⟨h.cl,h.dl,e.trans h.ql,h.tl,h.fl,h.zl,h.ll⟩
theorem SI {qb qc m:Nat} (o:Az w ((a::g.Ar R)++E)) (hq:Value.slice g.q.p R.p.BJ.length g.q.c= .slice (some ⟨qb,0,none⟩) (m+1) qc) (hm:R.p.BJ.length=m+1):
  Ak w ((a::g.Ar R)++E) (w.setCell ⟨qb,m,none⟩ (.bool true)) ((a::g.Ar R.DG)++E):=by
 have hr:((a::g.Ar R)++E)[10]?=some (.row (.slice (some ⟨qb,0,none⟩) (m+1) qc) 4 1 (m+1) (FK R.p.BJ)):=by
  show some (Cd g.q R.p.BJ)=_;unfold Cd;rw[hq,hm]
 have k:=o.HU hr m (by simp[FK,hm]) (.bool true);have e:R.DG.p.BJ=R.p.BJ.set m true:=by
  unfold RS.DG;rcases f5 R.p.BJ with h0 | ⟨q,b,h0⟩
  ·rw[h0] at hm;simp at hm
  ·rw[m8] at h0;rw[h0] at hm⊢;simp only[V,d5,Nat.add_right_cancel_iff] at hm;subst hm;simp
 have e2:((a::g.Ar R)++E).set 10 (.row (.slice (some ⟨qb,0,none⟩) (m+1) qc) 4 1 (m+1) ((FK R.p.BJ).set m (.bool true)))=(a::g.Ar R.DG)++E:=by
  rw[ZJ,<-e];have e3:Ob.row (.slice (some ⟨qb,0,none⟩) (m+1) qc) 4 1 (m+1) (FK R.DG.p.BJ)=Cd g.q R.DG.p.BJ:=by
   unfold Cd;rw[e,Qaa,hq,hm]
  rw[e3];have e4:R.DG.p.BJ.length=R.p.BJ.length:=by rw[e,Qaa]
  unfold RG.Ar;rw[e4];rfl
 rw[e2] at k;exact k
theorem Bq {b:Ob}:((a::L)++[b])[L.length+1]?=some b:=EQ
theorem I8 (h:Az w L) (A B:Array Value) (T:TypeId):Ak w L ((w.alloc (.cells A T)).alloc (.cells B T)) ((.Au (w.heap.size+1) B T::L)++[.Au w.heap.size A T]):=by
 have s1:=Ak.new h (.cells A T);have s2:=Ak.Ry s1.Am (.cells B T);have e:(w.alloc (.cells A T)).heap.size=w.heap.size+1:=by show(w.heap.push _).size=_;simp
 rw[e] at s2;exact s1.trans s2
theorem sH {b:Ob} (k:Ak w L w' ((a::M)++[b])):Ak w L w' M:=by
 have s1:Ak w' ((a::M)++[b]) w' (a::M):=Ak.AN k.Am;have s2:Ak w' (a::M) w' M:=Ak.drop (A:=[]) (B:=[a]) (C:=M) s1.Am;exact k.trans (s1.trans s2)
theorem Mn (h:Az w ((a::g.Ar R)++L)) (hL:Dq g R):AaT w g R:=
 ⟨(Ak.drop (A:=[]) (B:=[a]) (C:=g.Ar R) (Ak.AN h).Am).Am,hL⟩
structure lP (w:World) (l:Ws) (wb woff wcap:Nat) (g:RG) (R:RS):Prop where
 n0:l.length<=wcap
 n1:wcap<=maxLen
 no:wb∉D4 (g.Ar R)
 lt:wb < w.heap.size
 c:∀i,(h:i < l.length)->w.cell? ⟨wb,woff+i,none⟩=some (.string (wd l i))
theorem Fz {lw:Value} (hw:Sl w (fun b=>b∉D4 (g.Ar R)) lw (A3 l)) (hl:0 < l.length):∃wb woff wcap,lw= .slice (some ⟨wb,woff,none⟩) l.length wcap/\lP w l wb woff wcap g R:=by
 obtain⟨hwm,⟨rfl,hwn⟩ | ⟨wb,woff,wcap,rfl,w1_,w2_,w3_,w4_,w5_⟩⟩:=hw
 ·exact UV (show l.length=0 by rw[<-CK,hwn];rfl) Y
 ·rw[CK] at w1_⊢;exact⟨wb,woff,wcap,rfl,w1_,w2_,w3_,w4_,fun i hi=>Sl.Lv w5_ i hi⟩
theorem lP.Bf {wb woff wcap:Nat} (h:lP w l wb woff wcap g R) (k:Av (D4 (g.Ar R)) w w'):lP w' l wb woff wcap g R:=
 ⟨h.n0,h.n1,h.no,Qaq h.lt k.size,fun i hi=>by rw[<-h.c i hi];exact Qdf (k.block wb h.lt h.no)⟩
theorem Sl.step {L':List Ob} (h:Sl w (fun b=>b∉D4 L) v xs) (k:Ak w L w' L'):Sl w' (fun b=>b∉D4 L') v xs:=
 (h.mono (ok':=fun b=>b∉D4 L/\b∉D4 L') fun b hb hn=>⟨hn,fun h'=>by
   rcases k.fp b h' with h1 | h1
   · exact hn h1
   · omega⟩).Bf k.Bf (fun b hb=>hb.1) |>.mono fun b _ hb=>hb.2
theorem Sl.sub (h:Sl w (fun b=>b∉D4 L) v xs) (hs:∀b,b∈D4 M->b∈D4 L):Sl w (fun b=>b∉D4 M) v xs:=
 h.mono fun b _ hn hm=>hn (hs b hm)
theorem AO {b:Ob} (h:Az w (L++[b])):Az w L:=(Ak.AN h).Am
theorem cJ:∀b,b∈D4 L->b∈D4 (L++E):=fun b hb=>by rw[A4];exact D _ hb
theorem O5 {o:Obj} (k:Ak w L w' ((a::M)++[.SH yb o])) (hy:w.heap.size<=yb) (m:Av [yb] w' w''):Ak w L w'' M:=by
 have hn:=k.Am.KE;rw[A4,Gd] at hn;have s:=sH k;refine⟨s.Am.Bf m fun b hb zv=> ?_,k.Bf.trans m fun x hx=> .inr (by rw[Z] at hx;omega),s.fp⟩;rw[Z] at zv;subst zv;exact(i9.1 hn).2.2 b (GT _ hb) b (by simp[D4,Ob.fp]) rfl
theorem Ka (k:Av (D4 L) w w') (hy:w.heap.size<=yb) (m:Av [yb] w' w''):Av (D4 L) w w'':=
 k.trans m fun x hx=> .inr (by rw[Z] at hx;omega)
theorem ar (l:Ws) (lw:Value) (w:World) (g:RG) (R:RS) (h:Az w (g.Ar R)) (hL:Dq g R)
  (hw:Sl w (fun b=>b∉D4 (g.Ar R)) lw (A3 l)) (hs:∀a,a∈l->a.size<=maxLen) (hk:bs (wd l 0)=AH) (hl:0 < l.length):
  Calls prog 61 #[i6 g.rb,lw] w (OW (R.node l) g R w):=by
 obtain⟨wb,woff,wcap,rfl,hd⟩:=Fz hw Y;have c0:=hd.c 0 Y;simp only[Qaj] at c0;have AF:R.node l=R.node l:=rfl
 conv at AF=>rhs;unfold RS.node
 simp only[hk,KI,Qau,y4] at AF;have q1:=An (x:=wd l 0) (k:=CY) (by rw[hk];decide);unfold CY at q1;have q2:=An (x:=wd l 0) (k:=CF) (by rw[hk];decide);unfold CF at q2;have q3:=An (x:=wd l 0) (k:=CZ) (by rw[hk];decide);unfold CZ at q3;have q4:=An (x:=wd l 0) (k:=DI) (by rw[hk];decide);unfold DI at q4;have q5:=An (x:=wd l 0) (k:=Kb) (by rw[hk];decide);unfold Kb at q5;have q6:=An (x:=wd l 0) (k:=Dp) (by rw[hk];decide);unfold Dp at q6;have q0:=BO hk;unfold AH at q0;obtain⟨Cu,A8,C6,Bv,AX,Cq,Bi⟩:=AI h;have Gu:=hd.n0;have K8:=hd.n1;have Fb:=hd.lt;unfold maxLen at K8;have Mu:(0:Int) < (l.length:Int):=Y
 have H:=hid h;have HL:=hid hL;have AJ:=hid AF;clear h hL hw hk hs hd Cu A8 C6 Bv Bi AF;go_enter func61,ntmps61;go_wp2_with fail;refine bodyPost_ret (v:= .tuple #[(Nd.of 40).val,i5 0]) (by simp[results,results61,go_sem];rfl) rfl ?_;rw[AJ.out];exact⟨rfl,g,rfl,HL,Ak.quiet H (((Av.refl _ _).alloc _).alloc _)⟩
theorem gM (l:Ws) (lw:Value) (w:World) (g:RG) (R:RS) (h:Az w (g.Ar R)) (hL:Dq g R)
  (hw:Sl w (fun b=>b∉D4 (g.Ar R)) lw (A3 l)) (hs:∀a,a∈l->a.size<=maxLen) (hk:bs (wd l 0)=Dp) (hl:1 < l.length):
  Calls prog 61 #[i6 g.rb,lw] w (OW (R.node l) g R w):=by
 obtain⟨wb,woff,wcap,rfl,hd⟩:=Fz hw Y;have c0:=hd.c 0 Y;simp only[Qaj] at c0;have AF:R.node l=R.node l:=rfl
 conv at AF=>rhs;unfold RS.node
 simp only[hk,KI,Qau,y4] at AF;have q1:=An (x:=wd l 0) (k:=CY) (by rw[hk];decide);unfold CY at q1;have q2:=An (x:=wd l 0) (k:=CF) (by rw[hk];decide);unfold CF at q2;have q3:=An (x:=wd l 0) (k:=CZ) (by rw[hk];decide);unfold CZ at q3;have q4:=An (x:=wd l 0) (k:=DI) (by rw[hk];decide);unfold DI at q4;have q5:=An (x:=wd l 0) (k:=Kb) (by rw[hk];decide);unfold Kb at q5;have q0:=BO hk;unfold Dp at q0;obtain⟨Cu,A8,C6,Bv,AX,Cq,Bi⟩:=AI h;have Gu:=hd.n0;have K8:=hd.n1;have Fb:=hd.lt;unfold maxLen at K8;have c1:=hd.c 1 hl;have Mu:(0:Int) < (l.length:Int):=Y
 have KL:(1:Int) < (l.length:Int):=Y
 have oB:=fun w=>aJ (wd l 1) w (Iy hs 1)
 generalize (number (bs (wd l 1))).getD 0=nv at*;generalize (number (bs (wd l 1))).isSome=nb at*;have AcH:=hid oB;have H:=hid h;have HL:=hid hL;have AJ:=hid AF;clear h hL hw hk hs hd Cu A8 C6 Bv Bi oB AF;go_enter func61,ntmps61;go_wp2_with fail;refine(AcH _).mono ?_;rintro e w' ⟨rfl,rfl⟩;go_wp2;refine bodyPost_ret (v:= .tuple #[({Nd.of 108 with n:=nv}:Nd).val,i5 0]) (by simp[results,results61,go_sem];rfl) rfl ?_;rw[AJ.out];exact⟨rfl,g,rfl,HL,Ak.quiet H (((Av.refl _ _).alloc _).alloc _)⟩
theorem mH (l:Ws) (lw:Value) (w:World) (g:RG) (R:RS) (h:Az w (g.Ar R)) (hL:Dq g R)
  (hw:Sl w (fun b=>b∉D4 (g.Ar R)) lw (A3 l)) (hs:∀a,a∈l->a.size<=maxLen) (hk:bs (wd l 0)=DI) (hl:1 < l.length):
  Calls prog 61 #[i6 g.rb,lw] w (OW (R.node l) g R w):=by
 obtain⟨wb,woff,wcap,rfl,hd⟩:=Fz hw Y;have c0:=hd.c 0 Y;simp only[Qaj] at c0;have AF:R.node l=R.node l:=rfl
 conv at AF=>rhs;unfold RS.node
 simp only[hk,KI,Qau,y4] at AF;have q1:=An (x:=wd l 0) (k:=CY) (by rw[hk];decide);unfold CY at q1;have q2:=An (x:=wd l 0) (k:=CF) (by rw[hk];decide);unfold CF at q2;have q3:=An (x:=wd l 0) (k:=CZ) (by rw[hk];decide);unfold CZ at q3;have q4:=An (x:=wd l 0) (k:=Kb) (by rw[hk];decide);unfold Kb at q4;have q0:=BO hk;unfold DI at q0;obtain⟨Cu,A8,C6,Bv,AX,Cq,Bi⟩:=AI h;have Gu:=hd.n0;have K8:=hd.n1;have Fb:=hd.lt;unfold maxLen at K8;have c1:=hd.c 1 hl;have Mu:(0:Int) < (l.length:Int):=Y
 have KL:(1:Int) < (l.length:Int):=Y
 have FA:=fun w hr=>I7 (wd l 1) w g R hr (Iy hs 1)
 generalize R.CO (wd l 1)=av at*;obtain⟨⟨al,ai⟩,ab⟩:=av;have lR:=hid FA;have H:=hid h;have HL:=hid hL;have AJ:=hid AF;clear h hL hw hk hs hd Cu A8 C6 Bv Bi FA AF;go_enter func61,ntmps61;go_wp2_with fail;have s1:=I8 H pZ (pZ.set! 0 (.int .u8 111)) 110;refine(lR _ (Mn s1.Am HL)).mono ?_;rintro e w2 ⟨rfl,C4⟩;have s2:=s1.trans (Ak.quiet s1.Am C4);replace C4:=(((Av.refl [] w).alloc _).alloc _).trans C4 EQ;clear s1 c0 c1 AX Cq Fb lR;have k0:∀i:Nat,w2.cell? ⟨w.heap.size+1,i,none⟩=(#[.int .u8 111,i5 0,.string ⟨#[]⟩,.bool false,i5 0,.bool false,i5 0,.bool false,i5 0,i5 0,i5 0,i5 0,i5 0,i5 0]:Array Value)[i]?:=(s2.Am.Au (i:=0) rfl).cell;have k1:∀i:Nat,w2.cell? ⟨w.heap.size,i,none⟩=(#[.int .u8 0,i5 0,.string ⟨#[]⟩,.bool false,i5 0,.bool false,i5 0,.bool false,i5 0,i5 0,i5 0,i5 0,i5 0,i5 0]:Array Value)[i]?:=(s2.Am.Au (i:=(g.Ar R).length+1) Bq).cell;have f0:=(s2.Am.Au (i:=0) rfl).free;have f1:=(s2.Am.Au (i:=(g.Ar R).length+1) Bq).free;have l0:=(s2.Am.Au (i:=0) rfl).lt;have l1:=(s2.Am.Au (i:=(g.Ar R).length+1) Bq).lt;have hb:w.heap.size+1≠w.heap.size:=Y
 have qm:BM w2 w.heap.size #[.int .u8 0,i5 0,.string ⟨#[]⟩,.bool false,i5 0,.bool false,i5 0,.bool false,i5 0,i5 0,i5 0,i5 0,i5 0,i5 0] 110:=s2.Am.Au (i:=(g.Ar R).length+1) Bq;have B1:=hid qm;clear qm;have B2:=hid (s2.Am.Au (i:=(g.Ar R).length+1) Bq);have S2:=hid s2;clear s2;have Hm:=hid (show Av [] w w2 from C4);clear C4;simp only[At.val];cases ab
 ·go_wp2;refine BQ (x:={Nd.of 111 with a:=⟨al,ai⟩}) (c:=4) (yb:=w.heap.size) rfl rfl ?_ ?_
  ·exact maK
  rw[AJ.out];refine⟨_,rfl,Av.nil ?_⟩;refine Av.alloc ?_ _
  iterate 16 refine Av.setCell ?_ (.inr (by first | exact LE _ | exact Qan _)) _
  exact Hm.out
 ·go_wp2;refine BQ (x:={Nd.of 111 with a:=⟨al,ai⟩}) (c:=0) (yb:=w.heap.size) rfl rfl ?_ ?_
  ·exact maK
  rw[AJ.out];refine⟨rfl,g,rfl,HL,Ak.quiet H ?_⟩;refine Av.alloc ?_ _
  iterate 16 refine Av.setCell ?_ (.inr (by first | exact LE _ | exact Qan _)) _
  exact Hm.out
theorem rV (l:Ws) (lw:Value) (w:World) (g:RG) (R:RS) (h:Az w (g.Ar R)) (hL:Dq g R)
  (hw:Sl w (fun b=>b∉D4 (g.Ar R)) lw (A3 l)) (hs:∀a,a∈l->a.size<=maxLen) (hk:bs (wd l 0)=Kb) (hl:1 < l.length):
  Calls prog 61 #[i6 g.rb,lw] w (OW (R.node l) g R w):=by
 obtain⟨wb,woff,wcap,rfl,hd⟩:=Fz hw Y;have c0:=hd.c 0 Y;simp only[Qaj] at c0;have AF:R.node l=R.node l:=rfl
 conv at AF=>rhs;unfold RS.node
 simp only[hk,KI,Qau,y4] at AF;have q1:=An (x:=wd l 0) (k:=CY) (by rw[hk];decide);unfold CY at q1;have q2:=An (x:=wd l 0) (k:=CF) (by rw[hk];decide);unfold CF at q2;have q3:=An (x:=wd l 0) (k:=CZ) (by rw[hk];decide);unfold CZ at q3;have q4:=An (x:=wd l 0) (k:=DI) (by rw[hk];decide);unfold DI at q4;have q0:=BO hk;unfold Kb at q0;obtain⟨Cu,A8,C6,Bv,AX,Cq,Bi⟩:=AI h;have Gu:=hd.n0;have K8:=hd.n1;have Fb:=hd.lt;unfold maxLen at K8;have c1:=hd.c 1 hl;have Mu:(0:Int) < (l.length:Int):=Y
 have KL:(1:Int) < (l.length:Int):=Y
 have FA:=fun w hr=>I7 (wd l 1) w g R hr (Iy hs 1)
 generalize R.CO (wd l 1)=av at*;obtain⟨⟨al,ai⟩,ab⟩:=av;have lR:=hid FA;have H:=hid h;have HL:=hid hL;have AJ:=hid AF;clear h hL hw hk hs hd Cu A8 C6 Bv Bi FA AF;go_enter func61,ntmps61;go_wp2_with fail;have s1:=I8 H pZ (pZ.set! 0 (.int .u8 122)) 110;refine(lR _ (Mn s1.Am HL)).mono ?_;rintro e w2 ⟨rfl,C4⟩;have s2:=s1.trans (Ak.quiet s1.Am C4);replace C4:=(((Av.refl [] w).alloc _).alloc _).trans C4 EQ;clear s1 c0 c1 AX Cq Fb lR;have k0:∀i:Nat,w2.cell? ⟨w.heap.size+1,i,none⟩=(#[.int .u8 122,i5 0,.string ⟨#[]⟩,.bool false,i5 0,.bool false,i5 0,.bool false,i5 0,i5 0,i5 0,i5 0,i5 0,i5 0]:Array Value)[i]?:=(s2.Am.Au (i:=0) rfl).cell;have k1:∀i:Nat,w2.cell? ⟨w.heap.size,i,none⟩=(#[.int .u8 0,i5 0,.string ⟨#[]⟩,.bool false,i5 0,.bool false,i5 0,.bool false,i5 0,i5 0,i5 0,i5 0,i5 0,i5 0]:Array Value)[i]?:=(s2.Am.Au (i:=(g.Ar R).length+1) Bq).cell;have f0:=(s2.Am.Au (i:=0) rfl).free;have f1:=(s2.Am.Au (i:=(g.Ar R).length+1) Bq).free;have l0:=(s2.Am.Au (i:=0) rfl).lt;have l1:=(s2.Am.Au (i:=(g.Ar R).length+1) Bq).lt;have hb:w.heap.size+1≠w.heap.size:=Y
 have qm:BM w2 w.heap.size #[.int .u8 0,i5 0,.string ⟨#[]⟩,.bool false,i5 0,.bool false,i5 0,.bool false,i5 0,i5 0,i5 0,i5 0,i5 0,i5 0] 110:=s2.Am.Au (i:=(g.Ar R).length+1) Bq;have B1:=hid qm;clear qm;have B2:=hid (s2.Am.Au (i:=(g.Ar R).length+1) Bq);have S2:=hid s2;clear s2;have Hm:=hid (show Av [] w w2 from C4);clear C4;simp only[At.val];cases ab
 ·go_wp2;refine BQ (x:={Nd.of 122 with a:=⟨al,ai⟩}) (c:=4) (yb:=w.heap.size) rfl rfl ?_ ?_
  ·exact maL
  rw[AJ.out];refine⟨_,rfl,Av.nil ?_⟩;refine Av.alloc ?_ _
  iterate 16 refine Av.setCell ?_ (.inr (by first | exact LE _ | exact Qan _)) _
  exact Hm.out
 ·go_wp2;refine BQ (x:={Nd.of 122 with a:=⟨al,ai⟩}) (c:=0) (yb:=w.heap.size) rfl rfl ?_ ?_
  ·exact maL
  rw[AJ.out];refine⟨rfl,g,rfl,HL,Ak.quiet H ?_⟩;refine Av.alloc ?_ _
  iterate 16 refine Av.setCell ?_ (.inr (by first | exact LE _ | exact Qan _)) _
  exact Hm.out
theorem mJ (l:Ws) (lw:Value) (w:World) (g:RG) (R:RS) (h:Az w (g.Ar R)) (hL:Dq g R)
  (hw:Sl w (fun b=>b∉D4 (g.Ar R)) lw (A3 l)) (hs:∀a,a∈l->a.size<=maxLen) (hk:bs (wd l 0)=CF) (hl:2 < l.length) (n:Nat) (hI:Mo R n) (hT:R.p.Aa≠[]):
  Calls prog 61 #[i6 g.rb,lw] w (OW (R.node l) g R w):=by
 obtain⟨wb,woff,wcap,rfl,hd⟩:=Fz hw Y;have c0:=hd.c 0 Y;simp only[Qaj] at c0;have AF:R.node l=R.node l:=rfl
 conv at AF=>rhs;unfold RS.node
 simp only[hk,KI,Qau,y4] at AF;have q1:=An (x:=wd l 0) (k:=CY) (by rw[hk];decide);unfold CY at q1;have q2:=An (x:=wd l 0) (k:=CZ) (by rw[hk];decide);unfold CZ at q2;have q3:=An (x:=wd l 0) (k:=DI) (by rw[hk];decide);unfold DI at q3;have q4:=An (x:=wd l 0) (k:=Kb) (by rw[hk];decide);unfold Kb at q4;have q5:=An (x:=wd l 0) (k:=Dp) (by rw[hk];decide);unfold Dp at q5;have q6:=An (x:=wd l 0) (k:=AH) (by rw[hk];decide);unfold AH at q6;have q0:=BO hk;unfold CF at q0;obtain⟨Cu,A8,C6,Bv,AX,Cq,Bi⟩:=AI h;have Gu:=hd.n0;have K8:=hd.n1;have Fb:=hd.lt;unfold maxLen at K8;have c1:=hd.c 1 Y;have c2:=hd.c 2 hl;have Mu:(0:Int) < (l.length:Int):=Y
 have KL:(1:Int) < (l.length:Int):=Y
 have LG:(2:Int) < (l.length:Int):=Y
 have H:=hid h;have HL:=hid hL;have HI:=hid hI;have HT:=hid hT;have Hs:=hid hs;have Hd:=hid hd;have Hw:=hid hw;clear h hL hI hT hs hd hw hk Cu A8 C6 Bv Bi;have AJ:=hid AF;clear AF;go_enter func61,ntmps61;go_wp2_with fail;have s1:Ak w (g.Ar R) _ ((DS (w.heap.size+1) (.of 103)::g.Ar R)++[DS w.heap.size (.of 0)]):=I8 H pZ (pZ.set! 0 (.int .u8 103)) 110;refine(YM (wd l 2) l _ _ g R (w.heap.size+1) (.of 103) n (AO s1.Am) HL HI HT ((Hw.step s1).sub cJ) Hs).mono ?_;rintro e w2 ⟨rfl,g2,dZ,bz,iL⟩;have s2:=s1.trans (Ak.frame s1.Am iL);have AF:=AJ.out;clear s1 iL c0 c1 c2 AX Cq Fb AJ;have OB:(R.cell (.of 103) (wd l 2) l).2.1.kind=103:=ZD R _ _ _;generalize R.cell (.of 103) (wd l 2) l=cr at s2 bz AF OB⊢;obtain⟨R2,x2,ok2⟩:=cr;simp only[] at s2 bz AF OB⊢;have iY:=Hd.Bf s2.Bf;have c1:=iY.c 1 Y;have Fb:=iY.lt;clear iY;have KY:=Cs (AO s2.Am);obtain⟨Jq,KN,Fa,GG,IG⟩:=KY;obtain⟨Cu,A8,C6,Bv,AX,Cq,Bi⟩:=AI (Ak.Cn (AO s2.Am));have De:BM w2 w.heap.size #[.int .u8 0,i5 0,.string ⟨#[]⟩,.bool false,i5 0,.bool false,i5 0,.bool false,i5 0,i5 0,i5 0,i5 0,i5 0,i5 0] 110:=s2.Am.Au (i:=(g2.Ar R2).length+1) Bq;have Nf:∀i:Nat,w2.cell? ⟨w.heap.size,i,none⟩=(#[.int .u8 0,i5 0,.string ⟨#[]⟩,.bool false,i5 0,.bool false,i5 0,.bool false,i5 0,i5 0,i5 0,i5 0,i5 0,i5 0]:Array Value)[i]?:=De.cell;have Nc:=De.free;have Nb:=De.lt;have YB:=hid De;clear De;have HRB:=hid dZ;rw[<-dZ];clear dZ;have S:=hid s2;clear s2;have wU:=hid bz;clear bz;have Ae2:((x2.kind:Int)==115)=false:=by rw[OB];rfl
 have Ae1:((x2.kind:Int)==103)=true:=by rw[OB];rfl
 clear OB;cases ok2
 ·have AJ:=hid (show R.node l= .error 4 by simpa using AF);clear AF;go_wp2;refine BQ (x:=x2) (c:=4) (yb:=w.heap.size) rfl rfl ?_ ?_
  ·exact ma5
  rw[AJ.out];refine⟨_,rfl,Ka S.Bf (LE _) ?_⟩;exact Av.Ei _ _ _ _ _ _ _ _ _ _ _ _ _ _
 ·have Hn:=hid (show R.node l=R2.JA x2 (wd l 1) by simpa using AF);clear AF;go_wp2_with fail;refine(SE (wd l 1) _ g2 R2 (w.heap.size+1) x2 (AO S.Am) wU).mono ?_;intro e w3 hm;unfold lO at hm;cases Zf:R2.JA x2 (wd l 1) with
  | error c=>
   rw[Zf] at hm;obtain⟨rfl,Q0⟩:=hm;have AJ:=hid (Hn.trans Zf);have s3:=S.trans (Ak.quiet S.Am Q0);clear Zf Q0 Jq KN Fa GG IG Cu A8 C6 Bv AX Cq Bi Nf Nc Nb YB S Hn;have KY:=Cs (AO s3.Am);obtain⟨Jq,KN,Fa,GG,IG⟩:=KY;obtain⟨Cu,A8,C6,Bv,AX,Cq,Bi⟩:=AI (Ak.Cn (AO s3.Am));have De:BM w3 w.heap.size #[.int .u8 0,i5 0,.string ⟨#[]⟩,.bool false,i5 0,.bool false,i5 0,.bool false,i5 0,i5 0,i5 0,i5 0,i5 0,i5 0] 110:=s3.Am.Au (i:=(g2.Ar R2).length+1) Bq;have Nf:∀i:Nat,w3.cell? ⟨w.heap.size,i,none⟩=(#[.int .u8 0,i5 0,.string ⟨#[]⟩,.bool false,i5 0,.bool false,i5 0,.bool false,i5 0,i5 0,i5 0,i5 0,i5 0,i5 0]:Array Value)[i]?:=De.cell;have Nc:=De.free;have Nb:=De.lt;have YB:=hid De;clear De;have S:=hid s3;clear s3;go_wp2;refine BQ (x:=x2) (c:=c) (yb:=w.heap.size) rfl rfl ?_ ?_
   ·exact ma5
   rw[AJ.out];refine⟨_,rfl,Ka S.Bf (LE _) ?_⟩;exact Av.Ei _ _ _ _ _ _ _ _ _ _ _ _ _ _
  | ok v3=>
   obtain⟨R3,x3⟩:=v3;rw[Zf] at hm;obtain⟨rfl,g3,WC,ey,dV⟩:=hm;have AJ:=hid (Hn.trans Zf);have s3:=S.trans (Ak.frame S.Am dV);have HL3:=hid ey;rw[<-WC];replace HRB:=hid (WC.trans HRB);clear WC;clear ey Zf dV Jq KN Fa GG IG Cu A8 C6 Bv AX Cq Bi Nf Nc Nb YB S Hn;have KY:=Cs (AO s3.Am);obtain⟨Jq,KN,Fa,GG,IG⟩:=KY;obtain⟨Cu,A8,C6,Bv,AX,Cq,Bi⟩:=AI (Ak.Cn (AO s3.Am));have De:BM w3 w.heap.size #[.int .u8 0,i5 0,.string ⟨#[]⟩,.bool false,i5 0,.bool false,i5 0,.bool false,i5 0,i5 0,i5 0,i5 0,i5 0,i5 0] 110:=s3.Am.Au (i:=(g3.Ar R3).length+1) Bq;have Nf:∀i:Nat,w3.cell? ⟨w.heap.size,i,none⟩=(#[.int .u8 0,i5 0,.string ⟨#[]⟩,.bool false,i5 0,.bool false,i5 0,.bool false,i5 0,i5 0,i5 0,i5 0,i5 0,i5 0]:Array Value)[i]?:=De.cell;exact mar
theorem mG (l:Ws) (lw:Value) (w:World) (g:RG) (R:RS) (h:Az w (g.Ar R)) (hL:Dq g R)
  (hw:Sl w (fun b=>b∉D4 (g.Ar R)) lw (A3 l)) (hs:∀a,a∈l->a.size<=maxLen) (hk:bs (wd l 0)=CZ) (hl:2 < l.length) (n:Nat) (hI:Mo R n) (hT:R.p.Aa≠[]):
  Calls prog 61 #[i6 g.rb,lw] w (OW (R.node l) g R w):=by
 obtain⟨wb,woff,wcap,rfl,hd⟩:=Fz hw Y;have c0:=hd.c 0 Y;simp only[Qaj] at c0;have AF:R.node l=R.node l:=rfl
 conv at AF=>rhs;unfold RS.node
 simp only[hk,KI,Qau,y4] at AF;have q1:=An (x:=wd l 0) (k:=CY) (by rw[hk];decide);unfold CY at q1;have q2:=An (x:=wd l 0) (k:=CF) (by rw[hk];decide);unfold CF at q2;have q3:=An (x:=wd l 0) (k:=DI) (by rw[hk];decide);unfold DI at q3;have q4:=An (x:=wd l 0) (k:=Kb) (by rw[hk];decide);unfold Kb at q4;have q5:=An (x:=wd l 0) (k:=Dp) (by rw[hk];decide);unfold Dp at q5;have q6:=An (x:=wd l 0) (k:=AH) (by rw[hk];decide);unfold AH at q6;have q0:=BO hk;unfold CZ at q0;obtain⟨Cu,A8,C6,Bv,AX,Cq,Bi⟩:=AI h;have Gu:=hd.n0;have K8:=hd.n1;have Fb:=hd.lt;unfold maxLen at K8;have c1:=hd.c 1 Y;have Mu:(0:Int) < (l.length:Int):=Y
 have KL:(1:Int) < (l.length:Int):=Y
 have LG:(2:Int) < (l.length:Int):=Y
 have AdG:R.p.BJ≠[]:=fun h0=>hT (RK (by rw[<-hL.ql,h0];rfl))
 have H:=hid h;have HL:=hid hL;have HI:=hid hI;have HT:=hid hT;have Hs:=hid hs;have Hd:=hid hd;have Hw:=hid hw;have Af2:=hid AdG;clear h hL hs hd hw hk Cu A8 C6 Bv Bi AdG;have bD:=hI.bn;have p9:=hI.nn;have hqn:R.p.BJ.length<=2500:=by have:=HL.ql;omega
 clear hI hT bD p9;have AJ:=hid AF;clear AF;go_enter func61,ntmps61;go_wp2_with fail;have s1:Ak w (g.Ar R) _ ((DS (w.heap.size+1) (.of 112)::g.Ar R)++[DS w.heap.size (.of 0)]):=I8 H pZ (pZ.set! 0 (.int .u8 112)) 110;refine(YM (wd l 1) l _ _ g R (w.heap.size+1) (.of 112) n (AO s1.Am) HL HI HT ((Hw.step s1).sub cJ) Hs).mono ?_;rintro e w2 ⟨rfl,g2,dZ,bz,iL⟩;have s2:=s1.trans (Ak.frame s1.Am iL);have AF:=AJ.out;clear s1 iL c0 c1 AX Cq Fb AJ;have OB:(R.cell (.of 112) (wd l 1) l).2.1.kind=112:=ZD R _ _ _;have P3:=pq R (.of 112) (wd l 1) l;generalize R.cell (.of 112) (wd l 1) l=cr at s2 bz AF OB P3⊢;obtain⟨R2,x2,ok2⟩:=cr;simp only[] at s2 bz AF OB P3⊢;have iY:=Hd.Bf s2.Bf;have c2:=iY.c 2 hl;have Fb:=iY.lt;clear iY;rw[<-P3] at hqn;have Ib:R2.p.BJ≠[]:=by rw[P3];exact Af2.out
 clear P3;have Ae2:((x2.kind:Int)==115)=false:=by rw[OB];rfl
 have Ae1:((x2.kind:Int)==103)=false:=by rw[OB];rfl
 clear OB;have KY:=Cs (AO s2.Am);obtain⟨Jq,KN,Fa,GG,IG⟩:=KY;obtain⟨Cu,A8,C6,Bv,AX,Cq,Bi⟩:=AI (Ak.Cn (AO s2.Am));have De:BM w2 w.heap.size #[.int .u8 0,i5 0,.string ⟨#[]⟩,.bool false,i5 0,.bool false,i5 0,.bool false,i5 0,i5 0,i5 0,i5 0,i5 0,i5 0] 110:=s2.Am.Au (i:=(g2.Ar R2).length+1) Bq;have Nf:∀i:Nat,w2.cell? ⟨w.heap.size,i,none⟩=(#[.int .u8 0,i5 0,.string ⟨#[]⟩,.bool false,i5 0,.bool false,i5 0,.bool false,i5 0,i5 0,i5 0,i5 0,i5 0,i5 0]:Array Value)[i]?:=De.cell;have Nc:=De.free;have Nb:=De.lt;have YB:=hid De;clear De;have HRB:=hid dZ;rw[<-dZ];clear dZ;have S:=hid s2;clear s2;have wU:=hid bz;clear bz;have lR:=hid (fun w hr=>I7 (wd l 2) w g2 R2 hr (Iy Hs 2));generalize R2.CO (wd l 2)=av at*;obtain⟨⟨al,ai⟩,ab⟩:=av;have AJ:=hid AF;clear AF;go_wp2_with fail;refine(lR _ (Mn S.Am wU)).mono ?_;rintro e w3 ⟨rfl,Q0⟩;have s3:=S.trans (Ak.quiet S.Am Q0);clear Q0 Jq KN Fa GG IG Cu A8 C6 Bv AX Cq Bi Nf Nc Nb YB S lR c2 Fb;obtain⟨m,hm⟩:∃m,R2.p.BJ.length=m+1:=⟨R2.p.BJ.length - 1,by have:=Qae.2 Ib;omega⟩;have ct:w3.ownsRow 0 4 1 (.slice g2.q.p R2.p.BJ.length g2.q.c) R2.p.BJ.length (FK R2.p.BJ):=(AO s3.Am).row (i:=10) rfl;obtain⟨qb,qc,hqe,_,AbR,Agy,Agx,uy,ux⟩:=AG ct Y;have hqv:∃v,w3.cell? ⟨qb,m,none⟩=some v:=⟨_,uy m (by simp[FK,hm])⟩;obtain⟨qv,hqv⟩:=hqv;have uw:(DS (w.heap.size+1) x2::g2.Ar R2)[10]?=some (.row (.slice (some ⟨qb,0,none⟩) R2.p.BJ.length qc) 4 1 R2.p.BJ.length (FK R2.p.BJ)):=by rw[<-hqe];rfl
 have nxq:=HY (AO s3.Am) (i:=0) rfl uw AC;have nrq:=HY (AO s3.Am) (i:=1) rfl uw AC;have npq:=HY (AO s3.Am) (i:=2) rfl uw AC;have KY:=Cs (AO s3.Am);obtain⟨Jq,KN,Fa,GG,IG⟩:=KY;obtain⟨Cu,A8,C6,Bv,AX,Cq,Bi⟩:=AI (Ak.Cn (AO s3.Am));have De:BM w3 w.heap.size #[.int .u8 0,i5 0,.string ⟨#[]⟩,.bool false,i5 0,.bool false,i5 0,.bool false,i5 0,i5 0,i5 0,i5 0,i5 0,i5 0] 110:=s3.Am.Au (i:=(g2.Ar R2).length+1) Bq;have Nf:∀i:Nat,w3.cell? ⟨w.heap.size,i,none⟩=(#[.int .u8 0,i5 0,.string ⟨#[]⟩,.bool false,i5 0,.bool false,i5 0,.bool false,i5 0,i5 0,i5 0,i5 0,i5 0,i5 0]:Array Value)[i]?:=De.cell;have Nc:=De.free;have Nb:=De.lt;have YB:=hid De;clear De;rw[hqe,hm] at A8;have hmn:m<=2500:=Y
 have CS:(m:Int) < ((m:Int)+1):=Y
 have WI:(0:Int)<=(m:Int):=Qa2 _;have kJ:IntKind.i64.wrap (m:Int)=(m:Int):=IntWalk.i64_in _ Y;have hqf:=ux m;have S:=hid s3;clear s3;have Hqe:=hid (hqe.trans (by rw[hm]));have Hm:=hid hm;have Hp2:=hid Ib;clear hqe ct uy ux uw hm hqn Ib;simp only[At.val];cases ok2
 ·exact mai
 ·cases ab
  ·exact mai
  ·have AF:=AJ.out;replace AJ:=hid (show R.node l= .ok (R2.DG,({x2 with a:=⟨al,ai⟩}:Nd)) by simpa using AF);clear AF;go_upto_region 26 with fail
   refine Ap (l:=[(0,true),(1,true),(2,true),(3,true),(4,true),(5,true),(6,true),(7,true),(8,true),(9,true),(10,true),(11,true),(12,true),(13,true),(14,true),(15,true),(16,true),(17,false)]) (fun W=>W.cell? ⟨g2.rb,0,none⟩=some (i6 g2.pb)/\W.cell? ⟨g2.pb,3,none⟩=some (.slice (some ⟨qb,0,none⟩) (m+1) qc)) 17 ?_ ?_
   ·exact mbq
   refine detE ?_;intro K hK;refine hK _ _ (fun h=>UV rfl h) ?_;simp only[BB];have t1:=S.Am.set (i:=0) rfl 3 (.bool al);have t2:=t1.Am.set (i:=0) rfl 4 (i5 ai);have t3:=SI (a:=DS (w.heap.size+1) ({x2 with a:=⟨al,ai⟩}:Nd)) (g:=g2) (R:=R2) (E:=[DS w.heap.size (.of 0)]) t2.Am Hqe Hm.out;have t4:Ak w (g.Ar R) _ ((DS (w.heap.size+1) ({x2 with a:=⟨al,ai⟩}:Nd)::g2.Ar R2.DG)++[DS w.heap.size (.of 0)]):=S.trans (t1.trans (t2.trans t3));have t5:=t4.trans (Ak.alloc t4.Am (.cells #[.bool al,i5 ai] 108));have s4:=t5.trans (Ak.drew t5.Am);clear t1 t2 t3 t4 t5 Jq KN Fa GG IG Cu A8 C6 Bv AX Cq Bi Nf Nc Nb YB S hqf nxq nrq npq hqv AbR;generalize ((((w3.setCell {block:=w.heap.size+1,off:=3} (Value.bool al)).setCell {block:=w.heap.size+1,off:=4} (Value.int IntKind.i64 ai)).setCell {block:=qb,off:=m} (Value.bool true)).alloc (Obj.cells #[Value.bool al,Value.int IntKind.i64 ai] 108)).drew=w4 at s4⊢;have KY:=Cs (AO s4.Am);obtain⟨Jq,KN,Fa,GG,IG⟩:=KY;obtain⟨Cu,A8,C6,Bv,AX,Cq,Bi⟩:=AI (Ak.Cn (AO s4.Am));have De:BM w4 w.heap.size #[.int .u8 0,i5 0,.string ⟨#[]⟩,.bool false,i5 0,.bool false,i5 0,.bool false,i5 0,i5 0,i5 0,i5 0,i5 0,i5 0] 110:=s4.Am.Au (i:=(g2.Ar R2.DG).length+1) Bq;have Nf:∀i:Nat,w4.cell? ⟨w.heap.size,i,none⟩=(#[.int .u8 0,i5 0,.string ⟨#[]⟩,.bool false,i5 0,.bool false,i5 0,.bool false,i5 0,i5 0,i5 0,i5 0,i5 0,i5 0]:Array Value)[i]?:=De.cell;have Nc:=De.free;have Nb:=De.lt;have YB:=hid De;clear De;have HL3:=hid (Qp wU Hp2);have S:=hid s4;clear s4;go_wp2;refine BQ (x:=({x2 with a:=⟨al,ai⟩}:Nd)) (c:=0) (yb:=w.heap.size) rfl rfl ?_ ?_
   ·exact BM.Ei YB (.int .u8 x2.kind) (i5 x2.v) (.string x2.op) (.bool al) (i5 ai) (.bool x2.b.AR) (i5 x2.b.v) (.bool x2.AW.AR) (i5 x2.AW.v) (i5 x2.first) (i5 x2.size) (i5 x2.Dg) (i5 x2.n) (i5 x2.Aj)
   rw[AJ.out];refine⟨rfl,g2,HRB,HL3,O5 S (LE _) ?_⟩;exact Av.Ei _ _ _ _ _ _ _ _ _ _ _ _ _ _
theorem gL (l:Ws) (lw:Value) (w:World) (g:RG) (R:RS) (h:Az w (g.Ar R)) (hL:Dq g R)
  (hw:Sl w (fun b=>b∉D4 (g.Ar R)) lw (A3 l)) (hs:∀a,a∈l->a.size<=maxLen) (hk:bs (wd l 0)=CY) (hl:l.length=3):
  Calls prog 61 #[i6 g.rb,lw] w (OW (R.node l) g R w):=by
 obtain⟨wb,woff,wcap,rfl,hd⟩:=Fz hw Y;have c0:=hd.c 0 Y;simp only[Qaj] at c0;have AF:R.node l=R.node l:=rfl
 conv at AF=>rhs;unfold RS.node
 simp only[hk,KI,Qau,y4] at AF;have q1:=An (x:=wd l 0) (k:=CF) (by rw[hk];decide);unfold CF at q1;have q2:=An (x:=wd l 0) (k:=CZ) (by rw[hk];decide);unfold CZ at q2;have q3:=An (x:=wd l 0) (k:=DI) (by rw[hk];decide);unfold DI at q3;have q4:=An (x:=wd l 0) (k:=Kb) (by rw[hk];decide);unfold Kb at q4;have q5:=An (x:=wd l 0) (k:=Dp) (by rw[hk];decide);unfold Dp at q5;have q6:=An (x:=wd l 0) (k:=AH) (by rw[hk];decide);unfold AH at q6;have q0:=BO hk;unfold CY at q0;obtain⟨Cu,A8,C6,Bv,AX,Cq,Bi⟩:=AI h;have Gu:=hd.n0;have K8:=hd.n1;have Fb:=hd.lt;unfold maxLen at K8;simp only[hl,show¬(3:Nat)=5 by decide,y4] at AF;have c1:=hd.c 1 Y;have c2:=hd.c 2 Y;have uL:((l.length:Int)==5)=false:=by rw[hl];rfl
 have Mu:(0:Int) < (l.length:Int):=Y
 have KL:(1:Int) < (l.length:Int):=Y
 have LG:(2:Int) < (l.length:Int):=Y
 have FA:=fun w hr=>I7 (wd l 2) w g R hr (Iy hs 2)
 generalize R.CO (wd l 2)=av at*;obtain⟨⟨al,ai⟩,ab⟩:=av;have lR:=hid FA;have H:=hid h;have HL:=hid hL;have AJ:=hid AF;have Hs:=hid hs;have Hd:=hid hd;clear h hL hw hk hs hd Cu A8 C6 Bv Bi FA AF hl;go_enter func61,ntmps61;go_wp2_with fail;have s1:Ak w (g.Ar R) _ ((DS (w.heap.size+1) (.of 115)::g.Ar R)++[DS w.heap.size (.of 0)]):=I8 H pZ (pZ.set! 0 (.int .u8 115)) 110;refine(lR _ (Mn s1.Am HL)).mono ?_;rintro e w2 ⟨rfl,C4⟩;have s2:=s1.trans (Ak.quiet s1.Am C4);clear s1 C4 c0 c1 c2 AX Cq Fb lR;have KY:=Cs (AO s2.Am);obtain⟨Jq,KN,Fa,GG,IG⟩:=KY;obtain⟨Cu,A8,C6,Bv,AX,Cq,Bi⟩:=AI (Ak.Cn (AO s2.Am));have De:BM w2 w.heap.size #[.int .u8 0,i5 0,.string ⟨#[]⟩,.bool false,i5 0,.bool false,i5 0,.bool false,i5 0,i5 0,i5 0,i5 0,i5 0,i5 0] 110:=s2.Am.Au (i:=(g.Ar R).length+1) Bq;have Nf:∀i:Nat,w2.cell? ⟨w.heap.size,i,none⟩=(#[.int .u8 0,i5 0,.string ⟨#[]⟩,.bool false,i5 0,.bool false,i5 0,.bool false,i5 0,i5 0,i5 0,i5 0,i5 0,i5 0]:Array Value)[i]?:=De.cell;have Nc:=De.free;have Nb:=De.lt;have YB:=hid De;clear De;have S:=hid s2;clear s2;simp only[At.val];go_upto_region 9 with fail
 have t1:=S.Am.set (i:=0) rfl 3 (.bool al);have t2:=t1.Am.set (i:=0) rfl 4 (i5 ai);have t3:Ak w (g.Ar R) _ ((DS (w.heap.size+1) ({Nd.of 115 with a:=⟨al,ai⟩}:Nd)::g.Ar R)++[DS w.heap.size (.of 0)]):=S.trans (t1.trans t2);have s3:=t3.trans (Ak.alloc t3.Am (.cells #[.bool al,i5 ai] 108));clear t1 t2 t3 Jq KN Fa GG IG Cu A8 C6 Bv AX Cq Bi Nf Nc Nb YB S;generalize (((w2.setCell {block:=w.heap.size+1,off:=3} (Value.bool al)).setCell {block:=w.heap.size+1,off:=4} (Value.int IntKind.i64 ai)).alloc (Obj.cells #[Value.bool al,Value.int IntKind.i64 ai] 108))=w3 at s3⊢;have iX:=Hd.Bf s3.Bf;have c1:=iX.c 1 Y;have Fb:=iX.lt;clear iX;have KY:=Cs (AO s3.Am);obtain⟨Jq,KN,Fa,GG,IG⟩:=KY;obtain⟨Cu,A8,C6,Bv,AX,Cq,Bi⟩:=AI (Ak.Cn (AO s3.Am));have De:BM w3 w.heap.size #[.int .u8 0,i5 0,.string ⟨#[]⟩,.bool false,i5 0,.bool false,i5 0,.bool false,i5 0,i5 0,i5 0,i5 0,i5 0,i5 0] 110:=s3.Am.Au (i:=(g.Ar R).length+1) Bq;have Nf:∀i:Nat,w3.cell? ⟨w.heap.size,i,none⟩=(#[.int .u8 0,i5 0,.string ⟨#[]⟩,.bool false,i5 0,.bool false,i5 0,.bool false,i5 0,i5 0,i5 0,i5 0,i5 0,i5 0]:Array Value)[i]?:=De.cell;have Nc:=De.free;have Nb:=De.lt;have YB:=hid De;clear De;have S:=hid s3;clear s3;cases ab
 ·have AF:=AJ.out;replace AJ:=hid (show R.node l= .error 4 by simpa using AF);clear AF;go_wp2;refine BQ (x:=({Nd.of 115 with a:=⟨al,ai⟩}:Nd)) (c:=4) (yb:=w.heap.size) rfl rfl ?_ ?_
  ·exact mbn
  rw[AJ.out];refine⟨_,rfl,Ka S.Bf (LE _) ?_⟩;exact Av.Ei _ _ _ _ _ _ _ _ _ _ _ _ _ _
 ·have AF:=AJ.out;have Hn:=hid (show R.node l=R.JA ({Nd.of 115 with a:=⟨al,ai⟩}:Nd) (wd l 1) by simpa using AF);clear AF;go_wp2_with fail;refine(SE (wd l 1) _ g R (w.heap.size+1) ({Nd.of 115 with a:=⟨al,ai⟩}:Nd) (AO S.Am) HL).mono ?_;intro e w4 hm;unfold lO at hm;cases Zf:R.JA ({Nd.of 115 with a:=⟨al,ai⟩}:Nd) (wd l 1) with
  | error c=>
   rw[Zf] at hm;obtain⟨rfl,Q0⟩:=hm;have AJ:=hid (Hn.trans Zf);have s3:=S.trans (Ak.quiet S.Am Q0);clear Zf Q0 Jq KN Fa GG IG Cu A8 C6 Bv AX Cq Bi Nf Nc Nb YB S Hn;have KY:=Cs (AO s3.Am);obtain⟨Jq,KN,Fa,GG,IG⟩:=KY;obtain⟨Cu,A8,C6,Bv,AX,Cq,Bi⟩:=AI (Ak.Cn (AO s3.Am));have De:BM w4 w.heap.size #[.int .u8 0,i5 0,.string ⟨#[]⟩,.bool false,i5 0,.bool false,i5 0,.bool false,i5 0,i5 0,i5 0,i5 0,i5 0,i5 0] 110:=s3.Am.Au (i:=(g.Ar R).length+1) Bq;have Nf:∀i:Nat,w4.cell? ⟨w.heap.size,i,none⟩=(#[.int .u8 0,i5 0,.string ⟨#[]⟩,.bool false,i5 0,.bool false,i5 0,.bool false,i5 0,i5 0,i5 0,i5 0,i5 0,i5 0]:Array Value)[i]?:=De.cell;have Nc:=De.free;have Nb:=De.lt;have YB:=hid De;clear De;have S:=hid s3;clear s3;go_wp2;refine BQ (x:=({Nd.of 115 with a:=⟨al,ai⟩}:Nd)) (c:=c) (yb:=w.heap.size) rfl rfl ?_ ?_
   ·exact mbn
   rw[AJ.out];refine⟨_,rfl,Ka S.Bf (LE _) ?_⟩;exact Av.Ei _ _ _ _ _ _ _ _ _ _ _ _ _ _
  | ok v3=>
   obtain⟨R3,x3⟩:=v3;rw[Zf] at hm;obtain⟨rfl,g3,WC,ey,dV⟩:=hm;have AJ:=hid (Hn.trans Zf);have s3:=S.trans (Ak.frame S.Am dV);have HL3:=hid ey;rw[<-WC];have HRB:=hid WC;clear WC;clear ey Zf dV Jq KN Fa GG IG Cu A8 C6 Bv AX Cq Bi Nf Nc Nb YB S Hn;have KY:=Cs (AO s3.Am);obtain⟨Jq,KN,Fa,GG,IG⟩:=KY;obtain⟨Cu,A8,C6,Bv,AX,Cq,Bi⟩:=AI (Ak.Cn (AO s3.Am));have De:BM w4 w.heap.size #[.int .u8 0,i5 0,.string ⟨#[]⟩,.bool false,i5 0,.bool false,i5 0,.bool false,i5 0,i5 0,i5 0,i5 0,i5 0,i5 0] 110:=s3.Am.Au (i:=(g3.Ar R3).length+1) Bq;have Nf:∀i:Nat,w4.cell? ⟨w.heap.size,i,none⟩=(#[.int .u8 0,i5 0,.string ⟨#[]⟩,.bool false,i5 0,.bool false,i5 0,.bool false,i5 0,i5 0,i5 0,i5 0,i5 0,i5 0]:Array Value)[i]?:=De.cell;exact mar
theorem gK (l:Ws) (lw:Value) (w:World) (g:RG) (R:RS) (h:Az w (g.Ar R)) (hL:Dq g R)
  (hw:Sl w (fun b=>b∉D4 (g.Ar R)) lw (A3 l)) (hs:∀a,a∈l->a.size<=maxLen) (hk:bs (wd l 0)=CY) (hl:l.length=5) (Afg:0<=A6 Dx (wd l 3)):
  Calls prog 61 #[i6 g.rb,lw] w (OW (R.node l) g R w):=by
 obtain⟨wb,woff,wcap,rfl,hd⟩:=Fz hw Y;have c0:=hd.c 0 Y;simp only[Qaj] at c0;have AF:R.node l=R.node l:=rfl
 conv at AF=>rhs;unfold RS.node
 simp only[hk,KI,Qau,y4] at AF;have q1:=An (x:=wd l 0) (k:=CF) (by rw[hk];decide);unfold CF at q1;have q2:=An (x:=wd l 0) (k:=CZ) (by rw[hk];decide);unfold CZ at q2;have q3:=An (x:=wd l 0) (k:=DI) (by rw[hk];decide);unfold DI at q3;have q4:=An (x:=wd l 0) (k:=Kb) (by rw[hk];decide);unfold Kb at q4;have q5:=An (x:=wd l 0) (k:=Dp) (by rw[hk];decide);unfold Dp at q5;have q6:=An (x:=wd l 0) (k:=AH) (by rw[hk];decide);unfold AH at q6;have q0:=BO hk;unfold CY at q0;obtain⟨Cu,A8,C6,Bv,AX,Cq,Bi⟩:=AI h;have Gu:=hd.n0;have K8:=hd.n1;have Fb:=hd.lt;unfold maxLen at K8;simp only[hl,Qau] at AF;have c1:=hd.c 1 Y;have c2:=hd.c 2 Y;have uL:((l.length:Int)==5)=true:=by rw[hl];rfl
 have Mu:(0:Int) < (l.length:Int):=Y
 have KL:(1:Int) < (l.length:Int):=Y
 have LG:(2:Int) < (l.length:Int):=Y
 have iS:(3:Int) < (l.length:Int):=Y
 have hl4:(4:Int) < (l.length:Int):=Y
 have FA:=fun w hr=>I7 (wd l 2) w g R hr (Iy hs 2)
 generalize R.CO (wd l 2)=av at*;obtain⟨⟨al,ai⟩,ab⟩:=av;have lR:=hid FA;have Aec:=fun w hr=>I7 (wd l 4) w g R hr (Iy hs 4)
 generalize R.CO (wd l 4)=bv at*;obtain⟨⟨bl,bi⟩,bb⟩:=bv;have AeJ:=hid Aec;clear Aec;have Ab1:=Of Dx (wd l 3);have AdH:=fun (v:Value) (W:World) (ok:Nat->Prop) (h:Sl W ok v (A3 Dx))=>Gm Dx (wd l 3) v W ok h
 generalize hpk:A6 Dx (wd l 3)=pk at*;obtain⟨pk,rfl⟩:∃m:Nat,pk=m:=⟨pk.toNat,Y⟩;have AdI:pk < 12:=by
  rcases Ab1 with h | ⟨_,h⟩
  ·omega
  ·have:Dx.length=12:=rfl;omega
 have AeB:=hid AdH;clear AdH Ab1 hpk Afg;simp only[Qbq] at AF;have H:=hid h;have HL:=hid hL;have AJ:=hid AF;have Hs:=hid hs;have Hd:=hid hd;clear h hL hw hk hs hd Cu A8 C6 Bv Bi FA AF hl;go_enter func61,ntmps61;go_wp2_with fail;have s1:Ak w (g.Ar R) _ ((DS (w.heap.size+1) (.of 115)::g.Ar R)++[DS w.heap.size (.of 0)]):=I8 H pZ (pZ.set! 0 (.int .u8 115)) 110;refine(lR _ (Mn s1.Am HL)).mono ?_;rintro e w2 ⟨rfl,C4⟩;have s2:=s1.trans (Ak.quiet s1.Am C4);clear s1 C4 c0 c1 c2 AX Cq Fb lR;have KY:=Cs (AO s2.Am);obtain⟨Jq,KN,Fa,GG,IG⟩:=KY;obtain⟨Cu,A8,C6,Bv,AX,Cq,Bi⟩:=AI (Ak.Cn (AO s2.Am));have De:BM w2 w.heap.size #[.int .u8 0,i5 0,.string ⟨#[]⟩,.bool false,i5 0,.bool false,i5 0,.bool false,i5 0,i5 0,i5 0,i5 0,i5 0,i5 0] 110:=s2.Am.Au (i:=(g.Ar R).length+1) Bq;have Nf:∀i:Nat,w2.cell? ⟨w.heap.size,i,none⟩=(#[.int .u8 0,i5 0,.string ⟨#[]⟩,.bool false,i5 0,.bool false,i5 0,.bool false,i5 0,i5 0,i5 0,i5 0,i5 0,i5 0]:Array Value)[i]?:=De.cell;have Nc:=De.free;have Nb:=De.lt;have YB:=hid De;clear De;have S:=hid s2;clear s2;simp only[At.val];go_upto_region 9 with fail
 have t1:=S.Am.set (i:=0) rfl 3 (.bool al);have t2:=t1.Am.set (i:=0) rfl 4 (i5 ai);have t3:Ak w (g.Ar R) _ ((DS (w.heap.size+1) ({Nd.of 115 with a:=⟨al,ai⟩}:Nd)::g.Ar R)++[DS w.heap.size (.of 0)]):=S.trans (t1.trans t2);have s3:=t3.trans (Ak.alloc t3.Am (.cells #[.bool al,i5 ai] 108));clear t1 t2 t3 Jq KN Fa GG IG Cu A8 C6 Bv AX Cq Bi Nf Nc Nb YB S;generalize (((w2.setCell {block:=w.heap.size+1,off:=3} (Value.bool al)).setCell {block:=w.heap.size+1,off:=4} (Value.int IntKind.i64 ai)).alloc (Obj.cells #[Value.bool al,Value.int IntKind.i64 ai] 108))=w3 at s3⊢;have iX:=Hd.Bf s3.Bf;have c1:=iX.c 1 Y;have c3:=iX.c 3 Y;have c4:=iX.c 4 Y;have Fb:=iX.lt;clear iX;have KY:=Cs (AO s3.Am);obtain⟨Jq,KN,Fa,GG,IG⟩:=KY;obtain⟨Cu,A8,C6,Bv,AX,Cq,Bi⟩:=AI (Ak.Cn (AO s3.Am));have De:BM w3 w.heap.size #[.int .u8 0,i5 0,.string ⟨#[]⟩,.bool false,i5 0,.bool false,i5 0,.bool false,i5 0,i5 0,i5 0,i5 0,i5 0,i5 0] 110:=s3.Am.Au (i:=(g.Ar R).length+1) Bq;have Nf:∀i:Nat,w3.cell? ⟨w.heap.size,i,none⟩=(#[.int .u8 0,i5 0,.string ⟨#[]⟩,.bool false,i5 0,.bool false,i5 0,.bool false,i5 0,i5 0,i5 0,i5 0,i5 0,i5 0]:Array Value)[i]?:=De.cell;have Nc:=De.free;have Nb:=De.lt;have YB:=hid De;clear De;have S:=hid s3;clear s3;go_wp2_with fail;refine(YD _).mono ?_;rintro e w4 ⟨v1,rfl,XE,AdC⟩;have s4:=S.trans (Ak.quiet S.Am XE);have c1:=AU XE c1;have c3:=AU XE c3;have c4:=AU XE c4;replace Fb:wb < w4.heap.size:=Qaq Fb XE.size;clear XE S;clear Jq KN Fa GG IG Cu A8 C6 Bv AX Cq Bi Nf Nc Nb YB;have KY:=Cs (AO s4.Am);obtain⟨Jq,KN,Fa,GG,IG⟩:=KY;obtain⟨Cu,A8,C6,Bv,AX,Cq,Bi⟩:=AI (Ak.Cn (AO s4.Am));have De:BM w4 w.heap.size #[.int .u8 0,i5 0,.string ⟨#[]⟩,.bool false,i5 0,.bool false,i5 0,.bool false,i5 0,i5 0,i5 0,i5 0,i5 0,i5 0] 110:=s4.Am.Au (i:=(g.Ar R).length+1) Bq;have Nf:∀i:Nat,w4.cell? ⟨w.heap.size,i,none⟩=(#[.int .u8 0,i5 0,.string ⟨#[]⟩,.bool false,i5 0,.bool false,i5 0,.bool false,i5 0,i5 0,i5 0,i5 0,i5 0,i5 0]:Array Value)[i]?:=De.cell;have Nc:=De.free;have Nb:=De.lt;have YB:=hid De;clear De;have S:=hid s4;clear s4;have Aan:=hid AdC;clear AdC;go_wp2_with fail;refine(Ym _).mono ?_;rintro e w5 ⟨v2,rfl,uI,Afb⟩;have s5:=S.trans (Ak.quiet S.Am uI);have c1:=AU uI c1;have c3:=AU uI c3;have c4:=AU uI c4;replace Fb:wb < w5.heap.size:=Qaq Fb uI.size;replace Aan:=hid (Aan.Bf uI EQ);clear uI S;clear Jq KN Fa GG IG Cu A8 C6 Bv AX Cq Bi Nf Nc Nb YB;have KY:=Cs (AO s5.Am);obtain⟨Jq,KN,Fa,GG,IG⟩:=KY;obtain⟨Cu,A8,C6,Bv,AX,Cq,Bi⟩:=AI (Ak.Cn (AO s5.Am));have De:BM w5 w.heap.size #[.int .u8 0,i5 0,.string ⟨#[]⟩,.bool false,i5 0,.bool false,i5 0,.bool false,i5 0,i5 0,i5 0,i5 0,i5 0,i5 0] 110:=s5.Am.Au (i:=(g.Ar R).length+1) Bq;have Nf:∀i:Nat,w5.cell? ⟨w.heap.size,i,none⟩=(#[.int .u8 0,i5 0,.string ⟨#[]⟩,.bool false,i5 0,.bool false,i5 0,.bool false,i5 0,i5 0,i5 0,i5 0,i5 0,i5 0]:Array Value)[i]?:=De.cell;have Nc:=De.free;have Nb:=De.lt;have YB:=hid De;clear De;have S:=hid s5;clear s5;go_wp2_with fail;refine(AeB v1 _ _ Aan).mono ?_;rintro e w5' ⟨rfl,rfl⟩;obtain⟨_,⟨_,hn⟩ | ⟨vb,voff,vcap,rfl,v1_,v2_,v3_,v4_,v5_⟩⟩:=Afb
 ·exact UV hn AC
 have Ads:(A3 Cj).length=12:=rfl;have hvc:=Sl.Lv (l:=Cj) v5_ pk (by show pk < 12;exact AdI);rw[Ads] at v1_⊢;unfold maxLen at v2_;have AgB:(0:Int)<=(pk:Int):=Qa2 _;have Agz:(pk:Int) < 12:=Y
 clear v5_ Ads Aan AeB v3_;generalize hvn:wd Cj pk=vn at*;go_wp2_with fail;have s6:=S.trans (S.Am.set (i:=0) rfl 2 (.string vn));have s7:Ak w (g.Ar R) _ ((DS (w.heap.size+1) ({Nd.of 115 with a:=⟨al,ai⟩,op:=vn}:Nd)::g.Ar R)++[DS w.heap.size (.of 0)]):=s6;refine(AeJ _ (Mn s7.Am HL)).mono ?_;rintro e w6 ⟨rfl,qh⟩;have s8:=s7.trans (Ak.quiet s7.Am qh);have hd6:=Hd.Bf s8.Bf;have c1:=hd6.c 1 Y;have Fb:=hd6.lt;clear hd6 s6 s7 qh S c3 c4 hvc v4_ AeJ;clear Jq KN Fa GG IG Cu A8 C6 Bv AX Cq Bi Nf Nc Nb YB;have KY:=Cs (AO s8.Am);obtain⟨Jq,KN,Fa,GG,IG⟩:=KY;obtain⟨Cu,A8,C6,Bv,AX,Cq,Bi⟩:=AI (Ak.Cn (AO s8.Am));have De:BM w6 w.heap.size #[.int .u8 0,i5 0,.string ⟨#[]⟩,.bool false,i5 0,.bool false,i5 0,.bool false,i5 0,i5 0,i5 0,i5 0,i5 0,i5 0] 110:=s8.Am.Au (i:=(g.Ar R).length+1) Bq;have Nf:∀i:Nat,w6.cell? ⟨w.heap.size,i,none⟩=(#[.int .u8 0,i5 0,.string ⟨#[]⟩,.bool false,i5 0,.bool false,i5 0,.bool false,i5 0,i5 0,i5 0,i5 0,i5 0,i5 0]:Array Value)[i]?:=De.cell;have Nc:=De.free;have Nb:=De.lt;have YB:=hid De;clear De;have S:=hid s8;clear s8;simp only[At.val];cases ab
 ·exact mak
 ·cases bb
  ·exact mak
  ·go_upto_region 41 with fail
   have t1:=S.Am.set (i:=0) rfl 5 (.bool bl);have t2:=t1.Am.set (i:=0) rfl 6 (i5 bi);have t3:Ak w (g.Ar R) _ ((DS (w.heap.size+1) ({Nd.of 115 with a:=⟨al,ai⟩,op:=vn,b:=⟨bl,bi⟩}:Nd)::g.Ar R)++[DS w.heap.size (.of 0)]):=S.trans (t1.trans t2);have s9:=t3.trans (Ak.alloc t3.Am (.cells #[.bool bl,i5 bi] 108));clear t1 t2 t3 Jq KN Fa GG IG Cu A8 C6 Bv AX Cq Bi Nf Nc Nb YB S c1 Fb;generalize (((w6.setCell {block:=w.heap.size+1,off:=5} (Value.bool bl)).setCell {block:=w.heap.size+1,off:=6} (Value.int IntKind.i64 bi)).alloc (Obj.cells #[Value.bool bl,Value.int IntKind.i64 bi] 108))=w7 at s9⊢;have uX:=Hd.Bf s9.Bf;have c1:=uX.c 1 Y;have Fb:=uX.lt;clear uX;have KY:=Cs (AO s9.Am);obtain⟨Jq,KN,Fa,GG,IG⟩:=KY;obtain⟨Cu,A8,C6,Bv,AX,Cq,Bi⟩:=AI (Ak.Cn (AO s9.Am));have De:BM w7 w.heap.size #[.int .u8 0,i5 0,.string ⟨#[]⟩,.bool false,i5 0,.bool false,i5 0,.bool false,i5 0,i5 0,i5 0,i5 0,i5 0,i5 0] 110:=s9.Am.Au (i:=(g.Ar R).length+1) Bq;have Nf:∀i:Nat,w7.cell? ⟨w.heap.size,i,none⟩=(#[.int .u8 0,i5 0,.string ⟨#[]⟩,.bool false,i5 0,.bool false,i5 0,.bool false,i5 0,i5 0,i5 0,i5 0,i5 0,i5 0]:Array Value)[i]?:=De.cell;have Nc:=De.free;have Nb:=De.lt;have YB:=hid De;clear De;have S:=hid s9;clear s9;have AF:=AJ.out;have Hn:=hid (show R.node l=R.JA ({Nd.of 115 with a:=⟨al,ai⟩,op:=vn,b:=⟨bl,bi⟩}:Nd) (wd l 1) by simpa using AF);clear AF;go_wp2_with fail;refine(SE (wd l 1) _ g R (w.heap.size+1) ({Nd.of 115 with a:=⟨al,ai⟩,op:=vn,b:=⟨bl,bi⟩}:Nd) (AO S.Am) HL).mono ?_;intro e w8 hm;unfold lO at hm;cases Zf:R.JA ({Nd.of 115 with a:=⟨al,ai⟩,op:=vn,b:=⟨bl,bi⟩}:Nd) (wd l 1) with
   | error c=>
    rw[Zf] at hm;obtain⟨rfl,Q0⟩:=hm;have AJ:=hid (Hn.trans Zf);have s3:=S.trans (Ak.quiet S.Am Q0);clear Zf Q0 Jq KN Fa GG IG Cu A8 C6 Bv AX Cq Bi Nf Nc Nb YB S Hn;have KY:=Cs (AO s3.Am);obtain⟨Jq,KN,Fa,GG,IG⟩:=KY;obtain⟨Cu,A8,C6,Bv,AX,Cq,Bi⟩:=AI (Ak.Cn (AO s3.Am));have De:BM w8 w.heap.size #[.int .u8 0,i5 0,.string ⟨#[]⟩,.bool false,i5 0,.bool false,i5 0,.bool false,i5 0,i5 0,i5 0,i5 0,i5 0,i5 0] 110:=s3.Am.Au (i:=(g.Ar R).length+1) Bq;have Nf:∀i:Nat,w8.cell? ⟨w.heap.size,i,none⟩=(#[.int .u8 0,i5 0,.string ⟨#[]⟩,.bool false,i5 0,.bool false,i5 0,.bool false,i5 0,i5 0,i5 0,i5 0,i5 0,i5 0]:Array Value)[i]?:=De.cell;have Nc:=De.free;have Nb:=De.lt;have YB:=hid De;clear De;have S:=hid s3;clear s3;go_wp2;refine BQ (x:=({Nd.of 115 with a:=⟨al,ai⟩,op:=vn,b:=⟨bl,bi⟩}:Nd)) (c:=c) (yb:=w.heap.size) rfl rfl ?_ ?_
    ·exact BM.Ei YB (.int .u8 115) (i5 0) (.string vn) (.bool al) (i5 ai) (.bool bl) (i5 bi) (.bool false) (i5 0) (i5 0) (i5 0) (i5 0) (i5 0) (i5 0)
    rw[AJ.out];refine⟨_,rfl,Ka S.Bf (LE _) ?_⟩;exact Av.Ei _ _ _ _ _ _ _ _ _ _ _ _ _ _
   | ok v3=>
    obtain⟨R3,x3⟩:=v3;rw[Zf] at hm;obtain⟨rfl,g3,WC,ey,dV⟩:=hm;have AJ:=hid (Hn.trans Zf);have s3:=S.trans (Ak.frame S.Am dV);have HL3:=hid ey;rw[<-WC];have HRB:=hid WC;clear WC;clear ey Zf dV Jq KN Fa GG IG Cu A8 C6 Bv AX Cq Bi Nf Nc Nb YB S Hn;have KY:=Cs (AO s3.Am);obtain⟨Jq,KN,Fa,GG,IG⟩:=KY;obtain⟨Cu,A8,C6,Bv,AX,Cq,Bi⟩:=AI (Ak.Cn (AO s3.Am));have De:BM w8 w.heap.size #[.int .u8 0,i5 0,.string ⟨#[]⟩,.bool false,i5 0,.bool false,i5 0,.bool false,i5 0,i5 0,i5 0,i5 0,i5 0,i5 0] 110:=s3.Am.Au (i:=(g3.Ar R3).length+1) Bq;have Nf:∀i:Nat,w8.cell? ⟨w.heap.size,i,none⟩=(#[.int .u8 0,i5 0,.string ⟨#[]⟩,.bool false,i5 0,.bool false,i5 0,.bool false,i5 0,i5 0,i5 0,i5 0,i5 0,i5 0]:Array Value)[i]?:=De.cell;exact mar
theorem n9 {w:ByteArray} (h:Br (w::l)=true):
  (bs w=CY->(w::l).length=3\/((w::l).length=5/\0<=A6 Dx (wd (w::l) 3)))/\(bs w=CF->2 < (w::l).length)/\(bs w=CZ->2 < (w::l).length)/\((bs w=DI\/bs w=Kb\/bs w=Dp)->1 < (w::l).length):=by
 refine⟨fun hw=> ?_,fun hw=> ?_,fun hw=> ?_,fun hw=> ?_⟩
 ·simp[Br,Fh,GC,Hj,hw,CY,AK,AE,Ey,AH] at h;rcases h.2 with h2 | h2
  ·left;simp;omega
  ·right;refine⟨by simp;omega,?_⟩;rw[Hj];exact h2.2.1
 ·simp[Br,Fh,GC,Hj,hw,CF,CY,AK,AE,Ey,AH] at h;have:=h.1.2;simp;omega
 ·simp[Br,Fh,GC,Hj,hw,CZ,CF,CY,AK,AE,Ey,AH] at h;have:=h.1.2;simp;omega
 ·rcases hw with hw | hw | hw <;>simp[Br,Fh,GC,Hj,hw,Dp,DI,Kb,CZ,CF,CY,AK,AE,Ey,AH] at h <;>simp <;>omega
theorem YJ (l:Ws) (lw:Value) (w:World) (g:RG) (R:RS) (n:Nat) (h:Az w (g.Ar R)) (hL:Dq g R) (hI:Mo R n) (hT:R.p.Aa≠[])
  (hw:Sl w (fun b=>b∉D4 (g.Ar R)) lw (A3 l)) (hs:∀a,a∈l->a.size<=maxLen) (Bi:l≠[]) (hl:Br l=true)
  (h1:¬bs (wd l 0)=AK) (h2:¬bs (wd l 0)=AE) (h3:¬bs (wd l 0)=Ey):
  Calls prog 61 #[i6 g.rb,lw] w (OW (R.node l) g R w):=by
 obtain⟨a,r,rfl⟩:=Qbx Bi;obtain⟨l1,l2,l3,l4⟩:=n9 hl;rcases Wo a r h1 h2 h3 hl with hk | hk | hk | hk | hk | hk | hk
 ·rcases l1 hk with h5 | ⟨h5,h6⟩
  ·exact gL _ lw w g R h hL hw hs hk h5
  ·exact gK _ lw w g R h hL hw hs hk h5 h6
 ·exact mJ _ lw w g R h hL hw hs hk (l2 hk) n hI hT
 ·exact mG _ lw w g R h hL hw hs hk (l3 hk) n hI hT
 ·exact mH _ lw w g R h hL hw hs hk (l4 (.inl hk))
 ·exact ar _ lw w g R h hL hw hs hk EQ
 ·exact rV _ lw w g R h hL hw hs hk (l4 (.inr (.inl hk)))
 ·exact gM _ lw w g R h hL hw hs hk (l4 (.inr (.inr hk)))
def FE (res:Except Int RS) (g:RG) (R:RS) (w:World) (e:Ending) (w':World):Prop:=
 match res with
 | .error c=>e= .returned (i5 c)/\Av (D4 (g.Ar R)) w w'
 | .ok R'=>e= .returned (i5 0)/\∃g',g'.rb=g.rb/\Dq g' R'/\Ak w (g.Ar R) w' (g'.Ar R')
theorem RN:(prog.info? 3).map (fun i=>(i.zero,i.size,i.bytes))=some (some (i5 0),1,8):=Fd
theorem gH (l:Ws) (lw:Value) (w:World) (g:RG) (R:RS) (n:Nat) (h:Az w (g.Ar R)) (hL:Dq g R) (hI:Mo R n)
  (hw:Sl w (fun b=>b∉D4 (g.Ar R)) lw (A3 l)) (hs:∀a,a∈l->a.size<=maxLen) (hl:l.length=2\/(l.length=3/\Fx (bs (wd l 2)) 6=true)):
  Calls prog 59 #[i6 g.rb,lw] w (FE (R.D6 l) g R w):=by
 obtain⟨wb,woff,wcap,rfl,hd⟩:=Fz hw Y;obtain⟨j0,hj,KW,Fo,K7⟩:=info_parts Uc;obtain⟨i0,hi,Wx,dU,aW⟩:=info_parts RN;have hp:=fun w' (k:Av [] w w')=>Gm R.As (wd l 1) (.slice g.s.p R.As.length g.s.c) w' _ ((Sl.M3 (h.row (i:=2) rfl)).Bf k EQ)
 have AF:R.D6 l=R.D6 l:=rfl
 conv at AF=>rhs;unfold RS.D6
 generalize hpk:A6 R.As (wd l 1)=pk at*;have c1:=hd.c 1 Y;have Mu:(0:Int) < (l.length:Int):=Y
 have KL:(1:Int) < (l.length:Int):=Y
 obtain⟨Cu,A8,C6,Bv,AX,Cq,Bi⟩:=AI h;have Gu:=hd.n0;have K8:=hd.n1;have Fb:=hd.lt;unfold maxLen at K8;have H:=hid h;have HL:=hid hL;have HI:=hid hI;have Hp:=hid hp;have Hs:=hid hs;have Hd:=hid hd;clear h hL hI hp hw hpk hs hd;by_cases ht:R.p.Aa=[]
 ·have ht0:¬(0:Int) < (R.p.Aa.length:Int):=by rw[ht];decide
  rw[I (fun h=>h ht)] at AF;have Ht:=hid ht;clear ht;by_cases hk:0<=pk
  ·rw[In hk] at AF;have AJ:=hid AF;clear AF;go_enter func59,ntmps59;go_upto_region 3 with fail
   go_quiet (((go_at_call 58);(refine Calls.quiet_of_same (Hp _ ((Av.refl _ _).drewN _)))))
   go_wp2;go_ret;rw[AJ.out];exact⟨rfl,((Av.refl _ _).drewN _)⟩
  ·rw[I hk] at AF;have LH:pk < 0:=Y
   have Ia:∃z:Int,0 < z/\z<=6/\R.D6 l= .ok {R with As:=R.As++[wd l 1],first:=R.first++[R.p.cells],size:=R.size++[z],p:={R.p with cells:=R.p.cells+z}}/\
     ((l.length=2/\z=1)\/(l.length=3/\(number (bs (wd l 2))).getD 0=z)):=by
    rcases hl with h2 | ⟨h3,h4⟩
    ·exact⟨1,Y,Y,by rw[AF];simp[h2],.inl ⟨h2,rfl⟩⟩
    ·unfold Fx at h4;cases p9:number (bs (wd l 2)) with
     | none=>rw[p9] at h4;cases h4
     | some v=>
      rw[p9] at h4;simp only[Qaf,Qad] at h4;exact⟨v,Y,Y,by rw[AF];simp[h3,p9],.inr ⟨h3,EQ⟩⟩
   obtain⟨z,hz,hz6,hok,hlz⟩:=Ia;have AJ:=hid hok;clear AF hok hl hk;have hsn:R.As.length<=2500:=by have:=HI.bn;have:=HI.nn;omega
   have hfn:R.first.length<=2500:=by rw[HL.out.fl];exact hsn
   have hzn:R.size.length<=2500:=by rw[HL.out.zl];exact hsn
   have Ui:=HI.c0;have KM:R.p.cells<=15000:=by have:=HI.c1;omega
   go_enter func59,ntmps59;go_upto_region 3 with fail
   go_quiet (((go_at_call 58);(refine Calls.quiet_of_same (Hp _ ((Av.refl _ _).drewN _)))))
   go_upto_if 28 with fail
   go_cut [6] (fun q w'=>w'=w.drewN nq/\q= i5 z)
   case first=>
    rcases hlz with⟨h2,rfl⟩ | ⟨h3,h4⟩
    ·have LG:¬(2:Int) < (l.length:Int):=Y
     clear h2;go_wp2_with fail;all_goals go_meet
     exact⟨rfl,rfl⟩
    ·have LG:(2:Int) < (l.length:Int):=Y
     have c2:=Hd.c 2 Y;clear h3;have oB:=fun w=>aJ (wd l 2) w (Iy Hs 2)
     rw[h4] at oB;have AcH:=hid oB;clear oB h4;go_wp2_with fail;refine(AcH _).mono ?_;rintro e w' ⟨rfl,rfl⟩;go_wp2_with fail;all_goals go_meet
     exact⟨rfl,rfl⟩
   case rest=>
    obtain⟨hwq,rfl⟩:=hcut;obtain rfl:=hwq;have s1:Ak w (g.Ar R) (w.drewN nq) (g.Ar R):=Ak.quiet H ((Av.refl _ _).drewN _);clear Cu A8 C6 Bv AX Cq Bi c1 Fb Hp;have Ab5:1 < l.length:=Y
    generalize w.drewN nq=w1 at s1⊢;have c1:=(Hd.Bf s1.Bf).c 1 Ab5;have Fb:=(Hd.Bf s1.Bf).lt;obtain⟨Cu,A8,C6,Bv,AX,Cq,Bi⟩:=AI s1.Am;have S:=hid s1;clear s1;go_upto_region 9 with fail
    refine Ap (l:=[(0,true),(1,true),(2,true),(3,true),(4,true),(5,true),(6,true),(7,true),(8,false),(9,false),(10,true),(11,true),(12,false)]) (fun W=>W.cell? ⟨g.rb,1,none⟩=some (.slice g.s.p R.As.length g.s.c)/\W.cell? ⟨wb,woff+1,none⟩=some (.string (wd l 1))) 12 ?_ ?_
    ·exact mbq
    refine detE ?_;intro K hK;refine hK _ _ (fun _=>⟨by go_simp,by go_simp⟩) ?_;refine Ai rfl (fun K hK=> ?_);refine B5 16 _ _ _ j0 _ #[.string (wd l 1)] _ S.Am (k:=2) rfl Do Do underlying90 hj KW Fo K7 rfl Y Do Do rfl (by simp[Value.oneCell']) (by unfold maxLen;omega) Y ?_;intro g6 AZ w6 AD _;rw[TO] at AD;have z1:w6.cell? ⟨g.rb,1,none⟩=some (.slice g.s.p R.As.length g.s.c):=(AD.Am.Au (i:=0) rfl).cell 1;have z2:=(Hd.Bf (S.trans AD).Bf).c 1 Ab5;have zf:=(AD.Am.Au (i:=0) rfl).free 1;have zl:=(AD.Am.Au (i:=0) rfl).lt;refine hK _ _ (fun _=>⟨z1,z2⟩) (D9 rfl ?_);simp only[FQ];refine detE ?_;intro K hK;refine hK _ _ (fun h=>UV rfl h) ?_;simp only[BB];clear z1 z2;have t1:=AD.Am.set (i:=0) rfl 1 (.slice (some ⟨g6,0,none⟩) (R.As.length+1) AZ);have s2:Ak w (g.Ar R) (w6.setCell ⟨g.rb,1,none⟩ (.slice (some ⟨g6,0,none⟩) (R.As.length+1) AZ)) (RG.Ar {g with s:=⟨some ⟨g6,0,none⟩,AZ⟩} {R with As:=R.As++[wd l 1]}):=by
     have e:(R.As++[wd l 1]).length=R.As.length+1:=EQ
     exact ma1
    clear t1 AD Cu A8 C6 Bv AX Cq Bi c1 Fb S zf zl;generalize w6.setCell {block:=g.rb,off:=1} (Value.slice (some {block:=g6,off:=0}) (R.As.length+1) AZ)=w2 at s2⊢;have c1:=(Hd.Bf s2.Bf).c 1 Ab5;have Fb:=(Hd.Bf s2.Bf).lt;obtain⟨Cu,A8,C6,Bv,AX,Cq,Bi⟩:=AI s2.Am;have S:=hid s2;clear s2;go_upto_region 10 with fail
    refine Ap (l:=[(0,true),(1,true),(2,true),(3,true),(4,true),(5,true),(6,true),(7,true),(8,true),(9,true),(10,true),(11,true),(12,false),(13,false),(14,true),(15,true),(16,false)]) (fun W=>W.cell? ⟨g.rb,2,none⟩=some (.slice g.f.p R.first.length g.f.c)/\W.cell? ⟨g.rb,0,none⟩=some (i6 g.pb)/\W.cell? ⟨g.pb,1,none⟩=some (i5 R.p.cells)) 16 ?_ ?_
    ·exact mck
    refine detE ?_;intro K hK;refine hK _ _ (fun _=>⟨by go_simp,by go_simp,by go_simp⟩) ?_;refine Ai rfl (fun K hK=> ?_);refine B5 8 _ _ _ i0 _ #[i5 R.p.cells] _ S.Am (k:=3) rfl Do Do underlying29 hi Wx dU aW rfl Y Do Do rfl (by simp[Value.oneCell']) (show R.first.length+1<=maxLen by unfold maxLen;omega) (show(R.first.length+1)*8<=_ by omega) ?_;intro g7 Se w7 AD _;rw[Ub] at AD;have z1:w7.cell? ⟨g.rb,2,none⟩=some (.slice g.f.p R.first.length g.f.c):=(AD.Am.Au (i:=0) rfl).cell 2;have z2:w7.cell? ⟨g.rb,0,none⟩=some (i6 g.pb):=(AD.Am.Au (i:=0) rfl).cell 0;have z3:w7.cell? ⟨g.pb,1,none⟩=some (i5 R.p.cells):=(AD.Am.Au (i:=1) rfl).cell 1;have zf:w7.frozen? ⟨g.rb,2,none⟩=false:=(AD.Am.Au (i:=0) rfl).free 2;have zl:g.rb < w7.heap.size:=(AD.Am.Au (i:=0) rfl).lt;refine hK _ _ (fun _=>⟨z1,z2,z3⟩) (D9 rfl ?_);simp only[FQ];refine detE ?_;intro K hK;refine hK _ _ (fun h=>UV rfl h) ?_;simp only[BB];clear z1 z2 z3;have t1:=AD.Am.set (i:=0) rfl 2 (.slice (some ⟨g7,0,none⟩) (R.first.length+1) Se);have s3:Ak w (g.Ar R) (w7.setCell ⟨g.rb,2,none⟩ (.slice (some ⟨g7,0,none⟩) (R.first.length+1) Se)) (RG.Ar {g with s:=⟨some ⟨g6,0,none⟩,AZ⟩,f:=⟨some ⟨g7,0,none⟩,Se⟩} {R with As:=R.As++[wd l 1],first:=R.first++[R.p.cells]}):=by
     have e:(R.first++[R.p.cells]).length=R.first.length+1:=EQ
     exact ma1
    clear t1 AD Cu A8 C6 Bv AX Cq Bi c1 Fb S zf zl;generalize w7.setCell {block:=g.rb,off:=2} (Value.slice (some {block:=g7,off:=0}) (R.first.length+1) Se)=w3 at s3⊢;obtain⟨Cu,A8,C6,Bv,AX,Cq,Bi⟩:=AI s3.Am;have S:=hid s3;clear s3;go_upto_region 12 with(first | (at_builtin;refine B6 8 _ _ _ i0 _ #[i5 z] _ S.Am (k:=4) rfl Do Do underlying29 hi Wx dU aW rfl Y Do Do rfl (by simp[Value.oneCell']) (show R.size.length+1<=maxLen by unfold maxLen;omega) (show(R.size.length+1)*8<=_ by omega) ?_;intro g8 UP w8 AD _;rw[Ub] at AD;have q1:=(AD.Am.Au (i:=0) rfl).cell;have q2:∀i:Nat,w8.frozen? ⟨g.rb,i,none⟩=false:=(AD.Am.Au (i:=0) rfl).free;have q3:g.rb < w8.heap.size:=(AD.Am.Au (i:=0) rfl).lt;have KT:=hid AD;clear AD Cu A8 C6 Bv AX Cq Bi))
    have AD:=KT.out;have t1:=AD.Am.set (i:=0) rfl 3 (.slice (some ⟨g8,0,none⟩) (R.size.length+1) UP);have s4:Ak w (g.Ar R) (w8.setCell ⟨g.rb,3,none⟩ (.slice (some ⟨g8,0,none⟩) (R.size.length+1) UP)) (RG.Ar {g with s:=⟨some ⟨g6,0,none⟩,AZ⟩,f:=⟨some ⟨g7,0,none⟩,Se⟩,z:=⟨some ⟨g8,0,none⟩,UP⟩} {R with As:=R.As++[wd l 1],first:=R.first++[R.p.cells],size:=R.size++[z]}):=by
     have e:(R.size++[z]).length=R.size.length+1:=EQ
     exact ma1
    clear t1 AD q1 q2 q3 S KT;generalize w8.setCell {block:=g.rb,off:=3} (Value.slice (some {block:=g8,off:=0}) (R.size.length+1) UP)=w4 at s4⊢;obtain⟨Cu,A8,C6,Bv,AX,Cq,Bi⟩:=AI s4.Am;have S:=hid s4;clear s4;have kJ:IntKind.i64.wrap (R.p.cells+z)=R.p.cells+z:=IntWalk.i64_in _ Y;go_upto_region 12 with fail
    refine Ap (l:=[(0,true),(1,true),(2,true),(3,true),(4,true),(5,true),(6,true),(7,true),(8,true),(9,true),(10,true),(11,true),(12,true),(13,true),(14,true),(15,false)]) (fun W=>W.cell? ⟨g.rb,0,none⟩=some (i6 g.pb)/\W.cell? ⟨g.pb,1,none⟩=some (i5 R.p.cells)) 15 ?_ ?_
    ·exact mbq
    refine detE ?_;intro K hK;refine hK _ _ (fun h=>UV rfl h) ?_;simp only[BB];have t1:=S.Am.set (i:=1) rfl 1 (i5 (R.p.cells+z));have s5:Ak w (g.Ar R) (w4.setCell ⟨g.pb,1,none⟩ (i5 (R.p.cells+z))) (RG.Ar {g with s:=⟨some ⟨g6,0,none⟩,AZ⟩,f:=⟨some ⟨g7,0,none⟩,Se⟩,z:=⟨some ⟨g8,0,none⟩,UP⟩} {R with As:=R.As++[wd l 1],first:=R.first++[R.p.cells],size:=R.size++[z],p:={R.p with cells:=R.p.cells+z}}):=S.trans t1;have s6:=s5.trans (Ak.drew s5.Am);go_wp2;go_ret;rw[AJ.out];exact⟨rfl,{g with s:=⟨some ⟨g6,0,none⟩,AZ⟩,f:=⟨some ⟨g7,0,none⟩,Se⟩,z:=⟨some ⟨g8,0,none⟩,UP⟩},rfl,⟨HL.cl,HL.dl,HL.ql,HL.tl,by simp[HL.out.fl],by simp[HL.out.zl],HL.ll⟩,s6⟩
 ·have ht0:(0:Int) < (R.p.Aa.length:Int):=by have:=Qae.2 ht;omega
  rw[In ht] at AF;have AJ:=hid AF;clear AF;go_enter func59,ntmps59;go_wp2_with fail;go_ret;rw[AJ.out];exact⟨rfl,Av.refl _ _⟩
end Go.Proofs.YtpdfifdlhpmofaaGreatDoor
