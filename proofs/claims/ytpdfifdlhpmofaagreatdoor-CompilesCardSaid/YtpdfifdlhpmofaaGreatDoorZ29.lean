/-
  Part 29 of the proof, packed by program out of R1, R2, R3, R4, R5.
-/
import Derived.Test.YtpdfifdlhpmofaaGreatDoorZ05
import Derived.Test.YtpdfifdlhpmofaaGreatDoorZ12
import Derived.Test.YtpdfifdlhpmofaaGreatDoorZ10
import Derived.Deep.CutBlock
import Derived.Test.YtpdfifdlhpmofaaGreatDoorZ07
set_option linter.unusedVariables false
set_option linter.unusedSimpArgs false
set_option maxHeartbeats 3200000
set_option maxRecDepth 100000
namespace Go.Proofs.YtpdfifdlhpmofaaGreatDoor
open Go.RowKit
open Go.Lib (hid)
def D0 (l:List Int):List Value:=l.map (Value.int .i64)
def GG (l:List Bool):List Value:=l.map Value.bool
def At.cells (a:At):List Value:=[.bool a.AL,.int .i64 a.v]
def At.val (a:At):Value:= .agg #[.bool a.AL,.int .i64 a.v]
def Nd.cells (x:Nd):List Value:=[.int .u8 x.kind,.int .i64 x.v,.string x.op,.bool x.a.AL,.int .i64 x.a.v,.bool x.b.AL,.int .i64 x.b.v,.bool x.A5.AL,.int .i64 x.A5.v,
  .int .i64 x.first,.int .i64 x.size,.int .i64 x.C2,.int .i64 x.n,.int .i64 x.Aj]
def Nd.val (x:Nd):Value:= .agg x.cells.toArray
def Bx (l:List Nd):List Value:=l.flatMap Nd.cells
structure RG where
 rb:Nat
 pb:Nat
 s:SG
 f:SG
 z:SG
 l:SG
 o:SG
 t:SG
 u:SG
 q:SG
 cv:List SG
 dv:List SG
def Dv (a:SG) (l:List Nd):Ob:= .row (.slice a.p l.length a.c) 110 14 l.length (Bx l)
def Jn (a:SG) (l:List ByteArray):Ob:= .row (.slice a.p l.length a.c) 9 1 l.length (AY l)
def L0 (a:SG) (l:List Int):Ob:= .row (.slice a.p l.length a.c) 3 1 l.length (D0 l)
def NA (l:List Nat):List Int:=l.map fun (k:Nat)=>(k:Int)
def NB (a:SG) (l:List Nat):Ob:= .row (.slice a.p l.length a.c) 3 1 l.length (D0 (NA l))
def CF (a:SG) (l:List Bool):Ob:= .row (.slice a.p l.length a.c) 4 1 l.length (GG l)
theorem PE (p:Option Addr) (c:Nat) (l:List ByteArray) (s:ByteArray):Ob.row (.slice p (l.length+1) c) 9 1 (l.length+1) (AY l++(#[.string s]:Array Value).toList)=Jn ⟨p,c⟩ (l++[s]):=by simp[Jn,AY]
theorem P4 (p:Option Addr) (c:Nat) (l:List Int) (s:Int):Ob.row (.slice p (l.length+1) c) 3 1 (l.length+1) (D0 l++(#[.int .i64 s]:Array Value).toList)=L0 ⟨p,c⟩ (l++[s]):=by simp[L0,D0]
theorem PW (p:Option Addr) (c:Nat) (l:List Nat) (s:Nat):Ob.row (.slice p (l.length+1) c) 3 1 (l.length+1) (D0 (NA l)++(#[.int .i64 (s:Int)]:Array Value).toList)=NB ⟨p,c⟩ (l++[s]):=by simp[NB,NA,D0]
theorem VU (p:Option Addr) (c:Nat) (l:List Bool) (s:Bool):Ob.row (.slice p (l.length+1) c) 4 1 (l.length+1) (GG l++(#[.bool s]:Array Value).toList)=CF ⟨p,c⟩ (l++[s]):=by simp[CF,GG]
def RG.Ax (g:RG) (R:RS):List Ob:=
 [.AP g.rb #[.pointer (some ⟨g.pb,0,none⟩),.slice g.s.p R.Aw.length g.s.c,.slice g.f.p R.first.length g.f.c,.slice g.z.p R.size.length g.z.c,.slice g.l.p R.AB.length g.l.c,.slice g.o.p R.Ai.length g.o.c,.int .i64 R.Am,.bool false,.int .i64 0] 94,
  .AP g.pb #[.slice g.t.p R.p.Aa.length g.t.c,.int .i64 R.p.cells,.slice g.u.p R.p.AD.length g.u.c,.slice g.q.p R.p.Cu.length g.q.c] 53,
  Jn g.s R.Aw,L0 g.f R.first,L0 g.z R.size,Jn g.l R.AB,NB g.o R.Ai,
  .row (.slice g.t.p R.p.Aa.length g.t.c) 72 1 R.p.Aa.length (BL g.cv R.p.Aa),
  .row (.slice g.u.p R.p.AD.length g.u.c) 51 1 R.p.AD.length (BL g.dv R.p.AD),
  CF g.q R.p.Cu]++(List.zipWith Dv g.cv R.p.Aa++List.zipWith CF g.dv R.p.AD)
structure Dl (g:RG) (R:RS):Prop where
 cl:g.cv.length=R.p.Aa.length
 dl:g.dv.length=R.p.AD.length
 ql:R.p.Cu.length=R.p.Aa.length
 tl:R.p.AD.length=R.p.Aa.length
 fl:R.first.length=R.Aw.length
 zl:R.size.length=R.Aw.length
 ll:R.AB.length≤4
def mV (w:World) (g:RG) (R:RS):Prop:=AK w (g.Ax R)∧Dl g R
structure lR (w:World) (g:RG) (R:RS):Prop where
 c:∀i:Nat,w.cell? ⟨g.rb,i,none⟩=(#[.pointer (some ⟨g.pb,0,none⟩),.slice g.s.p R.Aw.length g.s.c,.slice g.f.p R.first.length g.f.c,.slice g.z.p R.size.length g.z.c,.slice g.l.p R.AB.length g.l.c,.slice g.o.p R.Ai.length g.o.c,.int .i64 R.Am,.bool false,.int .i64 0]:Array Value)[i]?
 pc:∀i:Nat,w.cell? ⟨g.pb,i,none⟩=(#[.slice g.t.p R.p.Aa.length g.t.c,.int .i64 R.p.cells,.slice g.u.p R.p.AD.length g.u.c,.slice g.q.p R.p.Cu.length g.q.c]:Array Value)[i]?
 f:∀i:Nat,w.frozen? ⟨g.rb,i,none⟩=false
 pf:∀i:Nat,w.frozen? ⟨g.pb,i,none⟩=false
 lt:g.rb < w.heap.size
 pl:g.pb < w.heap.size
 ne:g.rb≠g.pb
theorem AG {w:World} {g:RG} {R:RS} (h:AK w (g.Ax R)):lR w g R where
 c:=(h.AP (i:=0) rfl).cell
 pc:=(h.AP (i:=1) rfl).cell
 f:=(h.AP (i:=0) rfl).free
 pf:=(h.AP (i:=1) rfl).free
 lt:=(h.AP (i:=0) rfl).lt
 pl:=(h.AP (i:=1) rfl).lt
 ne:=h.ne (i:=0) (j:=1) rfl rfl (by decide)
theorem Vr (s:ByteArray) (w:World) (hs:s.size≤maxLen):Calls Tryz.prog 86 #[.string s] w fun e w'=>e= .returned (.tuple #[.int .i64 ((number (bs s)).getD 0),.bool (number (bs s)).isSome])∧w'=w:=
 Jw s w hs
theorem HY (s:ByteArray) (w:World) (g:RG) (R:RS) (h:mV w g R) (hs:s.size≤maxLen):
  Calls Tryz.prog 87 #[.pointer (some ⟨g.rb,0,none⟩),.string s] w fun e w'=>e= .returned (.tuple #[(R.CA s).1.val,.bool (R.CA s).2])∧Av [] w w':=by
 have CR:=AG h.1;have Bi:=CR.lt;have cJ:=Sl.Lg (h.1.row (i:=5) rfl);have hn:=fun w=>Vr s w hs
 unfold RS.CA;generalize number (bs s)=n at*;have Hn:=hid hn;have hc:=CR.c;cases n with
 | some v=>
  clear hn cJ hc CR;go_enter Tryz.func87,Tryz.ntmps87;go_wp2_with (first | (go_at_call 86;refine(Hn.out _).mono ?_;rintro e w' ⟨rfl,rfl⟩));refine bodyPost_ret (v:= .tuple #[.agg #[.bool false,.int .i64 v],.bool true]) (by simp[results,Tryz.results87,go_sem]) rfl ⟨rfl,?_⟩;exact((Av.refl _ _).alloc _)
 | none=>
  have UU:=hid cJ;clear hn cJ CR;go_enter Tryz.func87,Tryz.ntmps87;go_wp2_with (first | (go_at_call 86;refine(Hn.out _).mono ?_;rintro e w' ⟨rfl,rfl⟩));refine(FH R.AB s (.slice g.l.p R.AB.length g.l.c) _ _ (UU.out.Bh ((Av.refl [] w).alloc _) (by simp))).mono ?_;rintro e w' ⟨rfl,rfl⟩;generalize Tw:Bf R.AB s=k;by_cases hk:0≤k
  ·have QQ:decide (0≤k)=true:=by simpa using hk
   go_wp2;refine bodyPost_ret (v:= .tuple #[.agg #[.bool true,.int .i64 k],.bool true]) (by simp[results,Tryz.results87,go_sem]) rfl ⟨by rw[Tw,QQ];rfl,?_⟩;exact((Av.refl _ _).alloc _)
  ·have QQ:decide (0≤k)=false:=by simpa using hk
   go_wp2;refine bodyPost_ret (v:= .tuple #[.agg #[.bool true,.int .i64 k],.bool false]) (by simp[results,Tryz.results87,go_sem]) rfl ⟨by rw[Tw,QQ];rfl,?_⟩;exact((Av.refl _ _).alloc _)
def Dw (b:Nat) (x:Nd):Ob:= .AP b x.cells.toArray 110
def aM (res:Except Int (RS×Nd)) (g:RG) (R:RS) (xb:Nat) (x:Nd) (w:World) (e:Ending) (w':World):Prop:=
 match res with
 | .error c=>e= .returned (.int .i64 c)∧Av [] w w'
 | .ok (R',x')=>e= .returned (.int .i64 0)∧∃g',g'.rb=g.rb∧Dl g' R'∧Ad w (Dw xb x::g.Ax R) w' (Dw xb x'::g'.Ax R')
theorem Vt {w:World} {b:Nat} {x:Nd} {T:TypeId} (h:BR w b x.cells.toArray T) (i:Nat):w.cell? ⟨b,i,none⟩=(#[.int .u8 x.kind,.int .i64 x.v,.string x.op,.bool x.a.AL,.int .i64 x.a.v,.bool x.b.AL,.int .i64 x.b.v,.bool x.A5.AL,.int .i64 x.A5.v,
  .int .i64 x.first,.int .i64 x.size,.int .i64 x.C2,.int .i64 x.n,.int .i64 x.Aj]:Array Value)[i]?:=h.cell i
structure lS (w:World) (xb:Nat) (g:RG) (x:Nd):Prop where
 c:∀i:Nat,w.cell? ⟨xb,i,none⟩=(#[.int .u8 x.kind,.int .i64 x.v,.string x.op,.bool x.a.AL,.int .i64 x.a.v,.bool x.b.AL,.int .i64 x.b.v,.bool x.A5.AL,.int .i64 x.A5.v,
   .int .i64 x.first,.int .i64 x.size,.int .i64 x.C2,.int .i64 x.n,.int .i64 x.Aj]:Array Value)[i]?
 f:∀i:Nat,w.frozen? ⟨xb,i,none⟩=false
 lt:xb < w.heap.size
 n1:xb≠g.rb
 n2:xb≠g.pb
theorem Cj {w:World} {xb:Nat} {x:Nd} {g:RG} {R:RS} (h:AK w (Dw xb x::g.Ax R)):lS w xb g x where
 c:=Vt (h.AP (i:=0) rfl)
 f:=(h.AP (i:=0) rfl).free
 lt:=(h.AP (i:=0) rfl).lt
 n1:=h.ne (i:=0) (j:=1) rfl rfl (by decide)
 n2:=h.ne (i:=0) (j:=2) rfl rfl (by decide)
theorem P6:(Tryz.prog.info? 9).map (fun i=>(i.zero,i.size,i.bytes))=some (some (.string ByteArray.empty),1,16):=by kernel_rfl
theorem Ad.Cd {w:World} {a:Ob} {L:List Ob} (h:AK w (a::L)):AK w L:=(Ad.drop (A:=[]) (B:=[a]) (C:=L) h).Al
theorem OV (s:ByteArray) (w:World) (g:RG) (R:RS) (xb:Nat) (x:Nd) (h:AK w (Dw xb x::g.Ax R)) (hL:Dl g R):
  Calls Tryz.prog 90 #[.pointer (some ⟨g.rb,0,none⟩),.pointer (some ⟨xb,0,none⟩),.string s] w (aM (R.I7 x s) g R xb x w):=by
 obtain⟨rb,pb,⟨sp,sc⟩,f,z,⟨lp,lc⟩,o,t,u,q,cv,dv⟩:=g;obtain⟨j0,hj,I9,EK,JW⟩:=info_parts P6;obtain⟨hc,_,qj,_,Bi,_,_⟩:=AG (Ad.Cd h);obtain⟨Ir,JE,Et,BQ,_⟩:=Cj h;have rF:=fun w' (k:Av [] w w')=>FH R.Aw s (.slice sp R.Aw.length sc) w' _ ((Sl.Lg (h.row (i:=3) rfl)).Bh k (by simp))
 have p9:=fun w' (k:Av [] w w')=>FH R.AB s (.slice lp R.AB.length lc) w' _ ((Sl.Lg (h.row (i:=6) rfl)).Bh k (by simp))
 unfold RS.I7;generalize JO:Bf R.Aw s=k1 at*;generalize Sk:Bf R.AB s=k2 at*;have nf:=hid rF;have pO:=hid p9;have H:=hid h;have HL:=hid hL;clear rF p9 h hL JO Sk;by_cases c1:0≤k1
 ·rw[if_pos c1];go_enter Tryz.func90,Tryz.ntmps90;go_wp2_with fail;refine(nf.out _ (Av.refl _ _)).mono ?_;rintro e w' ⟨rfl,rfl⟩;go_wp2;go_ret;exact⟨rfl,Av.refl _ _⟩
 ·rw[if_neg c1];have c1':k1 < 0:=by omega
  by_cases c2:0≤k2
  ·rw[if_pos c2];have c2':¬k2 < 0:=by omega
   go_enter Tryz.func90,Tryz.ntmps90;go_wp2_with fail;refine(nf.out _ (Av.refl _ _)).mono ?_;rintro e w' ⟨rfl,rfl⟩;go_wp2_with fail;refine(pO.out _ (Av.refl _ _)).mono ?_;rintro e w' ⟨rfl,rfl⟩;go_wp2;go_ret;exact⟨rfl,_,rfl,HL.out,H.out.set (i:=0) rfl 1 _⟩
  ·rw[if_neg c2];have c2':k2 < 0:=by omega
   by_cases c3:R.AB.length=4
   ·rw[if_pos c3];have c3':((R.AB.length:Int)==4)=true:=by rw[c3];rfl
    clear c3;go_enter Tryz.func90,Tryz.ntmps90;go_wp2_with fail;refine(nf.out _ (Av.refl _ _)).mono ?_;rintro e w' ⟨rfl,rfl⟩;go_wp2_with fail;refine(pO.out _ (Av.refl _ _)).mono ?_;rintro e w' ⟨rfl,rfl⟩;go_wp2;go_ret;exact⟨rfl,Av.refl _ _⟩
   ·rw[if_neg c3];have c3':((R.AB.length:Int)==4)=false:=by rw[beq_eq_false_iff_ne];omega
    have C3:=hid c3;clear c3;go_enter Tryz.func90,Tryz.ntmps90;go_wp2_with fail;refine(nf.out _ (Av.refl _ _)).mono ?_;rintro e w' ⟨rfl,rfl⟩;go_wp2_with fail;refine(pO.out _ (Av.refl _ _)).mono ?_;rintro e w' ⟨rfl,rfl⟩;go_wp2_with (first | (at_builtin;refine CH 16 _ _ _ j0 _ #[.string s] _ H.out (k:=6) rfl (by rfl) (by rfl) Tryz.underlying90 hj I9 EK JW rfl (by omega) (by rfl) (by rfl) rfl (by simp[Value.oneCell']) (by have:=HL.out.ll;unfold maxLen;omega) (by have:=HL.out.ll;omega) ?_;intro g6 Bb w6 AI Xi;rw[PE] at AI;have q1:=(AI.Al.AP (i:=1) rfl).cell;have q2:=(AI.Al.AP (i:=1) rfl).free;have q3:=Vt (AI.Al.AP (i:=0) rfl);have q4:=(AI.Al.AP (i:=0) rfl).free;have KS:=hid AI;clear AI Xi hc JE Ir qj));go_ret;have t1:=KS.out.Al.set (i:=1) rfl 4 (.slice (some ⟨g6,0,none⟩) (R.AB.length+1) Bb);have t2:=t1.Al.set (i:=0) rfl 1 (.int .i64 R.AB.length);have t3:=KS.out.trans (t1.trans t2);refine⟨rfl,⟨rb,pb,⟨sp,sc⟩,f,z,⟨some ⟨g6,0,none⟩,Bb⟩,o,t,u,q,cv,dv⟩,rfl,⟨HL.out.cl,HL.out.dl,HL.out.ql,HL.out.tl,HL.out.fl,HL.out.zl,?_⟩,?_⟩;rotate_left
    ·have e:(R.AB++[s]).length=R.AB.length+1:=by simp
     unfold RG.Ax;rw[e];exact t3
    have:=HL.out.ll;have:=C3.out;simp only[List.length_append,List.length_singleton] at*;omega
def tJ (res:RS×Nd×Bool) (g:RG) (R:RS) (xb:Nat) (x:Nd) (w:World) (e:Ending) (w':World):Prop:=
 e= .returned (.bool res.2.2)∧∃g',g'.rb=g.rb∧Dl g' res.1∧Ad w (Dw xb x::g.Ax R) w' (Dw xb res.2.1::g'.Ax res.1)
theorem UO (l:List Bool) (k:Nat) (b:Bool):(GG l).set k (.bool b)=GG (l.set k b):=by simp[GG,List.map_set]
theorem KA {α β:Type} {xs:List α} {ys:List β} (h:xs.length=ys.length) (hy:ys≠[]):∃p a q b,xs=p++[a]∧ys=q++[b]∧p.length=q.length:=by
 rcases List.eq_nil_or_concat ys with h0 | ⟨q,b,h0⟩
 ·exact absurd h0 hy
 ·rcases List.eq_nil_or_concat xs with h1 | ⟨p,a,h1⟩
  ·rw[h0,h1] at h;simp at h
  ·rw[List.concat_eq_append] at h0 h1;exact⟨p,a,q,b,h1,h0,by rw[h0,h1] at h;simpa using h⟩
theorem Z8 {w:World} {b:Nat} {l:List Int} (h:∀(i:Nat) (hi:i < (D0 l).length),w.cell? ⟨b,i,none⟩=some (D0 l)[i]) (k:Nat) (hk:k < l.length):w.cell? ⟨b,k,none⟩=some (.int .i64 (l.getD k 0)):=by
 rw[h k (by simpa[D0] using hk)];simp[D0,List.getD_eq_getElem?_getD,hk]
theorem Gm {w:World} {L:List Ob} (h:AK w L) {i j:Nat} {b c:Nat} {o:Obj} {e:TypeId} {s n m cap:Nat} {xs:List Value} (hi:L[i]?=some (.PN b o)) (hj:L[j]?=some (.row (.slice (some ⟨c,0,none⟩) m cap) e s n xs)) (ij:i≠j):b≠c:=by
 have:=h.nK hi hj ij;rintro rfl;exact this rfl
def RG.Vp (g:RG) (R:RS) (ds:List SG) (us:List (List Bool)):List Ob:=
 [.AP g.rb #[.pointer (some ⟨g.pb,0,none⟩),.slice g.s.p R.Aw.length g.s.c,.slice g.f.p R.first.length g.f.c,.slice g.z.p R.size.length g.z.c,.slice g.l.p R.AB.length g.l.c,.slice g.o.p R.Ai.length g.o.c,.int .i64 R.Am,.bool false,.int .i64 0] 94,
  .AP g.pb #[.slice g.t.p R.p.Aa.length g.t.c,.int .i64 R.p.cells,.slice g.u.p R.p.AD.length g.u.c,.slice g.q.p R.p.Cu.length g.q.c] 53,
  Jn g.s R.Aw,L0 g.f R.first,L0 g.z R.size,Jn g.l R.AB,NB g.o R.Ai,
  .row (.slice g.t.p R.p.Aa.length g.t.c) 72 1 R.p.Aa.length (BL g.cv R.p.Aa),
  .row (.slice g.u.p R.p.AD.length g.u.c) 51 1 R.p.AD.length (BL g.dv R.p.AD),
  CF g.q R.p.Cu]++(List.zipWith Dv g.cv R.p.Aa++List.zipWith CF ds us)
theorem fE {g:RG} {R:RS} {ds:List SG} {d:SG} {us:List (List Bool)} {u:List Bool} (hd:g.dv=ds++[d]) (hu:R.p.AD=us++[u]) (hl:ds.length=us.length):g.Ax R=g.Vp R ds us++[CF d u]:=by
 unfold RG.Ax RG.Vp;rw[hd,hu,List.zipWith_append hl];simp
theorem bg {g:RG} {R:RS} {ds:List SG} {d:SG} {us:List (List Bool)} {u:List Bool} (hd:g.dv=ds++[d]) (hu:R.p.AD=us++[u]) (hl:ds.length=us.length) (c:Nat):
  g.Ax (R.Fu c)=g.Vp R ds us++[CF d (u.set c true)]:=by
 have e:(R.Fu c).p.AD=us++[u.set c true]:=by unfold RS.Fu;simp[hu]
 rw[fE (R:=R.Fu c) hd e hl];congr 1;unfold RG.Vp;rw[e,hd,hu,Bw _ _ _ _ hl,Bw _ _ _ _ hl];simp only[List.length_append,List.length_singleton,List.length_set];rfl
theorem Mr {g:RG} {R:RS} (h:Dl g R) (hu:R.p.AD≠[]) (c:Int):Dl g (R.Fu c):=by
 rcases List.eq_nil_or_concat R.p.AD with h0 | ⟨q,b,h0⟩
 ·exact absurd h0 hu
 ·rw[List.concat_eq_append] at h0;have e:(R.Fu c).p.AD.length=R.p.AD.length:=by unfold RS.Fu;simp[h0]
  exact⟨h.cl,h.dl.trans e.symm,h.ql,e.trans h.tl,h.fl,h.zl,h.ll⟩
theorem X8 {w:World} {a:Ob} {g:RG} {R:RS} {ds:List SG} {d:SG} {us:List (List Bool)} {u:List Bool} {db dc c:Nat} (o:AK w (a::g.Ax R)) (hd:g.dv=ds++[d]) (hu:R.p.AD=us++[u]) (hl:ds.length=us.length)
  (Zb:Value.slice d.p u.length d.c= .slice (some ⟨db,0,none⟩) u.length dc) (hc:c < u.length):Ad w (a::g.Ax R) (w.setCell ⟨db,c,none⟩ (.bool true)) (a::g.Ax (R.Fu c)):=by
 have e:∀v:List Bool,v.length=u.length→CF d v= .row (.slice (some ⟨db,0,none⟩) u.length dc) 4 1 u.length (GG v):=fun v hv=>by
  unfold CF;rw[hv,Zb]
 rw[bg hd hu hl c];rw[fE hd hu hl] at o⊢;rw[e _ rfl] at o⊢;rw[e _ (by simp),←UO];exact AK.bz (A:=a::g.Vp R ds us) (B:=[]) o c (by simpa[GG] using hc) _
theorem Uc (s:ByteArray) (l:Ws) (lw:Value) (w:World) (g:RG) (R:RS) (xb:Nat) (x:Nd) (n:Nat) (h:AK w (Dw xb x::g.Ax R)) (hL:Dl g R) (hI:KL R n) (hT:R.p.Aa≠[])
  (hw:Sl w (fun b=>b∉En (Dw xb x::g.Ax R)) lw (AY l)) (hs:∀a,a∈l→a.size≤maxLen):
  Calls Tryz.prog 89 #[.pointer (some ⟨g.rb,0,none⟩),.pointer (some ⟨xb,0,none⟩),.string s,lw] w (tJ (R.cell x s l) g R xb x w):=by
 have rF:=fun w' (k:Av [] w w')=>FH R.Aw s (.slice g.s.p R.Aw.length g.s.c) w' _ ((Sl.Lg (h.row (i:=3) rfl)).Bh k (by simp))
 have rU:=Of R.Aw s;have CR:=AG (Ad.Cd h);have JN:=Cj h;have gI:Bf R.Aw s < 0→R.cell x s l=(R,x,false):=fun h=>by unfold RS.cell;simp[h]
 have gH:∀k:Nat,Bf R.Aw s=k→R.cell x s l=(let x:={x with first:=R.first.getD k 0,size:=R.size.getD k 0}
     let r:=R.Fu x.first
     if l.length=5 then
       let (a,ok):=r.CA (wd l 4)
       (r,{x with A5:=a},ok)
     else (r,x,true)):=fun k h=>by unfold RS.cell;simp only[h,show¬((k:Int) < 0) by omega,if_false,Int.toNat_natCast]
 generalize JO:Bf R.Aw s=k1 at*;have nf:=hid rF;clear rF JO;by_cases c1:k1 < 0
 ·rw[gI c1];clear rU hw gI gH;have hc:=CR.c;have Bi:=CR.lt;have H:=hid h;have HL:=hid hL;clear h hL hI hT JN CR;go_enter Tryz.func89,Tryz.ntmps89;go_wp2_with fail;refine(nf.out _ (Av.refl _ _)).mono ?_;rintro e w' ⟨rfl,rfl⟩;go_wp2;go_ret;exact⟨rfl,_,rfl,HL.out,Ad.refl H.out⟩
 ·obtain⟨k,rfl⟩:∃k:Nat,k1=k:=⟨k1.toNat,by omega⟩;have QP:k < R.Aw.length:=by rcases rU with h | ⟨_,h⟩ <;>omega
  clear rU;have rW:k < R.first.length:=by rw[hL.fl];exact QP
  have hkz:k < R.size.length:=by rw[hL.zl];exact QP
  have mx:=h.row (i:=4) rfl;have mw:=h.row (i:=5) rfl;obtain⟨fb,fc,vT,_,qh,AaB,AaA,ir,oR⟩:=AX mx (by omega);obtain⟨zb,zc,uP,_,hzl,Aae,Aad,gz,nS⟩:=AX mw (by omega);have hF:=Z8 ir k rW;have hZ:=Z8 gz k hkz;have AU:=gH k rfl;clear gI gH;have AaF:=hI.fi (R.first.getD k 0) (by rw[List.getD_eq_getElem?_getD,List.getElem?_eq_getElem rW];exact List.getElem_mem rW);have yA:(Dw xb x::g.Ax R)[4]?=some (.row (.slice (some ⟨fb,0,none⟩) R.first.length fc) 3 1 R.first.length (D0 R.first)):=by rw[←vT];rfl
  have yz:(Dw xb x::g.Ax R)[5]?=some (.row (.slice (some ⟨zb,0,none⟩) R.size.length zc) 3 1 R.size.length (D0 R.size)):=by rw[←uP];rfl
  have nxf:=Gm h (i:=0) (j:=4) rfl yA (by decide);have nxz:=Gm h (i:=0) (j:=5) rfl yz (by decide);generalize R.first.getD k 0=c at*
  generalize R.size.getD k 0=z at*;obtain⟨c,rfl⟩:∃m:Nat,c=m:=⟨c.toNat,by omega⟩;have Bg:=hid AU;clear AU;have hu:R.p.AD≠[]:=fun h0=>hT (List.eq_nil_of_length_eq_zero (by rw[←hL.tl,h0];rfl))
  obtain⟨ds,d,us,u,OM,ml,oS⟩:=KA hL.dl hu;have mq:=h.row (i:=9) rfl;obtain⟨ub,uc,u3,_,hul,Aah,Aag,gA,nZ⟩:=AX mq (by rw[ml];simp);have hD:w.cell? ⟨ub,us.length,none⟩=some (.slice d.p u.length d.c):=by
   rw[gA us.length (by rw[OM,ml,Bw _ _ _ _ oS,List.length_append,Cl _ _ oS];simp)];simp only[OM,ml,Bw _ _ _ _ oS];rw[List.getElem_append_right (by rw[Cl _ _ oS];omega)];simp
  have yM:(u.length:Int)=R.p.cells:=hI.tc u (by rw[ml];simp);have vX:c < u.length:=by omega
  have V5:(Dw xb x::g.Ax R)[9]?=some (.row (.slice (some ⟨ub,0,none⟩) R.p.AD.length uc) 51 1 R.p.AD.length (BL g.dv R.p.AD)):=by rw[←u3];rfl
  have nxu:=Gm h (i:=0) (j:=9) rfl V5 (by decide);have Qr:=fE OM ml oS;have FA:(Dw xb x::g.Ax R)[(Dw xb x::g.Vp R ds us).length]?=some (CF d u):=by rw[Qr];simp
  have mo:=h.row FA;obtain⟨db,dc,Zb,_,vV,AaD,AaC,iw,oU⟩:=AX mo (by omega);have hdb:w.cell? ⟨db,c,none⟩=some (.bool (u.getD c false)):=by
   rw[iw c (by simpa[GG] using vX)];simp[GG,List.getD_eq_getElem?_getD,vX]
  have VB:(Dw xb x::g.Ax R)[(Dw xb x::g.Vp R ds us).length]?=some (.row (.slice (some ⟨db,0,none⟩) u.length dc) 4 1 u.length (GG u)):=by rw[FA];unfold CF;rw[Zb]
  have nxd:xb≠db:=Gm h (i:=0) rfl VB (by unfold RG.Vp;simp only[List.length_cons,List.length_append];omega);have nrd:g.rb≠db:=Gm h (i:=1) rfl VB (by unfold RG.Vp;simp only[List.length_cons,List.length_append];omega);have ntl:R.p.AD.length=us.length+1:=by rw[ml];simp
  rw[hL.tl] at ntl;have nY:us.length≤2500:=by have:=hI.bn;have:=hI.nn;omega
  obtain⟨hc,Tu,_,_,Bi,CM,n12⟩:=CR;obtain⟨Ir,JE,Et,n1,n2⟩:=JN;rw[vT,uP] at hc;rw[u3,hL.tl,ntl] at Tu;rw[Zb] at hD;have AaI:=hid Qr;have H:=hid h;have HL:=hid hL;have HI:=hid hI;have HT:=hid hT;have Hw:=hid hw;have xK:=hid VB;have Hdd:=hid Zb;have xQ:=hid OM;have sZ:=hid ml;have Hdl:=hid oS;clear Qr h hL hI hT hw VB FA Zb OM ml oS V5 yz yA mx mw mq mo ir gz gA iw vT uP u3 hu oR nS nZ;go_enter Tryz.func89,Tryz.ntmps89;go_wp2_with fail;refine(nf.out _ (Av.refl _ _)).mono ?_;rintro e w' ⟨rfl,rfl⟩;go_upto_region 7 with fail
  have hcq:(0:Int)≤(c:Int):=Int.natCast_nonneg _;have hu1:(us.length:Int) < ((us.length:Int)+1):=by omega
  have AaE:(c:Int) < (u.length:Int):=by omega
  refine Ao (l:=[(0,true),(1,true),(2,true),(3,true),(4,true),(5,true),(6,true),(7,true),(8,true),(9,true),(10,true),(11,true),(12,true),(13,true),(14,true),(15,false)]) (fun W=>W.cell? ⟨g.rb,0,none⟩=some (.pointer (some ⟨g.pb,0,none⟩))∧W.cell? ⟨g.pb,2,none⟩=some (.slice (some ⟨ub,0,none⟩) (us.length+1) uc)∧
    W.cell? ⟨ub,us.length,none⟩=some (.slice (some ⟨db,0,none⟩) u.length dc)∧W.cell? ⟨xb,9,none⟩=some (.int .i64 c)) 15 (by kernel_rfl) (by kernel_rfl) (by kernel_rfl) (by kernel_rfl) (by kernel_rfl) (fun c a d v w h=>by cases d <;>exact h) ?_ ?_
  ·exact⟨by go_simp,by go_simp,by go_simp,by go_simp⟩
  repeat
   refine Ak (v:= ?_) rfl rfl rfl (fun W hW=> ?_) ?_;rotate_left
   ·obtain⟨s1,s2,s3,s4⟩:=hW;go_simp;rfl
   simp only[Bo]
  refine Ab rfl (fun K hK=> ?_);go_simp;refine hK _ _ (fun h=>absurd rfl h) ?_;simp only[A0];have t1:=H.out.set (i:=0) rfl 9 (.int .i64 c);have t2:=t1.Al.set (i:=0) rfl 10 (.int .i64 z);have t3:Ad w' (Dw xb x::g.Ax R) _ (Dw xb {x with first:=c,size:=z}::g.Ax (R.Fu c)):=t1.trans (t2.trans (X8 (a:=Dw xb {x with first:=c,size:=z}) t2.Al xQ.out sZ.out Hdl.out Hdd.out vX));have t4:=t3.trans (Ad.drew t3.Al);clear t1 t2 t3;have DK:=Hw.out.Bh t4.Bh (fun b hb=>hb);clear hc Tu Ir JE Bi CM n12 n1 n2 hZ hF hD hdb oU hul vV qh hzl Et nf Hw H;generalize (((w'.setCell {block:=xb,off:=9} (Value.int IntKind.i64 ↑c)).setCell {block:=xb,off:=10} (Value.int IntKind.i64 z)).setCell {block:=db,off:=c} (Value.bool true)).drew=w1 at t4 DK⊢;obtain⟨hc,_,_,_,Bi,_,_⟩:=AG (Ad.Cd t4.Al);obtain⟨Ir,JE,Et,n1,_⟩:=Cj t4.Al;have T4:=hid t4;clear t4;obtain⟨qU,⟨rfl,qT⟩ | ⟨wb,woff,wcap,rfl,w1_,w2_,w3_,w4_,w5_⟩⟩:=DK
  ·have Pb:l.length=0:=by rw[←Cy,qT];rfl
   have AU:R.cell x s l=(R.Fu c,{x with first:=c,size:=z},true):=by rw[Bg.out];simp[Pb]
   have Hr:=hid AU;have gY:((0:Int)==5)=false:=rfl;clear Bg AU qT Pb;go_wp2;go_ret;rw[Hr.out];exact⟨rfl,g,rfl,Mr HL.out (by rw[sZ.out];simp) c,T4.out⟩
  ·rw[Cy] at qU w1_⊢;unfold maxLen at qU w2_;by_cases hl:l.length=5
   ·have gY:((l.length:Int)==5)=true:=by rw[hl];rfl
    have nV:=Sl.Kl w5_ 4 (by omega);have AU:R.cell x s l=((R.Fu c),{x with first:=c,size:=z,A5:=((R.Fu c).CA (wd l 4)).1},((R.Fu c).CA (wd l 4)).2):=by rw[Bg.out];simp[hl]
    have Hr:=hid AU;have mG:(4:Int) < (l.length:Int):=by omega
    clear Bg AU w5_ hl;go_wp2_with fail;refine(HY (wd l 4) _ g (R.Fu c) ⟨Ad.Cd T4.out.Al,Mr HL.out (by rw[sZ.out];simp) c⟩ (GO hs 4)).mono ?_;rintro e w2 ⟨rfl,CY⟩;have vh:=Hr.out;clear Hr;generalize (R.Fu c).CA (wd l 4)=av at vh⊢;obtain⟨⟨al,ai⟩,ab⟩:=av;have Hr:=hid vh;clear vh;have t5:=T4.out.trans (Ad.quiet T4.out.Al CY);clear hc Ir JE Bi Et n1 T4 CY nV w4_;obtain⟨hc,_,_,_,Bi,_,_⟩:=AG (Ad.Cd t5.Al);obtain⟨Ir,JE,Et,n1,_⟩:=Cj t5.Al;have T5:=hid t5;clear t5;simp only[At.val];go_wp2;go_ret;have t7:=T5.out.Al.set (i:=0) rfl 7 (.bool al);have t8:=t7.Al.set (i:=0) rfl 8 (.int .i64 ai);have t9:=Ad.alloc t8.Al (.cells #[.bool al,.int .i64 ai] 108);rw[Hr.out];exact⟨rfl,g,rfl,Mr HL.out (by rw[sZ.out];simp) c,T5.out.trans (t7.trans (t8.trans t9))⟩
   ·have gY:((l.length:Int)==5)=false:=by rw[beq_eq_false_iff_ne];omega
    have AU:R.cell x s l=(R.Fu c,{x with first:=c,size:=z},true):=by rw[Bg.out];simp[hl]
    have Hr:=hid AU;clear Bg AU hl w5_;go_wp2;go_ret;rw[Hr.out];exact⟨rfl,g,rfl,Mr HL.out (by rw[sZ.out];simp) c,T4.out⟩
def Mo (res:Except Int (RS×Nd)) (g:RG) (R:RS) (w:World) (e:Ending) (w':World):Prop:=
 match res with
 | .error c=>∃x:Nd,e= .returned (.tuple #[x.val,.int .i64 c])∧Av (En (g.Ax R)) w w'
 | .ok (R',x')=>e= .returned (.tuple #[x'.val,.int .i64 0])∧∃g',g'.rb=g.rb∧Dl g' R'∧Ad w (g.Ax R) w' (g'.Ax R')
def dT:Array Value:= #[.int .u8 0,.int .i64 0,.string ⟨#[]⟩,.bool false,.int .i64 0,.bool false,.int .i64 0,.bool false,.int .i64 0,.int .i64 0,.int .i64 0,.int .i64 0,.int .i64 0,.int .i64 0]
theorem BO {Q:Ending→World→Prop} {tmps:Array Value} {W:World} {yb:Nat} {x:Nd} {c:Int} (h4:tmps[4]?=some (.pointer (some ⟨yb,0,none⟩))) (h5:tmps[5]?=some (.int .i64 c)) (hb:BR W yb x.cells.toArray 110)
  (hq:Q (.returned (.tuple #[x.val,.int .i64 c])) W):bodyPost Tryz.prog Tryz.f61 Q Exit.ret ⟨tmps,[]⟩ W:=by
 have k:=Vt hb;refine bodyPost_ret (v:= .tuple #[x.val,.int .i64 c]) ?_ rfl hq;simp[results,Tryz.results61,go_sem,h4,h5,k];rfl
theorem BR.DV {w:World} {b:Nat} {T:TypeId} {a0 a1 a2 a3 a4 a5 a6 a7 a8 a9 a10 a11 a12 a13:Value} (h:BR w b #[a0,a1,a2,a3,a4,a5,a6,a7,a8,a9,a10,a11,a12,a13] T) (v0 v1 v2 v3 v4 v5 v6 v7 v8 v9 v10 v11 v12 v13:Value):
  BR ((((((((((((((w.setCell ⟨b,0,none⟩ v0).setCell ⟨b,1,none⟩ v1).setCell ⟨b,2,none⟩ v2).setCell ⟨b,3,none⟩ v3).setCell ⟨b,4,none⟩ v4).setCell ⟨b,5,none⟩ v5).setCell ⟨b,6,none⟩ v6).setCell ⟨b,7,none⟩ v7).setCell ⟨b,8,none⟩ v8).setCell ⟨b,9,none⟩ v9).setCell ⟨b,10,none⟩ v10).setCell ⟨b,11,none⟩ v11).setCell ⟨b,12,none⟩ v12).setCell ⟨b,13,none⟩ v13) b #[v0,v1,v2,v3,v4,v5,v6,v7,v8,v9,v10,v11,v12,v13] T:=by
 have h0:=h.set 0 v0;simp only[Bo] at h0;have h1:=h0.set 1 v1;simp only[Bo] at h1;have h2:=h1.set 2 v2;simp only[Bo] at h2;have h3:=h2.set 3 v3;simp only[Bo] at h3;have h4:=h3.set 4 v4;simp only[Bo] at h4;have h5:=h4.set 5 v5;simp only[Bo] at h5;have h6:=h5.set 6 v6;simp only[Bo] at h6;have h7:=h6.set 7 v7;simp only[Bo] at h7;have h8:=h7.set 8 v8;simp only[Bo] at h8;have h9:=h8.set 9 v9;simp only[Bo] at h9;have wG:=h9.set 10 v10;simp only[Bo] at wG;have wF:=wG.set 11 v11;simp only[Bo] at wF;have wE:=wF.set 12 v12;simp only[Bo] at wE;have zu:=wE.set 13 v13;simp only[Bo] at zu;exact zu
theorem Av.DV {w:World} {b:Nat} (v0 v1 v2 v3 v4 v5 v6 v7 v8 v9 v10 v11 v12 v13:Value):Av [b] w ((((((((((((((w.setCell ⟨b,0,none⟩ v0).setCell ⟨b,1,none⟩ v1).setCell ⟨b,2,none⟩ v2).setCell ⟨b,3,none⟩ v3).setCell ⟨b,4,none⟩ v4).setCell ⟨b,5,none⟩ v5).setCell ⟨b,6,none⟩ v6).setCell ⟨b,7,none⟩ v7).setCell ⟨b,8,none⟩ v8).setCell ⟨b,9,none⟩ v9).setCell ⟨b,10,none⟩ v10).setCell ⟨b,11,none⟩ v11).setCell ⟨b,12,none⟩ v12).setCell ⟨b,13,none⟩ v13):=
 ((((((((((((((Av.refl [b] w).setCell (p:=⟨b,0,none⟩) (.inl (List.mem_singleton.2 rfl)) v0).setCell (p:=⟨b,1,none⟩) (.inl (List.mem_singleton.2 rfl)) v1).setCell (p:=⟨b,2,none⟩) (.inl (List.mem_singleton.2 rfl)) v2).setCell (p:=⟨b,3,none⟩) (.inl (List.mem_singleton.2 rfl)) v3).setCell (p:=⟨b,4,none⟩) (.inl (List.mem_singleton.2 rfl)) v4).setCell (p:=⟨b,5,none⟩) (.inl (List.mem_singleton.2 rfl)) v5).setCell (p:=⟨b,6,none⟩) (.inl (List.mem_singleton.2 rfl)) v6).setCell (p:=⟨b,7,none⟩) (.inl (List.mem_singleton.2 rfl)) v7).setCell (p:=⟨b,8,none⟩) (.inl (List.mem_singleton.2 rfl)) v8).setCell (p:=⟨b,9,none⟩) (.inl (List.mem_singleton.2 rfl)) v9).setCell (p:=⟨b,10,none⟩) (.inl (List.mem_singleton.2 rfl)) v10).setCell (p:=⟨b,11,none⟩) (.inl (List.mem_singleton.2 rfl)) v11).setCell (p:=⟨b,12,none⟩) (.inl (List.mem_singleton.2 rfl)) v12).setCell (p:=⟨b,13,none⟩) (.inl (List.mem_singleton.2 rfl)) v13
theorem UJ (R:RS) (x:Nd) (s:ByteArray) (l:Ws):(R.cell x s l).2.1.kind=x.kind:=by
 unfold RS.cell;simp only[];split
 ·rfl
 ·split <;>rfl
theorem dx (R:RS) (x:Nd) (s:ByteArray) (l:Ws):(R.cell x s l).1.p.Cu=R.p.Cu:=by
 unfold RS.cell;simp only[];split
 ·rfl
 ·split <;>rfl
theorem Nv {g:RG} {R:RS} (h:Dl g R) (hp:R.p.Cu≠[]):Dl g R.Ee:=by
 have e:R.Ee.p.Cu.length=R.p.Cu.length:=by
  unfold RS.Ee;have:=List.length_pos_iff.2 hp;simp;omega
 exact⟨h.cl,h.dl,e.trans h.ql,h.tl,h.fl,h.zl,h.ll⟩
theorem OX {w:World} {a:Ob} {g:RG} {R:RS} {E:List Ob} {qb qc m:Nat} (o:AK w ((a::g.Ax R)++E)) (hq:Value.slice g.q.p R.p.Cu.length g.q.c= .slice (some ⟨qb,0,none⟩) (m+1) qc) (hm:R.p.Cu.length=m+1):
  Ad w ((a::g.Ax R)++E) (w.setCell ⟨qb,m,none⟩ (.bool true)) ((a::g.Ax R.Ee)++E):=by
 have hr:((a::g.Ax R)++E)[10]?=some (.row (.slice (some ⟨qb,0,none⟩) (m+1) qc) 4 1 (m+1) (GG R.p.Cu)):=by
  show some (CF g.q R.p.Cu)=_;unfold CF;rw[hq,hm]
 have k:=o.Jp hr m (by simp[GG,hm]) (.bool true);have e:R.Ee.p.Cu=R.p.Cu.set m true:=by
  unfold RS.Ee;rcases List.eq_nil_or_concat R.p.Cu with h0 | ⟨q,b,h0⟩
  ·rw[h0] at hm;simp at hm
  ·rw[List.concat_eq_append] at h0;rw[h0] at hm⊢;simp only[List.length_append,List.length_singleton,Nat.add_right_cancel_iff] at hm;subst hm;simp
 have e2:((a::g.Ax R)++E).set 10 (.row (.slice (some ⟨qb,0,none⟩) (m+1) qc) 4 1 (m+1) ((GG R.p.Cu).set m (.bool true)))=(a::g.Ax R.Ee)++E:=by
  rw[UO,←e];have e3:Ob.row (.slice (some ⟨qb,0,none⟩) (m+1) qc) 4 1 (m+1) (GG R.Ee.p.Cu)=CF g.q R.Ee.p.Cu:=by
   unfold CF;rw[e,List.length_set,hq,hm]
  rw[e3];have e4:R.Ee.p.Cu.length=R.p.Cu.length:=by rw[e,List.length_set]
  unfold RG.Ax;rw[e4];rfl
 rw[e2] at k;exact k
theorem Br {a b:Ob} {L:List Ob}:((a::L)++[b])[L.length+1]?=some b:=by simp
theorem Ia {w:World} {L:List Ob} (h:AK w L) (A B:Array Value) (T:TypeId):Ad w L ((w.alloc (.cells A T)).alloc (.cells B T)) ((.AP (w.heap.size+1) B T::L)++[.AP w.heap.size A T]):=by
 have s1:=Ad.new h (.cells A T);have s2:=Ad.Oi s1.Al (.cells B T);have e:(w.alloc (.cells A T)).heap.size=w.heap.size+1:=by show(w.heap.push _).size=_;simp
 rw[e] at s2;exact s1.trans s2
theorem fL {w w':World} {L M:List Ob} {a b:Ob} (k:Ad w L w' ((a::M)++[b])):Ad w L w' M:=by
 have s1:Ad w' ((a::M)++[b]) w' (a::M):=Ad.AT k.Al;have s2:Ad w' (a::M) w' M:=Ad.drop (A:=[]) (B:=[a]) (C:=M) s1.Al;exact k.trans (s1.trans s2)
theorem KK {w:World} {g:RG} {R:RS} {L:List Ob} {a:Ob} (h:AK w ((a::g.Ax R)++L)) (hL:Dl g R):mV w g R:=
 ⟨(Ad.drop (A:=[]) (B:=[a]) (C:=g.Ax R) (Ad.AT h).Al).Al,hL⟩
structure aN (w:World) (l:Ws) (wb woff wcap:Nat) (g:RG) (R:RS):Prop where
 n0:l.length≤wcap
 n1:wcap≤maxLen
 no:wb∉En (g.Ax R)
 lt:wb < w.heap.size
 c:∀i,(h:i < l.length)→w.cell? ⟨wb,woff+i,none⟩=some (.string (wd l i))
theorem Fa {w:World} {l:Ws} {lw:Value} {g:RG} {R:RS} (hw:Sl w (fun b=>b∉En (g.Ax R)) lw (AY l)) (hl:0 < l.length):∃wb woff wcap,lw= .slice (some ⟨wb,woff,none⟩) l.length wcap∧aN w l wb woff wcap g R:=by
 obtain⟨qU,⟨rfl,qT⟩ | ⟨wb,woff,wcap,rfl,w1_,w2_,w3_,w4_,w5_⟩⟩:=hw
 ·exact absurd (show l.length=0 by rw[←Cy,qT];rfl) (by omega)
 ·rw[Cy] at w1_⊢;exact⟨wb,woff,wcap,rfl,w1_,w2_,w3_,w4_,fun i hi=>Sl.Kl w5_ i hi⟩
theorem aN.Bh {w w':World} {l:Ws} {wb woff wcap:Nat} {g:RG} {R:RS} (h:aN w l wb woff wcap g R) (k:Av (En (g.Ax R)) w w'):aN w' l wb woff wcap g R:=
 ⟨h.n0,h.n1,h.no,Nat.lt_of_lt_of_le h.lt k.size,fun i hi=>by rw[←h.c i hi];exact World.cell?_of_block (k.block wb h.lt h.no)⟩
theorem Sl.step {w w':World} {L L':List Ob} {v:Value} {xs:List Value} (h:Sl w (fun b=>b∉En L) v xs) (k:Ad w L w' L'):Sl w' (fun b=>b∉En L') v xs:=
 (h.mono (ok':=fun b=>b∉En L∧b∉En L') fun b hb hn=>⟨hn,fun h'=>by
   rcases k.fp b h' with h1 | h1
   · exact hn h1
   · omega⟩).Bh k.Bh (fun b hb=>hb.1) |>.mono fun b _ hb=>hb.2
theorem Sl.sub {w:World} {L M:List Ob} {v:Value} {xs:List Value} (h:Sl w (fun b=>b∉En L) v xs) (hs:∀b,b∈En M→b∈En L):Sl w (fun b=>b∉En M) v xs:=
 h.mono fun b _ hn hm=>hn (hs b hm)
theorem AR {w:World} {L:List Ob} {b:Ob} (h:AK w (L++[b])):AK w L:=(Ad.AT h).Al
theorem Wi {L E:List Ob}:∀b,b∈En L→b∈En (L++E):=fun b hb=>by rw[Bd];exact List.mem_append_left _ hb
theorem Mx {w w' w'':World} {L M:List Ob} {a:Ob} {yb:Nat} {o:Obj} (k:Ad w L w' ((a::M)++[.PN yb o])) (hy:w.heap.size≤yb) (m:Av [yb] w' w''):Ad w L w'' M:=by
 have hn:=k.Al.Kw;rw[Bd,FB] at hn;have s:=fL k;refine⟨s.Al.Bh m fun b hb o6=> ?_,k.Bh.trans m fun x hx=> .inr (by rw[List.mem_singleton] at hx;omega),s.fp⟩;rw[List.mem_singleton] at o6;subst o6;exact(List.nodup_append.1 hn).2.2 b (List.mem_append_right _ hb) b (by simp[En,Ob.fp]) rfl
theorem I6 {w w' w'':World} {L:List Ob} {yb:Nat} (k:Av (En L) w w') (hy:w.heap.size≤yb) (m:Av [yb] w' w''):Av (En L) w w'':=
 k.trans m fun x hx=> .inr (by rw[List.mem_singleton] at hx;omega)
theorem Vi (l:Ws) (lw:Value) (w:World) (g:RG) (R:RS) (h:AK w (g.Ax R)) (hL:Dl g R)
  (hw:Sl w (fun b=>b∉En (g.Ax R)) lw (AY l)) (hs:∀a,a∈l→a.size≤maxLen) (hk:bs (wd l 0)=AF) (hl:0 < l.length):
  Calls Tryz.prog 61 #[.pointer (some ⟨g.rb,0,none⟩),lw] w (Mo (R.node l) g R w):=by
 obtain⟨wb,woff,wcap,rfl,hd⟩:=Fa hw (by omega);have c0:=hd.c 0 (by omega);simp only[Nat.add_zero] at c0;have AU:R.node l=R.node l:=rfl
 conv at AU=>rhs;unfold RS.node
 simp only[hk,Jz,if_true,if_false] at AU;have q1:=Ar (x:=wd l 0) (k:=CK) (by rw[hk];decide);unfold CK at q1;have q2:=Ar (x:=wd l 0) (k:=Cw) (by rw[hk];decide);unfold Cw at q2;have q3:=Ar (x:=wd l 0) (k:=CL) (by rw[hk];decide);unfold CL at q3;have q4:=Ar (x:=wd l 0) (k:=Ds) (by rw[hk];decide);unfold Ds at q4;have q5:=Ar (x:=wd l 0) (k:=I8) (by rw[hk];decide);unfold I8 at q5;have q6:=Ar (x:=wd l 0) (k:=C6) (by rw[hk];decide);unfold C6 at q6;have q0:=BN hk;unfold AF at q0;obtain⟨Cp,A6,CR,Bt,Bi,CM,BQ⟩:=AG h;have Gb:=hd.n0;have Kc:=hd.n1;have EA:=hd.lt;unfold maxLen at Kc;have Pb:(0:Int) < (l.length:Int):=by omega
 have H:=hid h;have HL:=hid hL;have Bg:=hid AU;clear h hL hw hk hs hd Cp A6 CR Bt BQ AU;go_enter Tryz.func61,Tryz.ntmps61;go_wp2_with fail;refine bodyPost_ret (v:= .tuple #[(Nd.of 40).val,.int .i64 0]) (by simp[results,Tryz.results61,go_sem];rfl) rfl ?_;rw[Bg.out];exact⟨rfl,g,rfl,HL.out,Ad.quiet H.out (((Av.refl _ _).alloc _).alloc _)⟩
theorem Yy (l:Ws) (lw:Value) (w:World) (g:RG) (R:RS) (h:AK w (g.Ax R)) (hL:Dl g R)
  (hw:Sl w (fun b=>b∉En (g.Ax R)) lw (AY l)) (hs:∀a,a∈l→a.size≤maxLen) (hk:bs (wd l 0)=C6) (hl:1 < l.length):
  Calls Tryz.prog 61 #[.pointer (some ⟨g.rb,0,none⟩),lw] w (Mo (R.node l) g R w):=by
 obtain⟨wb,woff,wcap,rfl,hd⟩:=Fa hw (by omega);have c0:=hd.c 0 (by omega);simp only[Nat.add_zero] at c0;have AU:R.node l=R.node l:=rfl
 conv at AU=>rhs;unfold RS.node
 simp only[hk,Jz,if_true,if_false] at AU;have q1:=Ar (x:=wd l 0) (k:=CK) (by rw[hk];decide);unfold CK at q1;have q2:=Ar (x:=wd l 0) (k:=Cw) (by rw[hk];decide);unfold Cw at q2;have q3:=Ar (x:=wd l 0) (k:=CL) (by rw[hk];decide);unfold CL at q3;have q4:=Ar (x:=wd l 0) (k:=Ds) (by rw[hk];decide);unfold Ds at q4;have q5:=Ar (x:=wd l 0) (k:=I8) (by rw[hk];decide);unfold I8 at q5;have q0:=BN hk;unfold C6 at q0;obtain⟨Cp,A6,CR,Bt,Bi,CM,BQ⟩:=AG h;have Gb:=hd.n0;have Kc:=hd.n1;have EA:=hd.lt;unfold maxLen at Kc;have c1:=hd.c 1 hl;have Pb:(0:Int) < (l.length:Int):=by omega
 have JD:(1:Int) < (l.length:Int):=by omega
 have cP:=fun w=>Vr (wd l 1) w (GO hs 1)
 generalize (number (bs (wd l 1))).getD 0=nv at*;generalize (number (bs (wd l 1))).isSome=nb at*;have pP:=hid cP;have H:=hid h;have HL:=hid hL;have Bg:=hid AU;clear h hL hw hk hs hd Cp A6 CR Bt BQ cP AU;go_enter Tryz.func61,Tryz.ntmps61;go_wp2_with fail;refine(pP.out _).mono ?_;rintro e w' ⟨rfl,rfl⟩;go_wp2;refine bodyPost_ret (v:= .tuple #[({Nd.of 108 with n:=nv}:Nd).val,.int .i64 0]) (by simp[results,Tryz.results61,go_sem];rfl) rfl ?_;rw[Bg.out];exact⟨rfl,g,rfl,HL.out,Ad.quiet H.out (((Av.refl _ _).alloc _).alloc _)⟩
theorem bD (l:Ws) (lw:Value) (w:World) (g:RG) (R:RS) (h:AK w (g.Ax R)) (hL:Dl g R)
  (hw:Sl w (fun b=>b∉En (g.Ax R)) lw (AY l)) (hs:∀a,a∈l→a.size≤maxLen) (hk:bs (wd l 0)=Ds) (hl:1 < l.length):
  Calls Tryz.prog 61 #[.pointer (some ⟨g.rb,0,none⟩),lw] w (Mo (R.node l) g R w):=by
 obtain⟨wb,woff,wcap,rfl,hd⟩:=Fa hw (by omega);have c0:=hd.c 0 (by omega);simp only[Nat.add_zero] at c0;have AU:R.node l=R.node l:=rfl
 conv at AU=>rhs;unfold RS.node
 simp only[hk,Jz,if_true,if_false] at AU;have q1:=Ar (x:=wd l 0) (k:=CK) (by rw[hk];decide);unfold CK at q1;have q2:=Ar (x:=wd l 0) (k:=Cw) (by rw[hk];decide);unfold Cw at q2;have q3:=Ar (x:=wd l 0) (k:=CL) (by rw[hk];decide);unfold CL at q3;have q4:=Ar (x:=wd l 0) (k:=I8) (by rw[hk];decide);unfold I8 at q4;have q0:=BN hk;unfold Ds at q0;obtain⟨Cp,A6,CR,Bt,Bi,CM,BQ⟩:=AG h;have Gb:=hd.n0;have Kc:=hd.n1;have EA:=hd.lt;unfold maxLen at Kc;have c1:=hd.c 1 hl;have Pb:(0:Int) < (l.length:Int):=by omega
 have JD:(1:Int) < (l.length:Int):=by omega
 have Fh:=fun w hr=>HY (wd l 1) w g R hr (GO hs 1)
 generalize R.CA (wd l 1)=av at*;obtain⟨⟨al,ai⟩,ab⟩:=av;have aP:=hid Fh;have H:=hid h;have HL:=hid hL;have Bg:=hid AU;clear h hL hw hk hs hd Cp A6 CR Bt BQ Fh AU;go_enter Tryz.func61,Tryz.ntmps61;go_wp2_with fail;have s1:=Ia H.out dT (dT.set! 0 (.int .u8 111)) 110;refine(aP.out _ (KK s1.Al HL.out)).mono ?_;rintro e w2 ⟨rfl,CY⟩;have s2:=s1.trans (Ad.quiet s1.Al CY);replace CY:=(((Av.refl [] w).alloc _).alloc _).trans CY (by simp);clear s1 c0 c1 Bi CM EA aP;have k0:∀i:Nat,w2.cell? ⟨w.heap.size+1,i,none⟩=(#[.int .u8 111,.int .i64 0,.string ⟨#[]⟩,.bool false,.int .i64 0,.bool false,.int .i64 0,.bool false,.int .i64 0,.int .i64 0,.int .i64 0,.int .i64 0,.int .i64 0,.int .i64 0]:Array Value)[i]?:=(s2.Al.AP (i:=0) rfl).cell;have k1:∀i:Nat,w2.cell? ⟨w.heap.size,i,none⟩=(#[.int .u8 0,.int .i64 0,.string ⟨#[]⟩,.bool false,.int .i64 0,.bool false,.int .i64 0,.bool false,.int .i64 0,.int .i64 0,.int .i64 0,.int .i64 0,.int .i64 0,.int .i64 0]:Array Value)[i]?:=(s2.Al.AP (i:=(g.Ax R).length+1) Br).cell;have f0:=(s2.Al.AP (i:=0) rfl).free;have f1:=(s2.Al.AP (i:=(g.Ax R).length+1) Br).free;have l0:=(s2.Al.AP (i:=0) rfl).lt;have l1:=(s2.Al.AP (i:=(g.Ax R).length+1) Br).lt;have hb:w.heap.size+1≠w.heap.size:=by omega
 have eb:BR w2 w.heap.size #[.int .u8 0,.int .i64 0,.string ⟨#[]⟩,.bool false,.int .i64 0,.bool false,.int .i64 0,.bool false,.int .i64 0,.int .i64 0,.int .i64 0,.int .i64 0,.int .i64 0,.int .i64 0] 110:=s2.Al.AP (i:=(g.Ax R).length+1) Br;have B1:=hid eb;clear eb;have B2:=hid (s2.Al.AP (i:=(g.Ax R).length+1) Br);have S2:=hid s2;clear s2;have Hm:=hid (show Av [] w w2 from CY);clear CY;simp only[At.val];cases ab
 ·go_wp2;refine BO (x:={Nd.of 111 with a:=⟨al,ai⟩}) (c:=4) (yb:=w.heap.size) rfl rfl ?_ ?_
  ·exact(BR.DV ((B1.out.DW (p:=⟨w.heap.size+1,3,none⟩) (Ne.symm hb) (.bool al)).DW (p:=⟨w.heap.size+1,4,none⟩) (Ne.symm hb) (.int .i64 ai)) (.int .u8 111) (.int .i64 0) (.string ⟨#[]⟩) (.bool al) (.int .i64 ai) (.bool false) (.int .i64 0) (.bool false) (.int .i64 0) (.int .i64 0) (.int .i64 0) (.int .i64 0) (.int .i64 0) (.int .i64 0)).alloc _
  rw[Bg.out];refine⟨_,rfl,Av.nil ?_⟩;refine Av.alloc ?_ _
  iterate 16 refine Av.setCell ?_ (.inr (by first | exact Nat.le_refl _ | exact Nat.le_succ _)) _
  exact Hm.out
 ·go_wp2;refine BO (x:={Nd.of 111 with a:=⟨al,ai⟩}) (c:=0) (yb:=w.heap.size) rfl rfl ?_ ?_
  ·exact(BR.DV ((B1.out.DW (p:=⟨w.heap.size+1,3,none⟩) (Ne.symm hb) (.bool al)).DW (p:=⟨w.heap.size+1,4,none⟩) (Ne.symm hb) (.int .i64 ai)) (.int .u8 111) (.int .i64 0) (.string ⟨#[]⟩) (.bool al) (.int .i64 ai) (.bool false) (.int .i64 0) (.bool false) (.int .i64 0) (.int .i64 0) (.int .i64 0) (.int .i64 0) (.int .i64 0) (.int .i64 0)).alloc _
  rw[Bg.out];refine⟨rfl,g,rfl,HL.out,Ad.quiet H.out ?_⟩;refine Av.alloc ?_ _
  iterate 16 refine Av.setCell ?_ (.inr (by first | exact Nat.le_refl _ | exact Nat.le_succ _)) _
  exact Hm.out
theorem fg (l:Ws) (lw:Value) (w:World) (g:RG) (R:RS) (h:AK w (g.Ax R)) (hL:Dl g R)
  (hw:Sl w (fun b=>b∉En (g.Ax R)) lw (AY l)) (hs:∀a,a∈l→a.size≤maxLen) (hk:bs (wd l 0)=I8) (hl:1 < l.length):
  Calls Tryz.prog 61 #[.pointer (some ⟨g.rb,0,none⟩),lw] w (Mo (R.node l) g R w):=by
 obtain⟨wb,woff,wcap,rfl,hd⟩:=Fa hw (by omega);have c0:=hd.c 0 (by omega);simp only[Nat.add_zero] at c0;have AU:R.node l=R.node l:=rfl
 conv at AU=>rhs;unfold RS.node
 simp only[hk,Jz,if_true,if_false] at AU;have q1:=Ar (x:=wd l 0) (k:=CK) (by rw[hk];decide);unfold CK at q1;have q2:=Ar (x:=wd l 0) (k:=Cw) (by rw[hk];decide);unfold Cw at q2;have q3:=Ar (x:=wd l 0) (k:=CL) (by rw[hk];decide);unfold CL at q3;have q4:=Ar (x:=wd l 0) (k:=Ds) (by rw[hk];decide);unfold Ds at q4;have q0:=BN hk;unfold I8 at q0;obtain⟨Cp,A6,CR,Bt,Bi,CM,BQ⟩:=AG h;have Gb:=hd.n0;have Kc:=hd.n1;have EA:=hd.lt;unfold maxLen at Kc;have c1:=hd.c 1 hl;have Pb:(0:Int) < (l.length:Int):=by omega
 have JD:(1:Int) < (l.length:Int):=by omega
 have Fh:=fun w hr=>HY (wd l 1) w g R hr (GO hs 1)
 generalize R.CA (wd l 1)=av at*;obtain⟨⟨al,ai⟩,ab⟩:=av;have aP:=hid Fh;have H:=hid h;have HL:=hid hL;have Bg:=hid AU;clear h hL hw hk hs hd Cp A6 CR Bt BQ Fh AU;go_enter Tryz.func61,Tryz.ntmps61;go_wp2_with fail;have s1:=Ia H.out dT (dT.set! 0 (.int .u8 122)) 110;refine(aP.out _ (KK s1.Al HL.out)).mono ?_;rintro e w2 ⟨rfl,CY⟩;have s2:=s1.trans (Ad.quiet s1.Al CY);replace CY:=(((Av.refl [] w).alloc _).alloc _).trans CY (by simp);clear s1 c0 c1 Bi CM EA aP;have k0:∀i:Nat,w2.cell? ⟨w.heap.size+1,i,none⟩=(#[.int .u8 122,.int .i64 0,.string ⟨#[]⟩,.bool false,.int .i64 0,.bool false,.int .i64 0,.bool false,.int .i64 0,.int .i64 0,.int .i64 0,.int .i64 0,.int .i64 0,.int .i64 0]:Array Value)[i]?:=(s2.Al.AP (i:=0) rfl).cell;have k1:∀i:Nat,w2.cell? ⟨w.heap.size,i,none⟩=(#[.int .u8 0,.int .i64 0,.string ⟨#[]⟩,.bool false,.int .i64 0,.bool false,.int .i64 0,.bool false,.int .i64 0,.int .i64 0,.int .i64 0,.int .i64 0,.int .i64 0,.int .i64 0]:Array Value)[i]?:=(s2.Al.AP (i:=(g.Ax R).length+1) Br).cell;have f0:=(s2.Al.AP (i:=0) rfl).free;have f1:=(s2.Al.AP (i:=(g.Ax R).length+1) Br).free;have l0:=(s2.Al.AP (i:=0) rfl).lt;have l1:=(s2.Al.AP (i:=(g.Ax R).length+1) Br).lt;have hb:w.heap.size+1≠w.heap.size:=by omega
 have eb:BR w2 w.heap.size #[.int .u8 0,.int .i64 0,.string ⟨#[]⟩,.bool false,.int .i64 0,.bool false,.int .i64 0,.bool false,.int .i64 0,.int .i64 0,.int .i64 0,.int .i64 0,.int .i64 0,.int .i64 0] 110:=s2.Al.AP (i:=(g.Ax R).length+1) Br;have B1:=hid eb;clear eb;have B2:=hid (s2.Al.AP (i:=(g.Ax R).length+1) Br);have S2:=hid s2;clear s2;have Hm:=hid (show Av [] w w2 from CY);clear CY;simp only[At.val];cases ab
 ·go_wp2;refine BO (x:={Nd.of 122 with a:=⟨al,ai⟩}) (c:=4) (yb:=w.heap.size) rfl rfl ?_ ?_
  ·exact(BR.DV ((B1.out.DW (p:=⟨w.heap.size+1,3,none⟩) (Ne.symm hb) (.bool al)).DW (p:=⟨w.heap.size+1,4,none⟩) (Ne.symm hb) (.int .i64 ai)) (.int .u8 122) (.int .i64 0) (.string ⟨#[]⟩) (.bool al) (.int .i64 ai) (.bool false) (.int .i64 0) (.bool false) (.int .i64 0) (.int .i64 0) (.int .i64 0) (.int .i64 0) (.int .i64 0) (.int .i64 0)).alloc _
  rw[Bg.out];refine⟨_,rfl,Av.nil ?_⟩;refine Av.alloc ?_ _
  iterate 16 refine Av.setCell ?_ (.inr (by first | exact Nat.le_refl _ | exact Nat.le_succ _)) _
  exact Hm.out
 ·go_wp2;refine BO (x:={Nd.of 122 with a:=⟨al,ai⟩}) (c:=0) (yb:=w.heap.size) rfl rfl ?_ ?_
  ·exact(BR.DV ((B1.out.DW (p:=⟨w.heap.size+1,3,none⟩) (Ne.symm hb) (.bool al)).DW (p:=⟨w.heap.size+1,4,none⟩) (Ne.symm hb) (.int .i64 ai)) (.int .u8 122) (.int .i64 0) (.string ⟨#[]⟩) (.bool al) (.int .i64 ai) (.bool false) (.int .i64 0) (.bool false) (.int .i64 0) (.int .i64 0) (.int .i64 0) (.int .i64 0) (.int .i64 0) (.int .i64 0)).alloc _
  rw[Bg.out];refine⟨rfl,g,rfl,HL.out,Ad.quiet H.out ?_⟩;refine Av.alloc ?_ _
  iterate 16 refine Av.setCell ?_ (.inr (by first | exact Nat.le_refl _ | exact Nat.le_succ _)) _
  exact Hm.out
end Go.Proofs.YtpdfifdlhpmofaaGreatDoor
