/-
  Part 15 of the proof, packed by program out of F1, G1, G2, G3, G4, G5.
-/
import Derived.Test.YtpdfifdlhpmofaaGreatDoorZ07
import Derived.Test.YtpdfifdlhpmofaaGreatDoorZ12
import Derived.Test.YtpdfifdlhpmofaaGreatDoorZ14
set_option linter.unusedVariables false
set_option linter.unusedSimpArgs false
set_option maxHeartbeats 3200000
set_option maxRecDepth 100000
namespace Go.Proofs.YtpdfifdlhpmofaaGreatDoor
open Go.RowKit
open Go.Lib (hid)
def pK (c Ae:Int) (e:Ending) (w':World):Prop:=
 ∃fb,e= .panicked [{v:= .iface 123 (.pointer (some ⟨fb,0,none⟩)),recovered:=false}]∧w'.heap[fb]?=some (.cells #[.int .i64 c,.int .i64 Ae] 127 (0,0))
def Fq (M:List Nat) (c Ae:Int) (w:World) (e:Ending) (w':World):Prop:=pK c Ae e w'∧Av M w w'
theorem Fq.trans {M N:List Nat} {c Ae:Int} {w w1 w2:World} {e:Ending} (h:Fq N c Ae w1 e w2) (k:Av M w w1) (hN:∀x,x∈N→x∈M∨w.heap.size≤x):Fq M c Ae w e w2:=⟨h.1,k.trans h.2 hN⟩
theorem AS (c Ae:Int) (w:World):Calls Tryz.prog 69 #[.int .i64 c,.int .i64 Ae] w (Fq [] c Ae w):=by
 go_enter Tryz.func69,Tryz.ntmps69;go_wp2;exact⟨rfl,⟨_,rfl,by show(w.heap.push _)[w.heap.size]?=_;simp⟩,(Av.refl _ _).alloc _⟩
structure PV where
 p:Value
 s:Value
 l:Value
 o:Value
 n:Value
def PV.cells (r:PV) (wv:Value) (Ae:Int):Array Value:= #[wv,.int .i64 Ae,r.p,r.s,r.l,r.o,r.n]
abbrev V0 (w:World) (xb:Nat) (r:PV) (wv:Value) (Ae:Int):Prop:=BR w xb (r.cells wv Ae) 151
structure PxF (w:World) (xb:Nat) (r:PV) (wv:Value) (Ae:Int):Prop where
 c:∀i:Nat,w.cell? ⟨xb,i,none⟩=(#[wv,.int .i64 Ae,r.p,r.s,r.l,r.o,r.n]:Array Value)[i]?
 f:∀i:Nat,w.frozen? ⟨xb,i,none⟩=false
 lt:xb < w.heap.size
theorem Ku {w:World} {xb:Nat} {r:PV} {wv:Value} {Ae:Int} (h:V0 w xb r wv Ae):PxF w xb r wv Ae:=⟨h.cell,h.free,h.lt⟩
theorem EL (w:World) (xb:Nat) (r:PV) (wv:Value) (Ae:Int) (h:V0 w xb r wv Ae):
  Calls Tryz.prog 73 #[.pointer (some ⟨xb,0,none⟩)] w (Fq [] 2 Ae w):=by
 obtain⟨hc,hf,Bi⟩:=Ku h;clear h;go_enter Tryz.func73,Tryz.ntmps73;go_wp2_with fail;refine(AS _ _ _).mono ?_;rintro e w1 ⟨⟨fb,rfl,hb⟩,hm⟩;go_wp2;exact⟨rfl,⟨fb,rfl,hb⟩,hm⟩
def Lw (res:Option (Value×Ws)) (xb:Nat) (r:PV) (Ae:Int) (ok:Nat→Prop) (w:World) (e:Ending) (w':World):Prop:=
 match res with
 | none=>Fq [xb] 2 Ae w e w'
 | some (v,l')=>e= .returned v∧∃wv',V0 w' xb r wv' Ae∧Sl w' ok wv' (AY l')∧Av [xb] w w'
def qN:Ws→Option (ByteArray×Ws)
 | []=>none
 | a::r=>some (a,r)
theorem Sl.tail {w:World} {ok:Nat→Prop} {b off n cap:Nat} {x:Value} {xs:List Value} (h:Sl w ok (.slice (some ⟨b,off,none⟩) n cap) (x::xs)) (p:Option Addr) (hp:p=some ⟨b,off,none⟩∧cap=1∨p=some ⟨b,off+1,none⟩):
  Sl w ok (.slice p xs.length (cap - 1)) xs:=by
 obtain⟨hl,⟨h1,_⟩ | ⟨b',off',cap',h1,h2,h3,h4,h5,h6⟩⟩:=h
 ·cases h1
 ·cases h1;simp only[List.length_cons] at hl h2;refine⟨by omega,.inr ?_⟩;rcases hp with⟨rfl,h7⟩ | rfl
  ·refine⟨b,off,cap - 1,rfl,by omega,by omega,h4,h5,fun i hi=>by omega⟩
  ·refine⟨b,off+1,cap - 1,rfl,by omega,by omega,h4,h5,fun i hi=> ?_⟩;have:=h6 (i+1) (by simp;omega);rw[show off+(i+1)=off+1+i by omega] at this;simpa using this
theorem Ig (l:Ws) (w:World) (xb:Nat) (r:PV) (wv:Value) (Ae:Int) (ok:Nat→Prop) (h:V0 w xb r wv Ae) (hs:Sl w ok wv (AY l)) (hx:¬ok xb):
  Calls Tryz.prog 96 #[.pointer (some ⟨xb,0,none⟩)] w (Lw ((qN l).map fun p=>(.string p.1,p.2)) xb r Ae ok w):=by
 obtain⟨hc,hf,Bi⟩:=Ku h;cases l with
 | nil=>
  obtain⟨p,cap,rfl,_,_⟩:=hs.JF;have H:=hid h;clear h hs;simp only[AY,List.map_nil,List.length_nil] at hc;go_enter Tryz.func96,Tryz.ntmps96;go_wp2_with fail;refine(EL _ xb r _ Ae H.out).mono ?_;rintro e w1 ⟨⟨fb,rfl,hb⟩,hm⟩;go_wp2;exact⟨rfl,⟨fb,rfl,hb⟩,hm.nil⟩
 | cons a l=>
  have dV:=hs;obtain⟨hl,⟨h1,h2⟩ | ⟨b,off,cap,rfl,h2,h3,h4,h5,h6⟩⟩:=hs
  ·cases h2
  ·have QR:=h6 0 (by simp[AY]);simp only[Nat.add_zero,AY,List.map_cons,List.getElem_cons_zero] at QR;have hlen:(AY (a::l)).length=l.length+1:=by simp[AY]
   rw[hlen] at hc h2 hl dV;have H:=hid h;have HS:=hid dV;have HX:=hid hx;have H4:=hid h4;have Pb:0 < l.length+1:=by omega
   unfold maxLen at h3;clear h dV h6 hlen hx h4;by_cases iA:cap=1
   ·subst iA;have JD:l=[]:=List.eq_nil_of_length_eq_zero (by omega);subst JD;clear h2 Pb hl;simp only[List.length_nil,Nat.zero_add] at hc HS⊢;go_enter Tryz.func96,Tryz.ntmps96;go_wp2;go_ret;have k:=H.out.set 0 (.slice (some ⟨b,off,none⟩) 0 0);have m:Av [xb] w (w.setCell ⟨xb,0,none⟩ (.slice (some ⟨b,off,none⟩) 0 0)):=(Av.refl _ _).setCell (.inl (by simp)) _;exact⟨rfl,_,k,(HS.out.tail (some ⟨b,off,none⟩) (.inl ⟨rfl,rfl⟩)).Bh m (fun b hb hm=>HX.out (by rw[List.mem_singleton] at hm;rw[←hm];exact hb)),m⟩
   ·have sk:1 < cap:=by omega
    clear iA;go_enter Tryz.func96,Tryz.ntmps96;go_wp2;go_ret;have k:=H.out.set 0 (.slice (some ⟨b,off+1,none⟩) l.length (cap - 1));have m:Av [xb] w (w.setCell ⟨xb,0,none⟩ (.slice (some ⟨b,off+1,none⟩) l.length (cap - 1))):=(Av.refl _ _).setCell (.inl (by simp)) _;have e:(AY l).length=l.length:=Cy l;have t:=HS.out.tail (some ⟨b,off+1,none⟩) (.inr rfl);rw[show(l.map Value.string)=AY l from rfl,e] at t;exact⟨rfl,_,k,t.Bh m (fun b hb hm=>HX.out (by rw[List.mem_singleton] at hm;rw[←hm];exact hb)),m⟩
theorem Dz (l:Ws) (w:World) (xb:Nat) (r:PV) (wv:Value) (Ae:Int) (ok:Nat→Prop) (h:V0 w xb r wv Ae) (hs:Sl w ok wv (AY l)):
  Calls Tryz.prog 99 #[.pointer (some ⟨xb,0,none⟩)] w (Lw (FZ (.tuple #[],([]:Ws)) l) xb r Ae ok w):=by
 obtain⟨hc,hf,Bi⟩:=Ku h;obtain⟨p,cap,rfl,_,_⟩:=hs.JF;have H:=hid h;have HS:=hid hs;clear h hs;cases l with
 | nil=>
  simp only[AY,List.map_nil,List.length_nil] at hc;go_enter Tryz.func99,Tryz.ntmps99;go_wp2
  go_end0
  exact⟨rfl,_,H.out,HS.out,Av.refl _ _⟩
 | cons a l=>
  have hlen:(AY (a::l)).length=l.length+1:=by simp[AY]
  rw[hlen] at hc;clear hlen;go_enter Tryz.func99,Tryz.ntmps99;go_wp2_with fail;refine(EL _ xb r _ Ae H.out).mono ?_;rintro e w1 ⟨⟨fb,rfl,hb⟩,hm⟩;go_wp2;exact⟨rfl,⟨fb,rfl,hb⟩,hm.nil⟩
def mf (k:By):Ws→Bool×Ws
 | []=>(false,[])
 | a::r=>if bs a=k then (true,r) else (false,a::r)
theorem gm {k:By} {a:ByteArray} {r:Ws} (h:bs a=k):mf k (a::r)=(true,r):=by simp[mf,h]
theorem me {k:By} {a:ByteArray} {r:Ws} (h:¬bs a=k):mf k (a::r)=(false,a::r):=by simp[mf,h]
theorem lE (k:ByteArray) (l:Ws) (w:World) (xb:Nat) (r:PV) (wv:Value) (Ae:Int) (ok:Nat→Prop) (h:V0 w xb r wv Ae) (hs:Sl w ok wv (AY l)) (hx:¬ok xb):
  Calls Tryz.prog 150 #[.pointer (some ⟨xb,0,none⟩),.string k] w (Lw (some (.bool (mf (bs k) l).1,(mf (bs k) l).2)) xb r Ae ok w):=by
 obtain⟨hc,hf,Bi⟩:=Ku h;cases l with
 | nil=>
  obtain⟨p,cap,rfl,_,_⟩:=hs.JF;have H:=hid h;have HS:=hid hs;clear h hs;simp only[AY,List.map_nil,List.length_nil] at hc;go_enter Tryz.func150,Tryz.ntmps150;go_wp2;go_ret;exact⟨rfl,_,H.out,HS.out,Av.refl _ _⟩
 | cons a l=>
  have dV:=hs;obtain⟨hl,⟨h1,h2⟩ | ⟨b,off,cap,rfl,h2,h3,h4,h5,h6⟩⟩:=hs
  ·cases h2
  ·have QR:=h6 0 (by simp[AY]);simp only[Nat.add_zero,AY,List.map_cons,List.getElem_cons_zero] at QR;have hlen:(AY (a::l)).length=l.length+1:=by simp[AY]
   rw[hlen] at hc h2 hl dV;have H:=hid h;have HS:=hid dV;have HX:=hid hx;have Pb:0 < l.length+1:=by omega
   unfold maxLen at h3;rw[hlen] at H;clear h dV h6 hlen hx h4;by_cases ha:bs a=bs k
   ·have q:=PD ha;have HA:=hid ha;clear ha;by_cases iA:cap=1
    ·subst iA;have JD:l=[]:=List.eq_nil_of_length_eq_zero (by omega);subst JD;clear h2 Pb hl;simp only[List.length_nil,Nat.zero_add] at hc HS H⊢;go_enter Tryz.func150,Tryz.ntmps150;go_wp2;go_ret;have k2:=H.out.set 0 (.slice (some ⟨b,off,none⟩) 0 0);have m:Av [xb] w (w.setCell ⟨xb,0,none⟩ (.slice (some ⟨b,off,none⟩) 0 0)):=(Av.refl _ _).setCell (.inl (by simp)) _;rw[gm HA.out];exact⟨rfl,_,k2,(HS.out.tail (some ⟨b,off,none⟩) (.inl ⟨rfl,rfl⟩)).Bh m (fun b hb hm=>HX.out (by rw[List.mem_singleton] at hm;rw[←hm];exact hb)),m⟩
    ·have sk:1 < cap:=by omega
     clear iA;go_enter Tryz.func150,Tryz.ntmps150;go_wp2;go_ret;have k2:=H.out.set 0 (.slice (some ⟨b,off+1,none⟩) l.length (cap - 1));have m:Av [xb] w (w.setCell ⟨xb,0,none⟩ (.slice (some ⟨b,off+1,none⟩) l.length (cap - 1))):=(Av.refl _ _).setCell (.inl (by simp)) _;have e:(AY l).length=l.length:=Cy l;have t:=HS.out.tail (some ⟨b,off+1,none⟩) (.inr rfl);rw[show(l.map Value.string)=AY l from rfl,e] at t;rw[gm HA.out];exact⟨rfl,_,k2,t.Bh m (fun b hb hm=>HX.out (by rw[List.mem_singleton] at hm;rw[←hm];exact hb)),m⟩
   ·have q:=N0 ha;have HA:=hid ha;clear ha;have q2:(a.toList !=k.toList)=true:=by rw[bne,q];rfl
    go_enter Tryz.func150,Tryz.ntmps150;go_wp2;go_ret;rw[me HA.out];exact⟨rfl,_,H.out,HS.out,Av.refl _ _⟩
def Ag.val (a:Ag):Value:= .agg #[.bool a.BF,.int .i64 a.v]
def GI.val:GI→Value
 | .J9 d a=> .iface 316 (.agg #[.int .i64 d,.bool a.BF,.int .i64 a.v])
 | .op n d a b=> .iface 290 (.agg #[.string n,.int .i64 d,.bool a.BF,.int .i64 a.v,.bool b.BF,.int .i64 b.v])
 | .load d a k=> .iface 297 (.agg #[.int .i64 d,.bool a.BF,.int .i64 a.v,.int .i64 k])
 | .store a k b=> .iface 292 (.agg #[.bool a.BF,.int .i64 a.v,.int .i64 k,.bool b.BF,.int .i64 b.v])
 | .LL d a k b c=> .iface 312 (.agg #[.int .i64 d,.bool a.BF,.int .i64 a.v,.int .i64 k,.bool b.BF,.int .i64 b.v,.bool c.BF,.int .i64 c.v])
 | .GL d a k b=> .iface 314 (.agg #[.int .i64 d,.bool a.BF,.int .i64 a.v,.int .i64 k,.bool b.BF,.int .i64 b.v])
 | .Mf=> .iface 173 (.agg #[])
 | .out a=> .iface 276 (.agg #[.bool a.BF,.int .i64 a.v])
 | .Ga q=> .iface 280 (.agg #[.int .i64 q])
 | .jz a q=> .iface 299 (.agg #[.bool a.BF,.int .i64 a.v,.int .i64 q])
 | .Eu k=> .iface 294 (.agg #[.int .i64 k])
 | .halt=> .iface 173 (.agg #[])
def V8 (l:List GI):List Value:=l.map GI.val
structure MG where
 mb:Nat
 c:SG
 a:SG
 av:List Value
def DG (a:SG) (l:List GI):Ob:= .row (.slice a.p l.length a.c) 162 1 l.length (V8 l)
def MG.Ax (g:MG) (G:GS):List Ob:=
 [.AP g.mb #[.slice g.c.p G.Af.length g.c.c,.int .i64 G.Ah,.int .i64 G.cells,.bool G.block,.slice g.a.p g.av.length g.a.c,.int .i64 G.Aj] 169,
  DG g.c G.Af,.row (.slice g.a.p g.av.length g.a.c) 1 1 g.av.length g.av]
theorem Ja (l:List GI):(V8 l).length=l.length:=by simp[V8]
theorem W3 (p:Option Addr) (c:Nat) (l:List GI) (i:GI):Ob.row (.slice p (l.length+1) c) 162 1 (l.length+1) (V8 l++(#[i.val]:Array Value).toList)=DG ⟨p,c⟩ (l++[i]):=by simp[DG,V8]
structure lT (w:World) (g:MG) (G:GS):Prop where
 c:∀i:Nat,w.cell? ⟨g.mb,i,none⟩=(#[.slice g.c.p G.Af.length g.c.c,.int .i64 G.Ah,.int .i64 G.cells,.bool G.block,.slice g.a.p g.av.length g.a.c,.int .i64 G.Aj]:Array Value)[i]?
 f:∀i:Nat,w.frozen? ⟨g.mb,i,none⟩=false
 lt:g.mb < w.heap.size
theorem AW {w:World} {g:MG} {G:GS} (h:AK w (g.Ax G)):lT w g G where
 c:=(h.AP (i:=0) rfl).cell
 f:=(h.AP (i:=0) rfl).free
 lt:=(h.AP (i:=0) rfl).lt
theorem GI.shape (i:GI):∃T u,i.val= .iface T u:=by cases i <;>exact⟨_,_,rfl⟩
theorem cE:(Tryz.prog.info? 162).map (fun i=>(i.zero,i.size,i.bytes))=some (some .nilIface,1,16):=by kernel_rfl
def Te (ret:Value) (G':GS) (g:MG) (G:GS) (w:World) (e:Ending) (w':World):Prop:=
 e= .returned ret∧∃c:SG,Ad w (g.Ax G) w' (MG.Ax {g with c:=c} G')
theorem Dq (i:GI) (w:World) (g:MG) (G:GS) (h:AK w (g.Ax G)) (hn:G.Af.length≤1000000):
  Calls Tryz.prog 81 #[.pointer (some ⟨g.mb,0,none⟩),i.val] w (Te (.tuple #[]) (G.Aq i) g G w):=by
 obtain⟨j0,hj,I9,EK,JW⟩:=info_parts cE;obtain⟨hc,hf,Bi⟩:=AW h;obtain⟨T,u,hv⟩:=GI.shape i;rw[hv];have H:=hid h;have Hv:=hid hv;clear h hv;go_enter Tryz.func81,Tryz.ntmps81;go_wp2_with (first | (at_builtin;refine CH 16 _ _ _ j0 _ #[.iface T u] _ H.out (k:=1) rfl (by rfl) (by rfl) Tryz.underlying158 hj I9 EK JW rfl (by omega) (by rfl) (by rfl) rfl (by simp[Value.oneCell']) (by unfold maxLen;omega) (by omega) ?_;intro g6 Bb w6 AI _;rw[←Hv.out,W3] at AI;have q1:=(AI.Al.AP (i:=0) rfl).cell;have q2:∀i:Nat,w6.frozen? ⟨g.mb,i,none⟩=false:=(AI.Al.AP (i:=0) rfl).free;have q3:g.mb < w6.heap.size:=(AI.Al.AP (i:=0) rfl).lt;have KS:=hid AI;clear AI hc hf Bi))
 go_end0
 have AI:=KS.out;have t1:=AI.Al.set (i:=0) rfl 0 (.slice (some ⟨g6,0,none⟩) (G.Af.length+1) Bb);refine⟨rfl,⟨some ⟨g6,0,none⟩,Bb⟩,?_⟩;have e:(G.Af++[i]).length=G.Af.length+1:=by simp
 have:=AI.trans t1;unfold MG.Ax GS.Aq;unfold MG.Ax at this;rw[e];exact this
structure Ba (w:World) (L:List Ob) (F:List (Nat×Obj)):Prop where
 heap:∀b o,(b,o)∈F→w.heap[b]?=some o
 out:∀b o,(b,o)∈F→b∉En L
theorem Ba.step {w w':World} {L L':List Ob} {F:List (Nat×Obj)} (h:Ba w L F) (k:Ad w L w' L'):Ba w' L' F:=
 ⟨fun b o hb=>k.Bh.heap (h.heap b o hb) (h.out b o hb),fun b o hb hl=>by
   rcases k.fp b hl with h1 | h1
   · exact h.out b o hb h1
   · have:=BA (h.heap b o hb);omega⟩
theorem Ba.quiet {w w':World} {L:List Ob} {F:List (Nat×Obj)} (h:Ba w L F) (k:Av [] w w'):Ba w' L F:=
 ⟨fun b o hb=>k.heap (h.heap b o hb) (by simp),h.out⟩
theorem Ba.new {w:World} {L:List Ob} {F:List (Nat×Obj)} (h:Ba w L F) (hL:AK w L) (o:Obj):Ba (w.alloc o) L ((w.heap.size,o)::F):=by
 refine⟨fun b p hb=> ?_,fun b p hb hl=> ?_⟩
 ·rcases List.mem_cons.1 hb with hb | hb
  ·cases hb;show(w.heap.push o)[w.heap.size]?=some o;simp
  ·exact((Av.refl [] w).alloc o).heap (h.heap b p hb) (by simp)
 ·rcases List.mem_cons.1 hb with hb | hb
  ·cases hb;have:=hL.lt _ hl;omega
  ·exact h.out b p hb hl
theorem Ba.nil (w:World) (L:List Ob):Ba w L []:=⟨fun b o h=>by simp at h,fun b o h=>by simp at h⟩
theorem Ba.Gq {w:World} {L:List Ob} {F E:List (Nat×Obj)} (h:Ba w L F) (k:Ba w L E):Ba w L (E++F):=
 ⟨fun b o hb=>(List.mem_append.1 hb).elim (k.heap b o) (h.heap b o),fun b o hb=>(List.mem_append.1 hb).elim (k.out b o) (h.out b o)⟩
theorem Ba.sub {w:World} {L:List Ob} {F E:List (Nat×Obj)} (h:Ba w L F) (k:∀x,x∈E→x∈F):Ba w L E:=
 ⟨fun b o hb=>h.heap b o (k _ hb),fun b o hb=>h.out b o (k _ hb)⟩
theorem Ba.cell {w:World} {L:List Ob} {F:List (Nat×Obj)} (h:Ba w L F) {b:Nat} {c:Array Value} {T:TypeId} (hb:(b,Obj.cells c T (0,0))∈F):∀i:Nat,w.cell? ⟨b,i,none⟩=c[i]?:=
 BR.cell (h.heap b _ hb)
theorem Ba.lt {w:World} {L:List Ob} {F:List (Nat×Obj)} (h:Ba w L F) {b:Nat} {o:Obj} (hb:(b,o)∈F):b < w.heap.size:=BA (h.heap b _ hb)
def IM (v:Value) (w:World) (e:Ending) (w':World):Prop:=e= .returned v∧Av [] w w'
theorem AK.quiet {w w':World} {L:List Ob} (h:AK w L) (k:Av [] w w'):AK w' L:=(Ad.quiet h k).Al
theorem Ba.free {w:World} {L:List Ob} {F:List (Nat×Obj)} (h:Ba w L F) {b:Nat} {c:Array Value} {T:TypeId} (hb:(b,Obj.cells c T (0,0))∈F):∀i:Nat,w.frozen? ⟨b,i,none⟩=false:=
 BR.free (h.heap b _ hb)
theorem B6 {w w1:World} {o:Obj} (hm:Av [] (w.alloc o) w1):Ba w1 [] [(w.heap.size,o)]:=
 (Ba.new (Ba.nil w []) (AK.nil w) o).quiet hm
theorem cell_far {w w1:World} {o:Obj} (hm:Av [] (w.alloc o) w1) {b:Nat} (hb:b < w.heap.size) (i:Nat):w1.cell? ⟨b,i,none⟩=w.cell? ⟨b,i,none⟩:=by
 have h2:w1.heap[b]?=w.heap[b]?:=(hm.block b (by show b < (w.heap.push o).size;simp;omega) (by simp)).trans (((Av.refl [] w).alloc o).block b hb (by simp));show w1.cell? _=w.cell? _;unfold World.cell?;rw[h2]
theorem Av.qO {w w1:World} {o:Obj} (hm:Av [] (w.alloc o) w1) {i j k:Nat} {x y z:Value}:Av [] w (((w1.setCell ⟨w.heap.size,i,none⟩ x).setCell ⟨w.heap.size,j,none⟩ y).setCell ⟨w.heap.size,k,none⟩ z):=by
 have h:=((Av.refl [] w).alloc o).Ac hm;exact((h.setCell (.inr (Nat.le_refl _)) _).setCell (.inr (Nat.le_refl _)) _).setCell (.inr (Nat.le_refl _)) _
theorem BD (v:Int) (w:World):Calls Tryz.prog 139 #[.int .i64 v] w (IM (.agg #[.bool false,.int .i64 v]) w):=by
 go_enter Tryz.func139,Tryz.ntmps139;go_wp2_with fail;refine bodyPost_ret (v:= .agg #[.bool false,.int .i64 v]) (by simp[results,Tryz.results139,go_sem]) rfl ⟨rfl,?_⟩;exact((Av.refl _ _).alloc _)
theorem A3 (v:Int) (w:World):Calls Tryz.prog 133 #[.int .i64 v] w (IM (.agg #[.bool true,.int .i64 v]) w):=by
 go_enter Tryz.func133,Tryz.ntmps133;go_wp2_with fail;refine bodyPost_ret (v:= .agg #[.bool true,.int .i64 v]) (by simp[results,Tryz.results133,go_sem]) rfl ⟨rfl,?_⟩;exact((Av.refl _ _).alloc _)
theorem Co (k:Int) (w:World) (g:MG) (G:GS) (h:AK w (g.Ax G)) (hb:wrap64 (G.Ah+k)=G.Ah+k):
  Calls Tryz.prog 135 #[.pointer (some ⟨g.mb,0,none⟩),.int .i64 k] w (IM (.agg #[.bool false,.int .i64 (G.Ah+k),.int .i64 0]) w):=by
 obtain⟨hc,hf,Bi⟩:=AW h;have Hb:=hid hb;clear h hb;go_enter Tryz.func135,Tryz.ntmps135;go_wp2_with fail;rw[Hb.out];refine(BD _ _).mono ?_;rintro e w1 ⟨rfl,hm⟩;have K:=B6 hm;have k0:=K.cell (List.mem_singleton.2 rfl);have k1:=K.free (List.mem_singleton.2 rfl);have k2:=K.lt (List.mem_singleton.2 rfl);go_wp2_with fail;refine bodyPost_ret (v:= .agg #[.bool false,.int .i64 (G.Ah+k),.int .i64 0]) (by simp[results,Tryz.results135,go_sem,k0]) rfl ⟨rfl,?_⟩;exact Av.qO hm
theorem Lj (k r:Int) (w:World) (g:MG) (G:GS) (h:AK w (g.Ax G)) (hb:wrap64 (G.Ah+k)=G.Ah+k):
  Calls Tryz.prog 138 #[.pointer (some ⟨g.mb,0,none⟩),.int .i64 k,.int .i64 r] w (IM (.agg #[.bool true,.int .i64 r,.int .i64 (G.Ah+k)]) w):=by
 obtain⟨hc,hf,Bi⟩:=AW h;have Hb:=hid hb;clear h hb;go_enter Tryz.func138,Tryz.ntmps138;go_upto_region 1 with fail
 have E7:g.mb < w.heap.size:=Bi;have KP:w.cell? ⟨g.mb,1,none⟩=some (.int .i64 G.Ah):=hc 1;refine Ao (l:=[(0,true),(2,true),(3,true),(4,true),(5,true),(6,true),(7,true),(1,false),(8,true),(9,false)]) (fun W=>W.cell? ⟨g.mb,1,none⟩=some (.int .i64 G.Ah)) 9 (by kernel_rfl) (by kernel_rfl) (by kernel_rfl) (by kernel_rfl) (by kernel_rfl) (fun c a d v w h=>by cases d <;>exact h) ?_ ?_
 ·go_simp
 repeat
  refine Ak (v:= ?_) rfl rfl rfl (fun W s1=> ?_) ?_;rotate_left
  ·go_simp;rfl
  simp only[Bo]
 refine Ab rfl (fun K hK=> ?_);go_simp;refine(A3 _ _).mono ?_;rintro e w1 ⟨rfl,V6⟩;have hm:=((Av.refl [] (w.alloc (.cells #[.bool false,.int .i64 0,.int .i64 0] 270))).drew).Ac V6;have K1:=B6 hm;have k0:=K1.cell (List.mem_singleton.2 rfl);have k1:=K1.free (List.mem_singleton.2 rfl);have k2:=K1.lt (List.mem_singleton.2 rfl);refine hK _ _ (fun _=>(cell_far hm E7 1).trans KP) ?_;clear hK V6;repeat
  refine Ak (v:= ?_) rfl rfl rfl (fun W s1=> ?_) ?_;rotate_left
  ·go_simp;rfl
  simp only[Bo]
 refine Ab rfl (fun K hK=> ?_);go_simp;refine hK _ _ (fun h=>absurd rfl h) ?_;simp only[A0];go_wp2_with fail;rw[IntWalk.i64_left,Hb.out];refine bodyPost_ret (v:= .agg #[.bool true,.int .i64 r,.int .i64 (G.Ah+k)]) (by simp[results,Tryz.results138,go_sem,k0]) rfl ⟨rfl,?_⟩;exact Av.qO hm
theorem Cv (r:Int) (a:Ag) (k:Int) (w:World) (g:MG) (G:GS) (h:AK w (g.Ax G)) (hn:G.Af.length≤1000000):
  Calls Tryz.prog 140 #[.pointer (some ⟨g.mb,0,none⟩),.int .i64 r,.agg #[.bool a.BF,.int .i64 a.v,.int .i64 k]] w (Te (.tuple #[]) (G.Aq (.load r a k)) g G w):=by
 have H:=hid h;clear h;go_enter Tryz.func140,Tryz.ntmps140;go_wp2_with fail;refine(Dq (.load r a k) _ g G (H.out.quiet ((Av.refl _ _).alloc _)) hn).mono ?_;rintro e w1 ⟨rfl,c,AI⟩;go_wp2_with fail
 go_end0
 exact⟨rfl,c,(Ad.alloc H.out _).trans AI⟩
theorem BM (a:Ag) (k:Int) (b:Ag) (w:World) (g:MG) (G:GS) (h:AK w (g.Ax G)) (hn:G.Af.length≤1000000):
  Calls Tryz.prog 134 #[.pointer (some ⟨g.mb,0,none⟩),.agg #[.bool a.BF,.int .i64 a.v,.int .i64 k],.agg #[.bool b.BF,.int .i64 b.v]] w (Te (.tuple #[]) (G.Aq (.store a k b)) g G w):=by
 have H:=hid h;clear h;go_enter Tryz.func134,Tryz.ntmps134;go_wp2_with fail;refine(Dq (.store a k b) _ g G (H.out.quiet (((Av.refl _ _).alloc _).alloc _)) hn).mono ?_;rintro e w1 ⟨rfl,c,AI⟩;go_wp2_with fail
 go_end0
 exact⟨rfl,c,(Ad.quiet H.out (((Av.refl _ _).alloc _).alloc _)).trans AI⟩
theorem DE (n:ByteArray) (d:Int) (a b:Ag) (w:World) (g:MG) (G:GS) (h:AK w (g.Ax G)) (hn:G.Af.length≤1000000):
  Calls Tryz.prog 132 #[.pointer (some ⟨g.mb,0,none⟩),.string n,.int .i64 d,.agg #[.bool a.BF,.int .i64 a.v],.agg #[.bool b.BF,.int .i64 b.v]] w (Te (.tuple #[]) (G.A2 n d a b) g G w):=by
 have H:=hid h;clear h;go_enter Tryz.func132,Tryz.ntmps132;go_wp2_with fail;refine(Dq (.op n d a b) _ g G (H.out.quiet (((Av.refl _ _).alloc _).alloc _)) hn).mono ?_;rintro e w1 ⟨rfl,c,AI⟩;go_wp2_with fail
 go_end0
 exact⟨rfl,c,(Ad.quiet H.out (((Av.refl _ _).alloc _).alloc _)).trans AI⟩
theorem Ba.cl {w:World} {L:List Ob} {F:List (Nat×Obj)} (h:Ba w L F) (b:Nat) (c:Array Value) (T:TypeId) (hb:(b,Obj.cells c T (0,0))∈F):(∀i:Nat,w.cell? ⟨b,i,none⟩=c[i]?)∧b < w.heap.size:=⟨h.cell hb,h.lt hb⟩
theorem L8 (w:World) (o:Obj):(w.alloc o).heap.size=w.heap.size+1:=by show(w.heap.push o).size=_;simp
theorem aw (l:List GI) (k:Nat) (i:GI):(V8 l).set k i.val=V8 (l.set k i):=by simp[V8,List.map_set]
def Pq (F:List (Nat×Obj)) (v:Value) (mb:Nat) (l:D8):Prop:=match l.a with
 | none=>∃bm bk,v= .func (.func 174) #[] #[.pointer (some ⟨bm,0,none⟩),.pointer (some ⟨bk,0,none⟩)]∧
   (bm,Obj.cells #[.pointer (some ⟨mb,0,none⟩)] 166 (0,0))∈F∧(bk,Obj.cells #[.int .i64 (l.k:Int)] 3 (0,0))∈F
 | some a=>∃ba bm bk,v= .func (.func 154) #[] #[.pointer (some ⟨ba,0,none⟩),.pointer (some ⟨bm,0,none⟩),.pointer (some ⟨bk,0,none⟩)]∧
   (ba,Obj.cells #[.bool a.BF,.int .i64 a.v] 264 (0,0))∈F∧(bm,Obj.cells #[.pointer (some ⟨mb,0,none⟩)] 166 (0,0))∈F∧(bk,Obj.cells #[.int .i64 (l.k:Int)] 3 (0,0))∈F
theorem Pq.sub {F E:List (Nat×Obj)} {v:Value} {mb:Nat} {l:D8} (h:Pq F v mb l) (k:∀x,x∈F→x∈E):Pq E v mb l:=by
 unfold Pq at h⊢;split at h
 ·obtain⟨bm,bk,h1,h2,h3⟩:=h;exact⟨bm,bk,h1,k _ h2,k _ h3⟩
 ·obtain⟨ba,bm,bk,h1,h2,h3,h4⟩:=h;exact⟨ba,bm,bk,h1,k _ h2,k _ h3,k _ h4⟩
def aH (b:Nat) (a:Ag):Nat×Obj:=(b,.cells #[.bool a.BF,.int .i64 a.v] 264 (0,0))
def Ok (b mb:Nat):Nat×Obj:=(b,.cells #[.pointer (some ⟨mb,0,none⟩)] 166 (0,0))
def P5 (b k:Nat):Nat×Obj:=(b,.cells #[.int .i64 (k:Int)] 3 (0,0))
def sP (a:Ag) (g:MG) (G:GS) (w:World) (e:Ending) (w':World):Prop:=
 ∃ba bm bk c,e= .returned (.func (.func 154) #[] #[.pointer (some ⟨ba,0,none⟩),.pointer (some ⟨bm,0,none⟩),.pointer (some ⟨bk,0,none⟩)])∧
  Ad w (g.Ax G) w' (MG.Ax {g with c:=c} (G.An a))∧Ba w' (MG.Ax {g with c:=c} (G.An a)) [P5 bk G.Af.length,aH ba a,Ok bm g.mb]∧(w.heap.size≤ba∧w.heap.size≤bm∧w.heap.size≤bk)
def sX (g:MG) (G:GS) (w:World) (e:Ending) (w':World):Prop:=
 ∃bm bk c,e= .returned (.func (.func 174) #[] #[.pointer (some ⟨bm,0,none⟩),.pointer (some ⟨bk,0,none⟩)])∧
  Ad w (g.Ax G) w' (MG.Ax {g with c:=c} G.Bc)∧Ba w' (MG.Ax {g with c:=c} G.Bc) [P5 bk G.Af.length,Ok bm g.mb]
theorem EJ (a:Ag) (w:World) (g:MG) (G:GS) (h:AK w (g.Ax G)) (hn:G.Af.length≤1000000):
  Calls Tryz.prog 141 #[.pointer (some ⟨g.mb,0,none⟩),.agg #[.bool a.BF,.int .i64 a.v]] w (sP a g G w):=by
 obtain⟨hc,hf,Bi⟩:=AW h;have H:=hid h;clear h;go_enter Tryz.func141,Tryz.ntmps141;go_wp2_with fail;have a1:=Ad.alloc H.out (.cells #[.pointer (some ⟨g.mb,0,none⟩)] 166);have K1:=(Ba.nil w (g.Ax G)).new H.out (.cells #[.pointer (some ⟨g.mb,0,none⟩)] 166);have a2:=a1.trans (Ad.alloc a1.Al (.cells #[.bool a.BF,.int .i64 a.v] 264));have K2:=K1.new a1.Al (.cells #[.bool a.BF,.int .i64 a.v] 264);have a3:=a2.trans (Ad.alloc a2.Al (.cells #[.int .i64 (G.Af.length:Int)] 3));have K3:=K2.new a2.Al (.cells #[.int .i64 (G.Af.length:Int)] 3);refine(Dq (.jz a 0) _ g G a3.Al hn).mono ?_;rintro e w1 ⟨rfl,c,AI⟩;have K4:=K3.step AI;rw[L8,L8] at K4;go_wp2_with fail;go_ret;exact⟨w.heap.size+1,w.heap.size,w.heap.size+1+1,c,rfl,a3.trans AI,K4,by omega⟩
theorem My (w:World) (g:MG) (G:GS) (h:AK w (g.Ax G)) (hn:G.Af.length≤1000000):
  Calls Tryz.prog 151 #[.pointer (some ⟨g.mb,0,none⟩)] w (sX g G w):=by
 obtain⟨hc,hf,Bi⟩:=AW h;have H:=hid h;clear h;go_enter Tryz.func151,Tryz.ntmps151;go_wp2_with fail;have a1:=Ad.alloc H.out (.cells #[.pointer (some ⟨g.mb,0,none⟩)] 166);have K1:=(Ba.nil w (g.Ax G)).new H.out (.cells #[.pointer (some ⟨g.mb,0,none⟩)] 166);have a2:=a1.trans (Ad.alloc a1.Al (.cells #[.int .i64 (G.Af.length:Int)] 3));have K2:=K1.new a1.Al (.cells #[.int .i64 (G.Af.length:Int)] 3);refine(Dq (.Ga 0) _ g G a2.Al hn).mono ?_;rintro e w1 ⟨rfl,c,AI⟩;have K4:=K2.step AI;rw[L8] at K4;go_wp2_with fail;go_ret;exact⟨w.heap.size,w.heap.size+1,c,rfl,a2.trans AI,K4⟩
theorem CQ (a:Ag) (ba bm bk k:Nat) (w:World) (g:MG) (G:GS) (F:List (Nat×Obj)) (h:AK w (g.Ax G)) (hK:Ba w (g.Ax G) F) (h1:P5 bk k∈F) (h2:aH ba a∈F) (h3:Ok bm g.mb∈F) (hn:G.Af.length≤1000000) (hk:k < G.Af.length):
  Calls Tryz.prog 154 #[.pointer (some ⟨ba,0,none⟩),.pointer (some ⟨bm,0,none⟩),.pointer (some ⟨bk,0,none⟩)] w (Te (.tuple #[]) (G.AM ⟨k,some a⟩) g G w):=by
 obtain⟨hc,hf,Bi⟩:=AW h;have c1:=hK.cell h1;have c2:=hK.cell h2;have c3:=hK.cell h3;have Hf:=h.row (i:=1) rfl;obtain⟨gb,gc,V7,_,yU,vR,vQ,So,Sn⟩:=AX Hf (by omega);have H:=hid h;have HK:=hid hK;have W8:(g.Ax G)[1]?=some (.row (.slice (some ⟨gb,0,none⟩) G.Af.length gc) 162 1 G.Af.length (V8 G.Af)):=by
  show some (DG g.c G.Af)=_;unfold DG;rw[V7]
 have AI:=fun v=>AK.Jp h W8 k (by rw[Ja];exact hk) v
 rw[V7] at hc;have rU:(k:Int) < (G.Af.length:Int):=by omega
 have jN:=So k (by rw[Ja];exact hk);generalize rG:(V8 G.Af)[k]'(by rw[Ja];exact hk)=ov at jN;have LF:=Sn k;have KS:=hid AI;have qo:=hid V7;have Hk:=hid hk;have d1:=c1 0;have d2:=c2 0;have d2':=c2 1;clear c2;have d3:=c3 0;have d4:=hc 0;clear h hK Hf V7 So Sn W8 AI rG hk c1 c3 hc hf;go_enter Tryz.func154,Tryz.ntmps154;go_upto_region 0 with fail
 refine Ao (l:=[(0,true),(1,true),(2,true),(3,true),(4,true),(5,true),(6,true),(7,true),(8,true),(9,true),(10,true),(11,true),(12,true),(13,true),(14,true),(15,false)]) (fun W=>W.cell? ⟨bk,0,none⟩=some (.int .i64 (k:Int))∧W.cell? ⟨bm,0,none⟩=some (.pointer (some ⟨g.mb,0,none⟩))∧W.cell? ⟨g.mb,0,none⟩=some (.slice (some ⟨gb,0,none⟩) G.Af.length gc)∧W.cell? ⟨ba,0,none⟩=some (.bool a.BF)∧W.cell? ⟨ba,1,none⟩=some (.int .i64 a.v)) 15 (by kernel_rfl) (by kernel_rfl) (by kernel_rfl) (by kernel_rfl) (by kernel_rfl) (fun c a d v w h=>by cases d <;>exact h) ?_ ?_
 ·exact⟨by go_simp,by go_simp,by go_simp,by go_simp,by go_simp⟩
 repeat
  refine Ak (v:= ?_) rfl rfl rfl (fun W hW=> ?_) ?_;rotate_left
  ·obtain⟨s1,s2,s3,s4,s5⟩:=hW;go_simp;rfl
  simp only[Bo]
 refine Ab rfl (fun K hK=> ?_);go_simp;refine hK _ _ (fun h=>absurd rfl h) ?_;simp only[A0];go_wp2_with fail
 go_end0
 refine⟨rfl,g.c,?_⟩;have s1:=Ad.drew H.out;have s2:=s1.trans (AK.Jp s1.Al (i:=1) (show(g.Ax G)[1]?=some (.row (.slice (some ⟨gb,0,none⟩) G.Af.length gc) 162 1 G.Af.length (V8 G.Af)) by
   show some (DG g.c G.Af)=_;unfold DG;rw[qo.out]) k (by rw[Ja];exact Hk.out) (GI.val (.jz a G.Af.length)))
 have e:(g.Ax G).set 1 (.row (.slice (some ⟨gb,0,none⟩) G.Af.length gc) 162 1 G.Af.length ((V8 G.Af).set k (GI.val (.jz a G.Af.length))))=MG.Ax g (G.AM ⟨k,some a⟩):=by
  rw[aw,←qo.out];show _=[_,_,_];simp only[MG.Ax,GS.AM,DG,List.length_set,List.set_cons_succ,List.set_cons_zero]
 rw[e] at s2;exact s2
theorem Jg (bm bk k:Nat) (w:World) (g:MG) (G:GS) (F:List (Nat×Obj)) (h:AK w (g.Ax G)) (hK:Ba w (g.Ax G) F) (h1:P5 bk k∈F) (h3:Ok bm g.mb∈F) (hn:G.Af.length≤1000000) (hk:k < G.Af.length):
  Calls Tryz.prog 174 #[.pointer (some ⟨bm,0,none⟩),.pointer (some ⟨bk,0,none⟩)] w (Te (.tuple #[]) (G.AM ⟨k,none⟩) g G w):=by
 obtain⟨hc,hf,Bi⟩:=AW h;have c1:=hK.cell h1;have c3:=hK.cell h3;have Hf:=h.row (i:=1) rfl;obtain⟨gb,gc,V7,_,yU,vR,vQ,So,Sn⟩:=AX Hf (by omega);have H:=hid h;have HK:=hid hK;have W8:(g.Ax G)[1]?=some (.row (.slice (some ⟨gb,0,none⟩) G.Af.length gc) 162 1 G.Af.length (V8 G.Af)):=by
  show some (DG g.c G.Af)=_;unfold DG;rw[V7]
 have AI:=fun v=>AK.Jp h W8 k (by rw[Ja];exact hk) v
 rw[V7] at hc;have rU:(k:Int) < (G.Af.length:Int):=by omega
 have jN:=So k (by rw[Ja];exact hk);generalize rG:(V8 G.Af)[k]'(by rw[Ja];exact hk)=ov at jN;have LF:=Sn k;have KS:=hid AI;have qo:=hid V7;have Hk:=hid hk;have d1:=c1 0
 skip
 have d3:=c3 0;have d4:=hc 0;clear h hK Hf V7 So Sn W8 AI rG hk c1 c3 hc hf;go_enter Tryz.func174,Tryz.ntmps174;go_upto_region 0 with fail
 refine Ao (l:=[(0,true),(1,true),(2,true),(3,true),(4,true),(5,true),(6,true),(7,true),(8,true),(9,true),(10,true),(11,true),(12,true),(13,false)]) (fun W=>W.cell? ⟨bk,0,none⟩=some (.int .i64 (k:Int))∧W.cell? ⟨bm,0,none⟩=some (.pointer (some ⟨g.mb,0,none⟩))∧W.cell? ⟨g.mb,0,none⟩=some (.slice (some ⟨gb,0,none⟩) G.Af.length gc)) 13 (by kernel_rfl) (by kernel_rfl) (by kernel_rfl) (by kernel_rfl) (by kernel_rfl) (fun c a d v w h=>by cases d <;>exact h) ?_ ?_
 ·exact⟨by go_simp,by go_simp,by go_simp⟩
 repeat
  refine Ak (v:= ?_) rfl rfl rfl (fun W hW=> ?_) ?_;rotate_left
  ·obtain⟨s1,s2,s3⟩:=hW;go_simp;rfl
  simp only[Bo]
 refine Ab rfl (fun K hK=> ?_);go_simp;refine hK _ _ (fun h=>absurd rfl h) ?_;simp only[A0];go_wp2_with fail
 go_end0
 refine⟨rfl,g.c,?_⟩;have s1:=Ad.drew H.out;have s2:=s1.trans (AK.Jp s1.Al (i:=1) (show(g.Ax G)[1]?=some (.row (.slice (some ⟨gb,0,none⟩) G.Af.length gc) 162 1 G.Af.length (V8 G.Af)) by
   show some (DG g.c G.Af)=_;unfold DG;rw[qo.out]) k (by rw[Ja];exact Hk.out) (GI.val (.Ga G.Af.length)))
 have e:(g.Ax G).set 1 (.row (.slice (some ⟨gb,0,none⟩) G.Af.length gc) 162 1 G.Af.length ((V8 G.Af).set k (GI.val (.Ga G.Af.length))))=MG.Ax g (G.AM ⟨k,none⟩):=by
  rw[aw,←qo.out];show _=[_,_,_];simp only[MG.Ax,GS.AM,DG,List.length_set,List.set_cons_succ,List.set_cons_zero]
 rw[e] at s2;exact s2
theorem GS.CX (g:GS) (i:GI):(g.Aq i).Af.length=g.Af.length+1:=by
 simp[GS.Aq]
theorem GS.Cg (g:GS) (i:GI):(g.Aq i).Ah=g.Ah:=rfl
theorem GS.Fb (g:GS) (i:GI):(g.Aq i).Be=g.Be:=rfl
theorem GS.FJ (g:GS) (n:ByteArray) (d:Int) (a b:Ag):(g.A2 n d a b).Af.length=g.Af.length+1:=by
 exact GS.CX _ _
theorem GS.CG (g:GS) (n:ByteArray) (d:Int) (a b:Ag):(g.A2 n d a b).Ah=g.Ah:=rfl
theorem GS.DO (g:GS) (n:ByteArray) (d:Int) (a b:Ag):(g.A2 n d a b).Be=g.Be:=rfl
theorem GS.DL (g:GS) (a:Ag):(g.An a).Af.length=g.Af.length+1:=by
 exact GS.CX _ _
theorem GS.B8 (g:GS) (a:Ag):(g.An a).Ah=g.Ah:=rfl
theorem GS.Ei (g:GS) (a:Ag):(g.An a).Be=g.Be:=rfl
theorem GS.FM (g:GS):(g.Bc).Af.length=g.Af.length+1:=by
 exact GS.CX _ _
theorem GS.Lm (g:GS):(g.Bc).Ah=g.Ah:=rfl
theorem GS.P3 (g:GS):(g.Bc).Be=g.Be:=rfl
theorem GS.Dh (g:GS) (l:D8):(g.AM l).Af.length=g.Af.length:=by
 simp[GS.AM]
theorem GS.Ce (g:GS) (l:D8):(g.AM l).Ah=g.Ah:=rfl
theorem GS.D2 (g:GS) (l:D8):(g.AM l).Be=g.Be:=rfl
theorem GS.FT (g:GS) (r k:Int):(g.lo r k).Af.length=g.Af.length+1:=by
 exact GS.CX _ _
theorem GS.DF (g:GS) (r k:Int):(g.lo r k).Ah=g.Ah:=rfl
theorem GS.IB (g:GS) (r k:Int):(g.lo r k).Be=g.Be:=rfl
theorem GS.RO (g:GS) (r t i:Int):(g.Bj r t i).Af.length=g.Af.length+1:=by
 exact GS.CX _ _
theorem GS.ME (g:GS) (r t i:Int):(g.Bj r t i).Ah=g.Ah:=rfl
theorem GS.RQ (g:GS) (r t i:Int):(g.Bj r t i).Be=g.Be:=rfl
theorem GS.LZ (g:GS) (r k:Int):(g.C7 r k).Af.length=g.Af.length+1:=by
 exact GS.CX _ _
theorem GS.Kz (g:GS) (r k:Int):(g.C7 r k).Ah=g.Ah:=rfl
theorem GS.RR (g:GS) (r k:Int):(g.C7 r k).Be=g.Be:=rfl
theorem GS.Gi (g:GS) (k:Int) (a:Ag):(g.st k a).Af.length=g.Af.length+1:=by
 exact GS.CX _ _
theorem GS.EB (g:GS) (k:Int) (a:Ag):(g.st k a).Ah=g.Ah:=rfl
theorem GS.Jo (g:GS) (k:Int) (a:Ag):(g.st k a).Be=g.Be:=rfl
theorem GS.LP (g:GS) (t i:Int) (a:Ag):(g.Fj t i a).Af.length=g.Af.length+1:=by
 exact GS.CX _ _
theorem GS.Ms (g:GS) (t i:Int) (a:Ag):(g.Fj t i a).Ah=g.Ah:=rfl
theorem GS.K7 (g:GS) (t i:Int) (a:Ag):(g.Fj t i a).Be=g.Be:=rfl
theorem GS.N1 (g:GS) (k:Int) (a:Ag):(g.HJ k a).Af.length=g.Af.length+1:=by
 exact GS.CX _ _
theorem GS.Kr (g:GS) (k:Int) (a:Ag):(g.HJ k a).Ah=g.Ah:=rfl
theorem GS.Rn (g:GS) (k:Int) (a:Ag):(g.HJ k a).Be=g.Be:=rfl
theorem GS.Jk (g:GS) (r:Int):(g.B0 r).Af.length=g.Af.length+1:=by
 exact GS.CX _ _
theorem GS.Gs (g:GS) (r:Int):(g.B0 r).Ah=g.Ah:=rfl
theorem GS.Mu (g:GS) (r:Int):(g.BI r).Af.length=g.Af.length+8:=by
 unfold GS.BI;simp only[GS.Jk,GS.FJ,GS.FT]
theorem GS.H9 (g:GS) (r:Int):(g.BI r).Ah=g.Ah:=by unfold GS.BI;simp only[GS.Gs,GS.CG,GS.DF]
theorem GS.EH (g:GS) (a:At) (r:Int):(g.AH a r).Ah=g.Ah:=by unfold GS.AH;split <;>rfl
theorem GS.Ft (g:GS) (a:At) (r:Int):(g.AH a r).Be=g.Be:=by unfold GS.AH;split <;>rfl
theorem GS.Xm (g:GS):g.KD.Af.length=g.Af.length+18:=by
 unfold GS.KD;simp only[GS.Jk,GS.FJ,GS.Mu,GS.DL,GS.FM,GS.Dh,GS.RO,GS.LP,GS.CX]
def GS.A4 (g:GS):GS:={g with Aj:=g.Aj+1}
def GS.BT (g:GS):GS:={g with Aj:=g.Aj - 1}
theorem GS.Zq (g:GS):g.A4.Af.length=g.Af.length:=rfl
theorem GS.X7 (g:GS):g.BT.Af.length=g.Af.length:=rfl
theorem BH:(∀(g:GS) (i:GI),(g.Aq i).Af.length=g.Af.length+1)∧(∀(g:GS) (n:ByteArray) (d:Int) (a b:Ag),(g.A2 n d a b).Af.length=g.Af.length+1)∧(∀(g:GS) (a:Ag),(g.An a).Af.length=g.Af.length+1)∧(∀(g:GS),(g.Bc).Af.length=g.Af.length+1)∧(∀(g:GS) (l:D8),(g.AM l).Af.length=g.Af.length)∧(∀(g:GS) (r k:Int),(g.lo r k).Af.length=g.Af.length+1)∧(∀(g:GS) (r t i:Int),(g.Bj r t i).Af.length=g.Af.length+1)∧(∀(g:GS) (r k:Int),(g.C7 r k).Af.length=g.Af.length+1)∧(∀(g:GS) (k:Int) (a:Ag),(g.st k a).Af.length=g.Af.length+1)∧(∀(g:GS) (t i:Int) (a:Ag),(g.Fj t i a).Af.length=g.Af.length+1)∧(∀(g:GS) (k:Int) (a:Ag),(g.HJ k a).Af.length=g.Af.length+1)∧(∀(g:GS) (r:Int),(g.B0 r).Af.length=g.Af.length+1)∧(∀(g:GS) (r:Int),(g.BI r).Af.length=g.Af.length+8)∧(∀(g:GS),g.KD.Af.length=g.Af.length+18)∧(∀(g:GS),g.A4.Af.length=g.Af.length)∧(∀(g:GS),g.BT.Af.length=g.Af.length):=⟨GS.CX,GS.FJ,GS.DL,GS.FM,GS.Dh,GS.FT,GS.RO,GS.LZ,GS.Gi,GS.LP,GS.N1,GS.Jk,GS.Mu,GS.Xm,GS.Zq,GS.X7⟩
theorem GS.Qh (g:GS):g.A4.Ah=g.Ah:=rfl
theorem GS.Pv (g:GS):g.BT.Ah=g.Ah:=rfl
theorem GS.VN (g:GS):g.A4.Be=g.Be:=rfl
theorem GS.U1 (g:GS):g.BT.Be=g.Be:=rfl
theorem GS.df (g:GS):g.KD.Ah=g.Ah:=by
 unfold GS.KD;simp only[GS.Gs,GS.CG,GS.H9,GS.B8,GS.Lm,GS.Ce,GS.ME,GS.Ms,GS.Cg]
theorem GS.DT (g:GS) (a:At) (r:Int):(g.AH a r).Af.length≤g.Af.length+1:=by
 unfold GS.AH;split
 ·rw[GS.FT];omega
 ·omega
def Ap (b:Int):Prop:=0≤b∧b≤100000
theorem Ap.eq {a b:Int} (h:Ap a) (e:b=a):Ap b:=e▸h
theorem Ch {b k:Int} (h:Ap b) (hk: -1000≤k∧k≤1000):wrap64 (b+k)=b+k:=by
 obtain⟨h1,h2⟩:=h;exact IntWalk.wrap64_in _ (by omega)
theorem Uk (w:World) (g:MG) (G:GS) (h:AK w (g.Ax G)) (hn:G.Af.length≤999900) (hb:Ap G.Ah):
  Calls Tryz.prog 157 #[.pointer (some ⟨g.mb,0,none⟩)] w (Te (.tuple #[]) G.G0 g G w):=by
 have H:=hid h;replace hb:=hid hb;clear h;go_enter Tryz.func157,Tryz.ntmps157;have S:=hid (Ad.refl H.out);go_wp2_with fail;refine(BD 0 _).mono ?_;rintro e w1 ⟨rfl,hm⟩;replace S:=hid (S.out.trans (Ad.quiet S.out.Al hm));clear hm;go_wp2_with fail;refine(Dq (.J9 1 (.n 0)) _ {g with c:=g.c} G S.out.Al (by (try simp only[BH]);omega)).mono ?_;rintro e w2 ⟨rfl,c3,st⟩;replace S:=hid (S.out.trans st);clear st;replace hb:=hid (Ap.eq hb.out (GS.Cg G (.J9 1 (.n 0))));obtain⟨hc,hf,Bi⟩:=AW S.out.Al;go_wp2_with fail;clear hc hf Bi;refine(Co 39 _ {g with c:=c3} (GS.Aq G (.J9 1 (.n 0))) S.out.Al (Ch (k:=39) hb.out (by omega))).mono ?_;rintro e w4 ⟨rfl,hm⟩;replace S:=hid (S.out.trans (Ad.quiet S.out.Al hm));clear hm;go_wp2_with fail;refine(Cv 2 (.n (GS.Ah (GS.Aq G (.J9 1 (.n 0)))+39)) 0 _ {g with c:=c3} (GS.Aq G (.J9 1 (.n 0))) S.out.Al (by (try simp only[BH]);omega)).mono ?_;rintro e w5 ⟨rfl,c6,st⟩;dsimp only at st;replace S:=hid (S.out.trans st);clear st;replace hb:=hid (Ap.eq hb.out (GS.DF (GS.Aq G (.J9 1 (.n 0))) 2 39));go_wp2_with fail;refine(A3 1 _).mono ?_;rintro e w7 ⟨rfl,hm⟩;replace S:=hid (S.out.trans (Ad.quiet S.out.Al hm));clear hm;go_wp2_with fail;refine(A3 2 _).mono ?_;rintro e w8 ⟨rfl,hm⟩;replace S:=hid (S.out.trans (Ad.quiet S.out.Al hm));clear hm;go_wp2_with fail;refine(DE D6 2 (.r 1) (.r 2) _ {g with c:=c6} (GS.lo (GS.Aq G (.J9 1 (.n 0))) 2 39) S.out.Al (by (try simp only[BH]);omega)).mono ?_;rintro e w9 ⟨rfl,c10,st⟩;dsimp only at st;replace S:=hid (S.out.trans st);clear st;replace hb:=hid (Ap.eq hb.out (GS.CG (GS.lo (GS.Aq G (.J9 1 (.n 0))) 2 39) D6 2 (.r 1) (.r 2)));go_wp2_with fail;refine(A3 2 _).mono ?_;rintro e w11 ⟨rfl,hm⟩;replace S:=hid (S.out.trans (Ad.quiet S.out.Al hm));clear hm;go_wp2_with fail;refine(EJ (.r 2) _ {g with c:=c10} (GS.A2 (GS.lo (GS.Aq G (.J9 1 (.n 0))) 2 39) D6 2 (.r 1) (.r 2)) S.out.Al (by (try simp only[BH]);omega)).mono ?_;rintro e w15 ⟨xg,pC,pE,c16,rfl,st,kn,r9⟩;dsimp only at st kn;clear r9;have K:=hid kn;replace S:=hid (S.out.trans st);clear kn st;replace hb:=hid (Ap.eq hb.out (GS.B8 (GS.A2 (GS.lo (GS.Aq G (.J9 1 (.n 0))) 2 39) D6 2 (.r 1) (.r 2)) (.r 2)));go_wp2_with fail;refine(Lj 40 1 _ {g with c:=c16} (GS.An (GS.A2 (GS.lo (GS.Aq G (.J9 1 (.n 0))) 2 39) D6 2 (.r 1) (.r 2)) (.r 2)) S.out.Al (Ch (k:=40) hb.out (by omega))).mono ?_;rintro e w18 ⟨rfl,hm⟩;replace K:=hid (K.out.step (Ad.quiet S.out.Al hm));replace S:=hid (S.out.trans (Ad.quiet S.out.Al hm));clear hm;go_wp2_with fail;refine(Cv 2 (.r 1) (GS.Ah (GS.An (GS.A2 (GS.lo (GS.Aq G (.J9 1 (.n 0))) 2 39) D6 2 (.r 1) (.r 2)) (.r 2))+40) _ {g with c:=c16} (GS.An (GS.A2 (GS.lo (GS.Aq G (.J9 1 (.n 0))) 2 39) D6 2 (.r 1) (.r 2)) (.r 2)) S.out.Al (by (try simp only[BH]);omega)).mono ?_;rintro e w19 ⟨rfl,c20,st⟩;dsimp only at st;replace K:=hid (K.out.step st);replace S:=hid (S.out.trans st);clear st;replace hb:=hid (Ap.eq hb.out (GS.ME (GS.An (GS.A2 (GS.lo (GS.Aq G (.J9 1 (.n 0))) 2 39) D6 2 (.r 1) (.r 2)) (.r 2)) 2 40 1));go_wp2_with fail;refine(A3 2 _).mono ?_;rintro e w21 ⟨rfl,hm⟩;replace K:=hid (K.out.step (Ad.quiet S.out.Al hm));replace S:=hid (S.out.trans (Ad.quiet S.out.Al hm));clear hm;go_wp2_with fail;refine(Dq (.out (.r 2)) _ {g with c:=c20} (GS.Bj (GS.An (GS.A2 (GS.lo (GS.Aq G (.J9 1 (.n 0))) 2 39) D6 2 (.r 1) (.r 2)) (.r 2)) 2 40 1) S.out.Al (by (try simp only[BH]);omega)).mono ?_;rintro e w22 ⟨rfl,c23,st⟩;dsimp only at st;replace K:=hid (K.out.step st);replace S:=hid (S.out.trans st);clear st;replace hb:=hid (Ap.eq hb.out (GS.Cg (GS.Bj (GS.An (GS.A2 (GS.lo (GS.Aq G (.J9 1 (.n 0))) 2 39) D6 2 (.r 1) (.r 2)) (.r 2)) 2 40 1) (.out (.r 2))));go_wp2_with fail;refine(A3 1 _).mono ?_;rintro e w24 ⟨rfl,hm⟩;replace K:=hid (K.out.step (Ad.quiet S.out.Al hm));replace S:=hid (S.out.trans (Ad.quiet S.out.Al hm));clear hm;go_wp2_with fail;refine(BD 1 _).mono ?_;rintro e w25 ⟨rfl,hm⟩;replace K:=hid (K.out.step (Ad.quiet S.out.Al hm));replace S:=hid (S.out.trans (Ad.quiet S.out.Al hm));clear hm;go_wp2_with fail;refine(DE Fk 1 (.r 1) (.n 1) _ {g with c:=c23} (GS.Aq (GS.Bj (GS.An (GS.A2 (GS.lo (GS.Aq G (.J9 1 (.n 0))) 2 39) D6 2 (.r 1) (.r 2)) (.r 2)) 2 40 1) (.out (.r 2))) S.out.Al (by (try simp only[BH]);omega)).mono ?_;rintro e w26 ⟨rfl,c27,st⟩;dsimp only at st;replace K:=hid (K.out.step st);replace S:=hid (S.out.trans st);clear st;replace hb:=hid (Ap.eq hb.out (GS.CG (GS.Aq (GS.Bj (GS.An (GS.A2 (GS.lo (GS.Aq G (.J9 1 (.n 0))) 2 39) D6 2 (.r 1) (.r 2)) (.r 2)) 2 40 1) (.out (.r 2))) Fk 1 (.r 1) (.n 1)));go_wp2_with fail;refine(Dq (.Ga (GS.Af (GS.Aq G (.J9 1 (.n 0)))).length) _ {g with c:=c27} (GS.A2 (GS.Aq (GS.Bj (GS.An (GS.A2 (GS.lo (GS.Aq G (.J9 1 (.n 0))) 2 39) D6 2 (.r 1) (.r 2)) (.r 2)) 2 40 1) (.out (.r 2))) Fk 1 (.r 1) (.n 1)) S.out.Al (by (try simp only[BH]);omega)).mono ?_;rintro e w28 ⟨rfl,c29,st⟩;dsimp only at st;replace K:=hid (K.out.step st);replace S:=hid (S.out.trans st);clear st;replace hb:=hid (Ap.eq hb.out (GS.Cg (GS.A2 (GS.Aq (GS.Bj (GS.An (GS.A2 (GS.lo (GS.Aq G (.J9 1 (.n 0))) 2 39) D6 2 (.r 1) (.r 2)) (.r 2)) 2 40 1) (.out (.r 2))) Fk 1 (.r 1) (.n 1)) (.Ga (GS.Af (GS.Aq G (.J9 1 (.n 0)))).length)));go_wp2_with fail;refine(CQ (.r 2) xg pC pE ((GS.Af (GS.A2 (GS.lo (GS.Aq G (.J9 1 (.n 0))) 2 39) D6 2 (.r 1) (.r 2))).length) _ {g with c:=c29} (GS.Aq (GS.A2 (GS.Aq (GS.Bj (GS.An (GS.A2 (GS.lo (GS.Aq G (.J9 1 (.n 0))) 2 39) D6 2 (.r 1) (.r 2)) (.r 2)) 2 40 1) (.out (.r 2))) Fk 1 (.r 1) (.n 1)) (.Ga (GS.Af (GS.Aq G (.J9 1 (.n 0)))).length)) _ S.out.Al K.out (by simp) (by simp) (by simp) (by (try simp only[BH]);omega) (by (try simp only[BH]);omega)).mono ?_;rintro e w30 ⟨rfl,c31,st⟩;dsimp only at st;replace K:=hid (K.out.step st);replace S:=hid (S.out.trans st);clear st;replace hb:=hid (Ap.eq hb.out (GS.Ce (GS.Aq (GS.A2 (GS.Aq (GS.Bj (GS.An (GS.A2 (GS.lo (GS.Aq G (.J9 1 (.n 0))) 2 39) D6 2 (.r 1) (.r 2)) (.r 2)) 2 40 1) (.out (.r 2))) Fk 1 (.r 1) (.n 1)) (.Ga (GS.Af (GS.Aq G (.J9 1 (.n 0)))).length)) ⟨(GS.Af (GS.A2 (GS.lo (GS.Aq G (.J9 1 (.n 0))) 2 39) D6 2 (.r 1) (.r 2))).length,some (.r 2)⟩));go_wp2_with fail
 go_end0
 exact⟨rfl,c31,S.out⟩
theorem Ad.N8 {w w':World} {L L':List Ob} (h:Ad w L w' L') {b:Nat} (hb:w.heap.size≤b) (hn:b∉En L') (i:Nat) (v:Value):Ad w L (w'.setCell ⟨b,i,none⟩ v) L':=
 ⟨h.Al.Bh ((Av.refl [b] w').setCell (.inl (by simp)) v) (fun x hx hm=>by rw[List.mem_singleton] at hm;subst hm;exact hn hx),h.Bh.setCell (.inr hb) v,h.fp⟩
inductive XS (F:List (Nat×Obj)) (mb:Nat):List Value→List D8→Prop
 | nil:XS F mb [] []
 | cons {v:Value} {l:D8} {vs:List Value} {ls:List D8}:Pq F v mb l→XS F mb vs ls→XS F mb (v::vs) (l::ls)
theorem XS.sub {F E:List (Nat×Obj)} {mb:Nat} {vs:List Value} {ls:List D8} (h:XS F mb vs ls) (k:∀x,x∈F→x∈E):XS E mb vs ls:=by
 induction h with
 | nil=>exact .nil
 | cons a b ih=>exact .cons (a.sub k) ih
theorem XS.Ec {F:List (Nat×Obj)} {mb:Nat} {vs us:List Value} {ls ms:List D8} (h:XS F mb vs ls) (k:XS F mb us ms):XS F mb (vs++us) (ls++ms):=by
 induction h with
 | nil=>exact k
 | cons a b ih=>exact .cons a ih
structure Io (F:List (Nat×Obj)) (mb n:Nat) (vs:List Value) (ls:List D8):Prop where
 all:XS F mb vs ls
 lt:∀l,l∈ls→l.k < n
theorem Io.nil (F:List (Nat×Obj)) (mb n:Nat):Io F mb n [] []:=⟨.nil,by simp⟩
theorem Io.up {F E:List (Nat×Obj)} {mb n m:Nat} {vs:List Value} {ls:List D8} (h:Io F mb n vs ls) (k:∀x,x∈F→x∈E) (hn:n≤m):Io E mb m vs ls:=
 ⟨h.all.sub k,fun l hl=>Nat.lt_of_lt_of_le (h.lt l hl) hn⟩
theorem Io.aZ {w:World} {L:List Ob} {F E:List (Nat×Obj)} {mb n:Nat} {vs:List Value} {ls:List D8} (h:Io F mb n vs ls) (_:Ba w L E) (k:∀x,x∈F→x∈E):Io E mb n vs ls:=h.up k (Nat.le_refl _)
theorem Io.Ec {F E:List (Nat×Obj)} {mb n m:Nat} {vs us:List Value} {ls ms:List D8} (h:Io F mb n vs ls) (k:Io E mb m us ms) (hn:n≤m):Io (E++F) mb m (vs++us) (ls++ms):=
 ⟨(h.all.sub fun _ hx=>List.mem_append_right _ hx).Ec (k.all.sub fun _ hx=>List.mem_append_left _ hx),fun l hl=>(List.mem_append.1 hl).elim (fun h1=>Nat.lt_of_lt_of_le (h.lt l h1) hn) (k.lt l)⟩
def mU (G':GS) (g:MG) (G:GS) (w:World) (e:Ending) (w':World):Prop:=
 e= .returned (.tuple #[])∧∃c a vs ls E,G'.Be=G.Be++ls∧Ad w (g.Ax G) w' (MG.Ax {g with c:=c,a:=a,av:=g.av++vs} G')∧
  Ba w' (MG.Ax {g with c:=c,a:=a,av:=g.av++vs} G') E∧Io E g.mb G'.Af.length vs ls∧vs.length+G.Af.length≤G'.Af.length
theorem Kf {x y z l1 l2:List D8} (h:y=x++l1) (k:z=y++l2):z=x++(l1++l2):=by rw[k,h,List.append_assoc]
theorem Po (x:List D8):x=x++[]:=(List.append_nil x).symm
theorem aa:(Tryz.prog.info? 1).map (fun i=>(i.zero,i.size,i.bytes))=some (some .nilFunc,1,8):=by kernel_rfl
theorem Ka (l:List Value) (v:Value):l++(#[v]:Array Value).toList=l++[v]:=rfl
theorem Lk (r:Int) (w:World) (g:MG) (G:GS) (h:AK w (g.Ax G)) (hn:G.Af.length≤1000000) (ha:g.av.length≤G.Af.length):
  Calls Tryz.prog 153 #[.pointer (some ⟨g.mb,0,none⟩),.int .i64 r] w (mU (G.B0 r) g G w):=by
 obtain⟨j0,hj,I9,EK,JW⟩:=info_parts aa;have H:=hid h;clear h;go_enter Tryz.func153,Tryz.ntmps153;go_wp2_with fail;refine(A3 _ _).mono ?_;rintro e w1 ⟨rfl,hm⟩;have S:=hid (Ad.quiet H.out hm);go_wp2_with fail;refine(EJ (.r r) _ g G S.out.Al hn).mono ?_;rintro e w2 ⟨ba,bm,bk,c,rfl,st,kn,_⟩;replace S:=hid (S.out.trans st);have K:=hid kn;obtain⟨hc,hf,Bi⟩:=AW S.out.Al;clear kn st hm;go_wp2_with (first | (at_builtin;refine CH 8 _ _ _ j0 _ #[.func (.func 154) #[] #[.pointer (some ⟨ba,0,none⟩),.pointer (some ⟨bm,0,none⟩),.pointer (some ⟨bk,0,none⟩)]] _ S.out.Al (k:=2) rfl (by rfl) (by rfl) Tryz.underlying167 hj I9 EK JW rfl (by omega) (by rfl) (by rfl) rfl (by simp[Value.oneCell']) (show g.av.length+1≤maxLen by unfold maxLen;omega) (show(g.av.length+1)*8≤_ by omega) ?_;intro g6 Bb w6 AI _;rw[Ka] at AI;have q1:=(AI.Al.AP (i:=0) rfl).cell;have q2:∀i:Nat,w6.frozen? ⟨g.mb,i,none⟩=false:=(AI.Al.AP (i:=0) rfl).free;have q3:g.mb < w6.heap.size:=(AI.Al.AP (i:=0) rfl).lt;have KS:=hid AI;clear AI hc hf Bi))
 go_end0
 have AI:=KS.out;have t1:=AI.Al.set (i:=0) rfl 4 (.slice (some ⟨g6,0,none⟩) (g.av.length+1) Bb);have s2:=AI.trans t1;have e:∀v:Value,(g.av++[v]).length=g.av.length+1:=fun v=>by simp
 have s3:Ad w2 (MG.Ax {g with c:=c} (G.An (.r r))) (w6.setCell ⟨g.mb,4,none⟩ (.slice (some ⟨g6,0,none⟩) (g.av.length+1) Bb)) (MG.Ax {g with c:=c,a:=⟨some ⟨g6,0,none⟩,Bb⟩,av:=g.av++[.func (.func 154) #[] #[.pointer (some ⟨ba,0,none⟩),.pointer (some ⟨bm,0,none⟩),.pointer (some ⟨bk,0,none⟩)]]} (G.B0 r)):=by
  unfold MG.Ax at s2⊢;rw[e];exact s2
 refine⟨rfl,c,⟨some ⟨g6,0,none⟩,Bb⟩,[.func (.func 154) #[] #[.pointer (some ⟨ba,0,none⟩),.pointer (some ⟨bm,0,none⟩),.pointer (some ⟨bk,0,none⟩)]],[G.Ex (.r r)],_,rfl,S.out.trans s3,K.out.step s3,?_⟩;refine⟨⟨.cons ?_ .nil,fun l hl=> ?_⟩,by rw[GS.Jk];simp;omega⟩
 ·exact⟨ba,bm,bk,rfl,by simp[aH],by simp[Ok],by simp[P5,GS.Ex]⟩
 ·rw[List.mem_singleton] at hl;subst hl;rw[GS.Jk];exact Nat.lt_succ_self _
def Ag.cells (a:Ag):Array Value:= #[.bool a.BF,.int .i64 a.v]
theorem EZ (a:At) (r:Int) (w:World) (g:MG) (G:GS) (h:AK w (g.Ax G)) (hn:G.Af.length≤1000000) (Gd:Ap G.Ah) (Qq:Gn a):
  Calls Tryz.prog 131 #[.pointer (some ⟨g.mb,0,none⟩),.agg #[.bool a.AL,.int .i64 a.v],.int .i64 r] w (Te (.agg #[.bool (GS.As a r).BF,.int .i64 (GS.As a r).v]) (G.AH a r) g G w):=by
 obtain⟨lc,v⟩:=a;have H:=hid h;have hb:=hid Gd;clear Gd;cases lc with
 | false=>
  clear h Qq;go_enter Tryz.func131,Tryz.ntmps131;go_wp2_with fail;refine(BD _ _).mono ?_;rintro e w1 ⟨rfl,hm⟩;have K:=(Ba.new (Ba.nil (w.alloc (.cells #[.bool false,.int .i64 v] 235)) []) (AK.nil _) (.cells #[.bool false,.int .i64 0] 264)).quiet hm;rw[L8] at K;have k0:=K.cell (List.mem_singleton.2 rfl);have k1:=K.free (List.mem_singleton.2 rfl);have k2:=K.lt (List.mem_singleton.2 rfl);go_wp2_with fail;refine bodyPost_ret (v:= .agg #[.bool false,.int .i64 v]) (by simp[results,Tryz.results131,go_sem,k0]) rfl ⟨rfl,g.c,?_⟩;have m:Av [] w w1:=(((Av.refl [] w).alloc _).alloc _).Ac hm;exact Ad.quiet H.out ((m.setCell (.inr (by simp)) _).setCell (.inr (by simp)) _)
 | true=>
  have hv:0≤v∧v < 4:=by simpa[Gn] using Qq
  clear h Qq;go_enter Tryz.func131,Tryz.ntmps131;go_wp2_with fail;have m0:=((Av.refl [] w).alloc (.cells #[.bool true,.int .i64 v] 235)).alloc (.cells #[.bool false,.int .i64 0] 264);have S:=hid (Ad.quiet H.out m0);have kk:=(Ba.new (Ba.nil (w.alloc (.cells #[.bool true,.int .i64 v] 235)) (g.Ax G)) (Ad.alloc H.out _).Al (.cells #[.bool false,.int .i64 0] 264));rw[L8] at kk;have K:=hid kk;clear kk m0;refine(Co v _ g G S.out.Al (Ch hb.out (by omega))).mono ?_;rintro e w1 ⟨rfl,hm⟩;replace K:=hid (K.out.quiet hm);replace S:=hid (S.out.trans (Ad.quiet S.out.Al hm));clear hm;go_wp2_with fail;refine(Cv r (.n (G.Ah+v)) 0 _ g G S.out.Al hn).mono ?_;rintro e w2 ⟨rfl,c,st⟩;replace K:=hid (K.out.step st);replace S:=hid (S.out.trans st);clear st;go_wp2_with fail;refine(A3 r _).mono ?_;rintro e w3 ⟨rfl,hm⟩;replace K:=hid (K.out.quiet hm);replace S:=hid (S.out.trans (Ad.quiet S.out.Al hm));clear hm;have k0:=K.out.cell (List.mem_singleton.2 rfl);have k1:=K.out.free (List.mem_singleton.2 rfl);have k2:=K.out.lt (List.mem_singleton.2 rfl);go_wp2_with fail;refine bodyPost_ret (v:= .agg #[.bool true,.int .i64 r]) (by simp[results,Tryz.results131,go_sem,k0]) rfl ⟨rfl,c,?_⟩;have hk:=K.out.out _ _ (List.mem_singleton.2 rfl);have hle:w.heap.size≤w.heap.size+1:=Nat.le_succ _;exact(S.out.N8 hle hk 0 _).N8 hle hk 1 _
end Go.Proofs.YtpdfifdlhpmofaaGreatDoor
