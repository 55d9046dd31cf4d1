/-
  Part 12 of the proof.
-/
import Derived.Test.YtpdfifdlhpmofaaGreatDoorZ07
import Derived.Test.YtpdfifdlhpmofaaGreatDoorZ11
set_option linter.unusedVariables false
set_option linter.unusedSimpArgs false
set_option maxHeartbeats 3200000
set_option maxRecDepth 100000
namespace Go.Proofs.YtpdfifdlhpmofaaGreatDoor
open Go.RowKit Tryz
open Go.Lib (hid)
theorem ma3 {p:Prop} (h:p:=by
 have Hpb:=hid J1;clear J1;go_wp2_with fail
 go_round
 case rel=>(try rw[inc]);exact⟨k+1,r,rfl,Y,lQ.out▸H5.out,by rw[Ty.out];simp[Cr,Hpb.out],Y⟩
 case measure=>(try rw[inc]);simp[intOf];omega):p:=h
theorem mbC {p:Prop} (h:p:=by
 go_wp2_with fail;refine(Fi _ xb r _ Ae H).mono ?_;rintro e w1 ⟨⟨fb,rfl,hb⟩,hm⟩;go_wp2;exact⟨rfl,⟨fb,rfl,hb⟩,hm.nil⟩):p:=h
theorem mbF {p:Prop} (h:p:=by
 rintro e w1 ⟨rfl,c,AD⟩;go_wp2_with fail
 go_end0
 exact⟨rfl,c,(Ak.quiet H (((Av.refl _ _).alloc _).alloc _)).trans AD⟩):p:=h
theorem mbS {p:Prop} (h:p:=by
 rw[kY,<-Hge.out];show _=[_,_,_];simp only[MG.Ar,GS.Bd,D2,Qaa,Qbl,Qcd]):p:=h
variable {Ae b:Int} {w w1 w':World} {r:Ws} {n mb m:Nat} {k:By} {a:ByteArray} {L L':List Ob} {F E:List (Nat×Obj)} {o:Obj} {v sl:Value} {vs us ws:List Value} {ls ms:List Ij} {t:Bt} {ts:List Bt}
def AcF (c Ae:Int) (e:Ending) (w':World):Prop:=
 ∃fb,e= .panicked [{v:= .iface 123 (i6 fb),recovered:=false}]/\w'.heap[fb]?=some (.cells #[i5 c,i5 Ae] 127 (0,0))
def F1 (M:List Nat) (c Ae:Int) (w:World) (e:Ending) (w':World):Prop:=AcF c Ae e w'/\Av M w w'
theorem F1.trans {M N:List Nat} {c:Int} {w2:World} {e:Ending} (h:F1 N c Ae w1 e w2) (k:Av M w w1) (hN:∀x,x∈N->x∈M\/w.heap.size<=x):F1 M c Ae w e w2:=⟨h.1,k.trans h.2 hN⟩
theorem AQ (c Ae:Int) (w:World):Calls prog 69 #[i5 c,i5 Ae] w (F1 [] c Ae w):=by
 go_enter func69,ntmps69;go_wp2;exact⟨rfl,⟨_,rfl,by show(w.heap.push _)[w.heap.size]?=_;simp⟩,(Av.refl _ _).alloc _⟩
structure PV where
 p:Value
 s:Value
 l:Value
 o:Value
 n:Value
def PV.cells (r:PV) (wv:Value) (Ae:Int):Array Value:= #[wv,i5 Ae,r.p,r.s,r.l,r.o,r.n]
abbrev b9 (w:World) (xb:Nat) (r:PV) (wv:Value) (Ae:Int):Prop:=BM w xb (r.cells wv Ae) 151
structure PxF (w:World) (xb:Nat) (r:PV) (wv:Value) (Ae:Int):Prop where
 c:∀i:Nat,w.cell? ⟨xb,i,none⟩=(#[wv,i5 Ae,r.p,r.s,r.l,r.o,r.n]:Array Value)[i]?
 f:∀i:Nat,w.frozen? ⟨xb,i,none⟩=false
 lt:xb < w.heap.size
theorem LY {xb:Nat} {r:PV} {wv:Value} (h:b9 w xb r wv Ae):PxF w xb r wv Ae:=⟨h.cell,h.free,h.lt⟩
theorem Fi (w:World) (xb:Nat) (r:PV) (wv:Value) (Ae:Int) (h:b9 w xb r wv Ae):
  Calls prog 73 #[i6 xb] w (F1 [] 2 Ae w):=by
 obtain⟨hc,hf,AX⟩:=LY h;clear h;go_enter func73,ntmps73;go_wp2_with fail;refine(AQ _ _ _).mono ?_;rintro e w1 ⟨⟨fb,rfl,hb⟩,hm⟩;go_wp2;exact mbg
def Nv (res:Option (Value×Ws)) (xb:Nat) (r:PV) (Ae:Int) (ok:Nat->Prop) (w:World) (e:Ending) (w':World):Prop:=
 match res with
 | none=>F1 [xb] 2 Ae w e w'
 | some (v,l')=>e= .returned v/\∃wv',b9 w' xb r wv' Ae/\Sl w' ok wv' (A3 l')/\Av [xb] w w'
def Adc:Ws->Option (ByteArray×Ws)
 | []=>none
 | a::r=>some (a,r)
theorem Sl.tail {ok:Nat->Prop} {b off cap:Nat} {x:Value} {xs:List Value} (h:Sl w ok (.slice (some ⟨b,off,none⟩) n cap) (x::xs)) (p:Option Addr) (hp:p=some ⟨b,off,none⟩/\cap=1\/p=some ⟨b,off+1,none⟩):
  Sl w ok (.slice p xs.length (cap - 1)) xs:=by
 obtain⟨hl,⟨h1,_⟩ | ⟨b',off',cap',h1,h2,h3,h4,h5,h6⟩⟩:=h
 ·cases h1
 ·cases h1;simp only[IR] at hl h2;refine⟨Y,.inr ?_⟩;rcases hp with⟨rfl,h7⟩ | rfl
  ·refine⟨b,off,cap - 1,rfl,Y,Y,h4,h5,fun i hi=>Y⟩
  ·refine⟨b,off+1,cap - 1,rfl,Y,Y,h4,h5,fun i hi=> ?_⟩;have:=h6 (i+1) (by simp;omega);rw[show off+(i+1)=off+1+i by omega] at this;simpa using this
theorem Je (l:Ws) (w:World) (xb:Nat) (r:PV) (wv:Value) (Ae:Int) (ok:Nat->Prop) (h:b9 w xb r wv Ae) (hs:Sl w ok wv (A3 l)) (hx:¬ok xb):
  Calls prog 96 #[i6 xb] w (Nv ((Adc l).map fun p=>(.string p.1,p.2)) xb r Ae ok w):=by
 obtain⟨hc,hf,AX⟩:=LY h;cases l with
 | nil=>
  obtain⟨p,cap,rfl,_,_⟩:=hs.KO;have H:=hid h;clear h hs;simp only[A3,Qch,m7] at hc;go_enter func96,ntmps96;exact mbC
 | cons a l=>
  have bj:=hs;obtain⟨hl,⟨h1,h2⟩ | ⟨b,off,cap,rfl,h2,h3,h4,h5,h6⟩⟩:=hs
  ·cases h2
  ·have Ui:=h6 0 (by simp[A3]);simp only[Qaj,A3,d8,List.getElem_cons_zero] at Ui;have hlen:(A3 (a::l)).length=l.length+1:=by simp[A3]
   rw[hlen] at hc h2 hl bj;have H:=hid h;have HS:=hid bj;have HX:=hid hx;have H4:=hid h4;have Mu:0 < l.length+1:=Y
   unfold maxLen at h3;clear h bj h6 hlen hx h4;by_cases eG:cap=1
   ·subst eG;have KL:l=[]:=RK Y;subst KL;clear h2 Mu hl;simp only[m7,Qaw] at hc HS⊢;go_enter func96,ntmps96;go_wp2;go_ret;have k:=H.set 0 (.slice (some ⟨b,off,none⟩) 0 0);have m:Av [xb] w (w.setCell ⟨xb,0,none⟩ (.slice (some ⟨b,off,none⟩) 0 0)):=(Av.refl _ _).setCell (.inl EQ) _;exact⟨rfl,_,k,(HS.tail (some ⟨b,off,none⟩) (.inl ⟨rfl,rfl⟩)).Bf m (fun b hb hm=>HX.out (by rw[Z] at hm;rw[<-hm];exact hb)),m⟩
   ·have AaN:1 < cap:=Y
    clear eG;go_enter func96,ntmps96;go_wp2;go_ret;have k:=H.set 0 (.slice (some ⟨b,off+1,none⟩) l.length (cap - 1));have m:Av [xb] w (w.setCell ⟨xb,0,none⟩ (.slice (some ⟨b,off+1,none⟩) l.length (cap - 1))):=(Av.refl _ _).setCell (.inl EQ) _;have e:(A3 l).length=l.length:=CK l;have t:=HS.tail (some ⟨b,off+1,none⟩) (.inr rfl);rw[show(l.map Value.string)=A3 l from rfl,e] at t;exact⟨rfl,_,k,t.Bf m (fun b hb hm=>HX.out (by rw[Z] at hm;rw[<-hm];exact hb)),m⟩
theorem DU (l:Ws) (w:World) (xb:Nat) (r:PV) (wv:Value) (Ae:Int) (ok:Nat->Prop) (h:b9 w xb r wv Ae) (hs:Sl w ok wv (A3 l)):
  Calls prog 99 #[i6 xb] w (Nv (GK (.tuple #[],([]:Ws)) l) xb r Ae ok w):=by
 obtain⟨hc,hf,AX⟩:=LY h;obtain⟨p,cap,rfl,_,_⟩:=hs.KO;have H:=hid h;have HS:=hid hs;clear h hs;cases l with
 | nil=>
  simp only[A3,Qch,m7] at hc;go_enter func99,ntmps99;go_wp2
  go_end0
  exact⟨rfl,_,H,HS,Av.refl _ _⟩
 | cons a l=>
  have hlen:(A3 (a::l)).length=l.length+1:=by simp[A3]
  rw[hlen] at hc;clear hlen;go_enter func99,ntmps99;exact mbC
def isF (k:By):Ws->Bool×Ws
 | []=>(false,[])
 | a::r=>if bs a=k then (true,r) else (false,a::r)
theorem tN (h:bs a=k):isF k (a::r)=(true,r):=by simp[isF,h]
theorem Aaz (h:¬bs a=k):isF k (a::r)=(false,a::r):=by simp[isF,h]
theorem zN (k:ByteArray) (l:Ws) (w:World) (xb:Nat) (r:PV) (wv:Value) (Ae:Int) (ok:Nat->Prop) (h:b9 w xb r wv Ae) (hs:Sl w ok wv (A3 l)) (hx:¬ok xb):
  Calls prog 150 #[i6 xb,.string k] w (Nv (some (.bool (isF (bs k) l).1,(isF (bs k) l).2)) xb r Ae ok w):=by
 obtain⟨hc,hf,AX⟩:=LY h;cases l with
 | nil=>
  obtain⟨p,cap,rfl,_,_⟩:=hs.KO;have H:=hid h;have HS:=hid hs;clear h hs;simp only[A3,Qch,m7] at hc;go_enter func150,ntmps150;go_wp2;go_ret;exact⟨rfl,_,H,HS,Av.refl _ _⟩
 | cons a l=>
  have bj:=hs;obtain⟨hl,⟨h1,h2⟩ | ⟨b,off,cap,rfl,h2,h3,h4,h5,h6⟩⟩:=hs
  ·cases h2
  ·have Ui:=h6 0 (by simp[A3]);simp only[Qaj,A3,d8,List.getElem_cons_zero] at Ui;have hlen:(A3 (a::l)).length=l.length+1:=by simp[A3]
   rw[hlen] at hc h2 hl bj;have H:=hid h;have HS:=hid bj;have HX:=hid hx;have Mu:0 < l.length+1:=Y
   unfold maxLen at h3;rw[hlen] at H;clear h bj h6 hlen hx h4;by_cases ha:bs a=bs k
   ·have q:=TN ha;have HA:=hid ha;clear ha;by_cases eG:cap=1
    ·subst eG;have KL:l=[]:=RK Y;subst KL;clear h2 Mu hl;simp only[m7,Qaw] at hc HS H⊢;go_enter func150,ntmps150;go_wp2;go_ret;have k2:=H.set 0 (.slice (some ⟨b,off,none⟩) 0 0);have m:Av [xb] w (w.setCell ⟨xb,0,none⟩ (.slice (some ⟨b,off,none⟩) 0 0)):=(Av.refl _ _).setCell (.inl EQ) _;rw[tN HA.out];exact⟨rfl,_,k2,(HS.tail (some ⟨b,off,none⟩) (.inl ⟨rfl,rfl⟩)).Bf m (fun b hb hm=>HX.out (by rw[Z] at hm;rw[<-hm];exact hb)),m⟩
    ·have AaN:1 < cap:=Y
     clear eG;go_enter func150,ntmps150;go_wp2;go_ret;have k2:=H.set 0 (.slice (some ⟨b,off+1,none⟩) l.length (cap - 1));have m:Av [xb] w (w.setCell ⟨xb,0,none⟩ (.slice (some ⟨b,off+1,none⟩) l.length (cap - 1))):=(Av.refl _ _).setCell (.inl EQ) _;have e:(A3 l).length=l.length:=CK l;have t:=HS.tail (some ⟨b,off+1,none⟩) (.inr rfl);rw[show(l.map Value.string)=A3 l from rfl,e] at t;rw[tN HA.out];exact⟨rfl,_,k2,t.Bf m (fun b hb hm=>HX.out (by rw[Z] at hm;rw[<-hm];exact hb)),m⟩
   ·have q:=Q8 ha;have HA:=hid ha;clear ha;have q2:(a.toList !=k.toList)=true:=by rw[bne,q];rfl
    go_enter func150,ntmps150;go_wp2;go_ret;rw[Aaz HA.out];exact⟨rfl,_,H,HS,Av.refl _ _⟩
def Ag.val (a:Ag):Value:= .agg #[.bool a.B0,i5 a.v]
def GI.val:GI->Value
 | .Sq d a=> .iface 316 (.agg #[i5 d,.bool a.B0,i5 a.v])
 | .op n d a b=> .iface 290 (.agg #[.string n,i5 d,.bool a.B0,i5 a.v,.bool b.B0,i5 b.v])
 | .load d a k=> .iface 297 (.agg #[i5 d,.bool a.B0,i5 a.v,i5 k])
 | .store a k b=> .iface 292 (.agg #[.bool a.B0,i5 a.v,i5 k,.bool b.B0,i5 b.v])
 | .JL d a k b c=> .iface 312 (.agg #[i5 d,.bool a.B0,i5 a.v,i5 k,.bool b.B0,i5 b.v,.bool c.B0,i5 c.v])
 | .DL d a k b=> .iface 314 (.agg #[i5 d,.bool a.B0,i5 a.v,i5 k,.bool b.B0,i5 b.v])
 | .IV=> .iface 173 (.agg #[])
 | .out a=> .iface 276 (.agg #[.bool a.B0,i5 a.v])
 | .Gb q=> .iface 280 (.agg #[i5 q])
 | .jz a q=> .iface 299 (.agg #[.bool a.B0,i5 a.v,i5 q])
 | .EF k=> .iface 294 (.agg #[i5 k])
 | .halt=> .iface 173 (.agg #[])
def cw (l:List GI):List Value:=l.map GI.val
structure MG where
 mb:Nat
 c:SG
 a:SG
 av:List Value
def D2 (a:SG) (l:List GI):Ob:= .row (.slice a.p l.length a.c) 162 1 l.length (cw l)
def MG.Ar (g:MG) (G:GS):List Ob:=
 [.Au g.mb #[.slice g.c.p G.Ab.length g.c.c,i5 G.Ac,i5 G.cells,.bool G.block,.slice g.a.p g.av.length g.a.c,i5 G.Aj] 169,
  D2 g.c G.Ab,.row (.slice g.a.p g.av.length g.a.c) 1 1 g.av.length g.av]
theorem Kc (l:List GI):(cw l).length=l.length:=by simp[cw]
theorem dT (p:Option Addr) (c:Nat) (l:List GI) (i:GI):Ob.row (.slice p (l.length+1) c) 162 1 (l.length+1) (cw l++(#[i.val]:Array Value).toList)=D2 ⟨p,c⟩ (l++[i]):=by simp[D2,cw]
structure Aal (w:World) (g:MG) (G:GS):Prop where
 c:∀i:Nat,w.cell? ⟨g.mb,i,none⟩=(#[.slice g.c.p G.Ab.length g.c.c,i5 G.Ac,i5 G.cells,.bool G.block,.slice g.a.p g.av.length g.a.c,i5 G.Aj]:Array Value)[i]?
 f:∀i:Nat,w.frozen? ⟨g.mb,i,none⟩=false
 lt:g.mb < w.heap.size
theorem Dm {g:MG} {G:GS} (h:Az w (g.Ar G)):Aal w g G where
 c:=(h.Au (i:=0) rfl).cell
 f:=(h.Au (i:=0) rfl).free
 lt:=(h.Au (i:=0) rfl).lt
theorem GI.shape (i:GI):∃T u,i.val= .iface T u:=by cases i <;>exact⟨_,_,rfl⟩
theorem ou:(prog.info? 162).map (fun i=>(i.zero,i.size,i.bytes))=some (some .nilIface,1,16):=Fd
def pQ (ret:Value) (G':GS) (g:MG) (G:GS) (w:World) (e:Ending) (w':World):Prop:=
 e= .returned ret/\∃c:SG,Ak w (g.Ar G) w' (MG.Ar {g with c:=c} G')
theorem KH (i:GI) (w:World) (g:MG) (G:GS) (h:Az w (g.Ar G)) (hn:G.Ab.length<=1000000):
  Calls prog 81 #[i6 g.mb,i.val] w (pQ (.tuple #[]) (G.AP i) g G w):=by
 obtain⟨j0,hj,KW,Fo,K7⟩:=info_parts ou;obtain⟨hc,hf,AX⟩:=Dm h;obtain⟨T,u,hv⟩:=GI.shape i;rw[hv];have H:=hid h;have Hv:=hid hv;clear h hv;go_enter func81,ntmps81;go_wp2_with (first | (at_builtin;refine B6 16 _ _ _ j0 _ #[.iface T u] _ H (k:=1) rfl Do Do underlying158 hj KW Fo K7 rfl Y Do Do rfl (by simp[Value.oneCell']) (by unfold maxLen;omega) Y ?_;intro g6 AZ w6 AD _;rw[<-Hv.out,dT] at AD;have q1:=(AD.Am.Au (i:=0) rfl).cell;have q2:∀i:Nat,w6.frozen? ⟨g.mb,i,none⟩=false:=(AD.Am.Au (i:=0) rfl).free;have q3:g.mb < w6.heap.size:=(AD.Am.Au (i:=0) rfl).lt;have KT:=hid AD;clear AD hc hf AX))
 go_end0
 have AD:=KT.out;have t1:=AD.Am.set (i:=0) rfl 0 (.slice (some ⟨g6,0,none⟩) (G.Ab.length+1) AZ);refine⟨rfl,⟨some ⟨g6,0,none⟩,AZ⟩,?_⟩;have e:(G.Ab++[i]).length=G.Ab.length+1:=EQ
 have:=AD.trans t1;unfold MG.Ar GS.AP;unfold MG.Ar at this;rw[e];exact this
structure A5 (w:World) (L:List Ob) (F:List (Nat×Obj)):Prop where
 heap:∀b o,(b,o)∈F->w.heap[b]?=some o
 out:∀b o,(b,o)∈F->b∉D4 L
theorem A5.step (h:A5 w L F) (k:Ak w L w' L'):A5 w' L' F:=
 ⟨fun b o hb=>k.Bf.heap (h.heap b o hb) (h.out b o hb),fun b o hb hl=>by
   rcases k.fp b hl with h1 | h1
   · exact h.out b o hb h1
   · have:=BA (h.heap b o hb);omega⟩
theorem A5.quiet (h:A5 w L F) (k:Av [] w w'):A5 w' L F:=
 ⟨fun b o hb=>k.heap (h.heap b o hb) EQ,h.out⟩
theorem A5.new (h:A5 w L F) (hL:Az w L) (o:Obj):A5 (w.alloc o) L ((w.heap.size,o)::F):=by
 refine⟨fun b p hb=> ?_,fun b p hb hl=> ?_⟩
 ·rcases Pi.1 hb with hb | hb
  ·cases hb;show(w.heap.push o)[w.heap.size]?=some o;simp
  ·exact((Av.refl [] w).alloc o).heap (h.heap b p hb) EQ
 ·rcases Pi.1 hb with hb | hb
  ·cases hb;have:=hL.lt _ hl;omega
  ·exact h.out b p hb hl
theorem A5.nil (w:World) (L:List Ob):A5 w L []:=⟨fun b o h=>by simp at h,fun b o h=>by simp at h⟩
theorem A5.aS (h:A5 w L F) (k:A5 w L E):A5 w L (E++F):=
 ⟨fun b o hb=>(Nm.1 hb).elim (k.heap b o) (h.heap b o),fun b o hb=>(Nm.1 hb).elim (k.out b o) (h.out b o)⟩
theorem A5.sub (h:A5 w L F) (k:∀x,x∈E->x∈F):A5 w L E:=
 ⟨fun b o hb=>h.heap b o (k _ hb),fun b o hb=>h.out b o (k _ hb)⟩
theorem A5.cell (h:A5 w L F) {b:Nat} {c:Array Value} {T:TypeId} (hb:(b,Obj.cells c T (0,0))∈F):∀i:Nat,w.cell? ⟨b,i,none⟩=c[i]?:=
 BM.cell (h.heap b _ hb)
theorem A5.lt (h:A5 w L F) {b:Nat} {o:Obj} (hb:(b,o)∈F):b < w.heap.size:=BA (h.heap b _ hb)
def JV (v:Value) (w:World) (e:Ending) (w':World):Prop:=e= .returned v/\Av [] w w'
theorem Az.quiet (h:Az w L) (k:Av [] w w'):Az w' L:=(Ak.quiet h k).Am
theorem A5.free (h:A5 w L F) {b:Nat} {c:Array Value} {T:TypeId} (hb:(b,Obj.cells c T (0,0))∈F):∀i:Nat,w.frozen? ⟨b,i,none⟩=false:=
 BM.free (h.heap b _ hb)
theorem Cf (hm:Av [] (w.alloc o) w1):A5 w1 [] [(w.heap.size,o)]:=
 (A5.new (A5.nil w []) (Az.nil w) o).quiet hm
theorem cell_far (hm:Av [] (w.alloc o) w1) {b:Nat} (hb:b < w.heap.size) (i:Nat):w1.cell? ⟨b,i,none⟩=w.cell? ⟨b,i,none⟩:=by
 have h2:w1.heap[b]?=w.heap[b]?:=(hm.block b (by show b < (w.heap.push o).size;simp;omega) EQ).trans (((Av.refl [] w).alloc o).block b hb EQ);show w1.cell? _=w.cell? _;unfold World.cell?;rw[h2]
theorem Av.Ade (hm:Av [] (w.alloc o) w1) {i j k:Nat} {x y z:Value}:Av [] w (((w1.setCell ⟨w.heap.size,i,none⟩ x).setCell ⟨w.heap.size,j,none⟩ y).setCell ⟨w.heap.size,k,none⟩ z):=by
 have h:=((Av.refl [] w).alloc o).Ad hm;exact((h.setCell (.inr (LE _)) _).setCell (.inr (LE _)) _).setCell (.inr (LE _)) _
theorem Wr (v:Int) (w:World):Calls prog 139 #[i5 v] w (JV (.agg #[.bool false,i5 v]) w):=by
 go_enter func139,ntmps139;go_wp2_with fail;refine bodyPost_ret (v:= .agg #[.bool false,i5 v]) (by simp[results,results139,go_sem]) rfl ⟨rfl,?_⟩;exact mcf
theorem RL (v:Int) (w:World):Calls prog 133 #[i5 v] w (JV (.agg #[.bool true,i5 v]) w):=by
 go_enter func133,ntmps133;go_wp2_with fail;refine bodyPost_ret (v:= .agg #[.bool true,i5 v]) (by simp[results,results133,go_sem]) rfl ⟨rfl,?_⟩;exact mcf
theorem dB (k:Int) (w:World) (g:MG) (G:GS) (h:Az w (g.Ar G)) (hb:wrap64 (G.Ac+k)=G.Ac+k):
  Calls prog 135 #[i6 g.mb,i5 k] w (JV (.agg #[.bool false,i5 (G.Ac+k),i5 0]) w):=by
 obtain⟨hc,hf,AX⟩:=Dm h;have Hb:=hid hb;clear h hb;go_enter func135,ntmps135;go_wp2_with fail;rw[Hb.out];refine(Wr _ _).mono ?_;rintro e w1 ⟨rfl,hm⟩;have K:=Cf hm;have k0:=K.cell (Z.2 rfl);have k1:=K.free (Z.2 rfl);have k2:=K.lt (Z.2 rfl);go_wp2_with fail;refine bodyPost_ret (v:= .agg #[.bool false,i5 (G.Ac+k),i5 0]) (by simp[results,results135,go_sem,k0]) rfl ⟨rfl,?_⟩;exact Av.Ade hm
theorem yz (k r:Int) (w:World) (g:MG) (G:GS) (h:Az w (g.Ar G)) (hb:wrap64 (G.Ac+k)=G.Ac+k):
  Calls prog 138 #[i6 g.mb,i5 k,i5 r] w (JV (.agg #[.bool true,i5 r,i5 (G.Ac+k)]) w):=by
 obtain⟨hc,hf,AX⟩:=Dm h;have Hb:=hid hb;clear h hb;go_enter func138,ntmps138;go_upto_region 1 with fail
 have DJ:g.mb < w.heap.size:=AX;have J2:w.cell? ⟨g.mb,1,none⟩=some (i5 G.Ac):=hc 1;refine Ap (l:=[(0,true),(2,true),(3,true),(4,true),(5,true),(6,true),(7,true),(1,false),(8,true),(9,false)]) (fun W=>W.cell? ⟨g.mb,1,none⟩=some (i5 G.Ac)) 9 ?_ ?_
 ·go_simp
 refine detE ?_;intro K hK;refine(RL _ _).mono ?_;rintro e w1 ⟨rfl,WI⟩;have hm:=((Av.refl [] (w.alloc (.cells #[.bool false,i5 0,i5 0] 270))).drew).Ad WI;have K1:=Cf hm;have k0:=K1.cell (Z.2 rfl);have k1:=K1.free (Z.2 rfl);have k2:=K1.lt (Z.2 rfl);refine hK _ _ (fun _=>(cell_far hm DJ 1).trans J2) ?_;clear hK WI;refine detE ?_;intro K hK;refine hK _ _ (fun h=>UV rfl h) ?_;simp only[BB];go_wp2_with fail;rw[IntWalk.i64_left,Hb.out];refine bodyPost_ret (v:= .agg #[.bool true,i5 r,i5 (G.Ac+k)]) (by simp[results,results138,go_sem,k0]) rfl ⟨rfl,?_⟩;exact Av.Ade hm
theorem L2 (r:Int) (a:Ag) (k:Int) (w:World) (g:MG) (G:GS) (h:Az w (g.Ar G)) (hn:G.Ab.length<=1000000):
  Calls prog 140 #[i6 g.mb,i5 r,.agg #[.bool a.B0,i5 a.v,i5 k]] w (pQ (.tuple #[]) (G.AP (.load r a k)) g G w):=by
 have H:=hid h;clear h;go_enter func140,ntmps140;go_wp2_with fail;refine(KH (.load r a k) _ g G (H.quiet ((Av.refl _ _).alloc _)) hn).mono ?_;rintro e w1 ⟨rfl,c,AD⟩;go_wp2_with fail
 go_end0
 exact⟨rfl,c,(Ak.alloc H _).trans AD⟩
theorem M7 (a:Ag) (k:Int) (b:Ag) (w:World) (g:MG) (G:GS) (h:Az w (g.Ar G)) (hn:G.Ab.length<=1000000):
  Calls prog 134 #[i6 g.mb,.agg #[.bool a.B0,i5 a.v,i5 k],.agg #[.bool b.B0,i5 b.v]] w (pQ (.tuple #[]) (G.AP (.store a k b)) g G w):=by
 have H:=hid h;clear h;go_enter func134,ntmps134;go_wp2_with fail;refine(KH (.store a k b) _ g G (H.quiet (((Av.refl _ _).alloc _).alloc _)) hn).mono ?_;exact mbF
theorem yy (n:ByteArray) (d:Int) (a b:Ag) (w:World) (g:MG) (G:GS) (h:Az w (g.Ar G)) (hn:G.Ab.length<=1000000):
  Calls prog 132 #[i6 g.mb,.string n,i5 d,.agg #[.bool a.B0,i5 a.v],.agg #[.bool b.B0,i5 b.v]] w (pQ (.tuple #[]) (G.Ix n d a b) g G w):=by
 have H:=hid h;clear h;go_enter func132,ntmps132;go_wp2_with fail;refine(KH (.op n d a b) _ g G (H.quiet (((Av.refl _ _).alloc _).alloc _)) hn).mono ?_;exact mbF
theorem A5.cl (h:A5 w L F) (b:Nat) (c:Array Value) (T:TypeId) (hb:(b,Obj.cells c T (0,0))∈F):(∀i:Nat,w.cell? ⟨b,i,none⟩=c[i]?)/\b < w.heap.size:=⟨h.cell hb,h.lt hb⟩
theorem OC (w:World) (o:Obj):(w.alloc o).heap.size=w.heap.size+1:=by show(w.heap.push o).size=_;simp
theorem kY (l:List GI) (k:Nat) (i:GI):(cw l).set k i.val=cw (l.set k i):=by simp[cw,Qc6]
def Tx (F:List (Nat×Obj)) (v:Value) (mb:Nat) (l:Ij):Prop:=match l.a with
 | none=>∃bm bk,v= .func (.func 174) #[] #[i6 bm,i6 bk]/\
   (bm,Obj.cells #[i6 mb] 166 (0,0))∈F/\(bk,Obj.cells #[i5 (l.k:Int)] 3 (0,0))∈F
 | some a=>∃ba bm bk,v= .func (.func 154) #[] #[i6 ba,i6 bm,i6 bk]/\
   (ba,Obj.cells #[.bool a.B0,i5 a.v] 264 (0,0))∈F/\(bm,Obj.cells #[i6 mb] 166 (0,0))∈F/\(bk,Obj.cells #[i5 (l.k:Int)] 3 (0,0))∈F
theorem Tx.sub {l:Ij} (h:Tx F v mb l) (k:∀x,x∈F->x∈E):Tx E v mb l:=by
 unfold Tx at h⊢;split at h
 ·obtain⟨bm,bk,h1,h2,h3⟩:=h;exact⟨bm,bk,h1,k _ h2,k _ h3⟩
 ·obtain⟨ba,bm,bk,h1,h2,h3,h4⟩:=h;exact⟨ba,bm,bk,h1,k _ h2,k _ h3,k _ h4⟩
def NM (b:Nat) (a:Ag):Nat×Obj:=(b,.cells #[.bool a.B0,i5 a.v] 264 (0,0))
def Ga (b mb:Nat):Nat×Obj:=(b,.cells #[i6 mb] 166 (0,0))
def Gc (b k:Nat):Nat×Obj:=(b,.cells #[i5 (k:Int)] 3 (0,0))
def Aer (a:Ag) (g:MG) (G:GS) (w:World) (e:Ending) (w':World):Prop:=
 ∃ba bm bk c,e= .returned (.func (.func 154) #[] #[i6 ba,i6 bm,i6 bk])/\
  Ak w (g.Ar G) w' (MG.Ar {g with c:=c} (G.CV a))/\A5 w' (MG.Ar {g with c:=c} (G.CV a)) [Gc bk G.Ab.length,NM ba a,Ga bm g.mb]/\(w.heap.size<=ba/\w.heap.size<=bm/\w.heap.size<=bk)
def Aey (g:MG) (G:GS) (w:World) (e:Ending) (w':World):Prop:=
 ∃bm bk c,e= .returned (.func (.func 174) #[] #[i6 bm,i6 bk])/\
  Ak w (g.Ar G) w' (MG.Ar {g with c:=c} G.Dn)/\A5 w' (MG.Ar {g with c:=c} G.Dn) [Gc bk G.Ab.length,Ga bm g.mb]
theorem YZ (a:Ag) (w:World) (g:MG) (G:GS) (h:Az w (g.Ar G)) (hn:G.Ab.length<=1000000):
  Calls prog 141 #[i6 g.mb,.agg #[.bool a.B0,i5 a.v]] w (Aer a g G w):=by
 obtain⟨hc,hf,AX⟩:=Dm h;have H:=hid h;clear h;go_enter func141,ntmps141;go_wp2_with fail;have a1:=Ak.alloc H (.cells #[i6 g.mb] 166);have K1:=(A5.nil w (g.Ar G)).new H (.cells #[i6 g.mb] 166);have a2:=a1.trans (Ak.alloc a1.Am (.cells #[.bool a.B0,i5 a.v] 264));have K2:=K1.new a1.Am (.cells #[.bool a.B0,i5 a.v] 264);have a3:=a2.trans (Ak.alloc a2.Am (.cells #[i5 (G.Ab.length:Int)] 3));have K3:=K2.new a2.Am (.cells #[i5 (G.Ab.length:Int)] 3);refine(KH (.jz a 0) _ g G a3.Am hn).mono ?_;rintro e w1 ⟨rfl,c,AD⟩;have K4:=K3.step AD;rw[OC,OC] at K4;go_wp2_with fail;go_ret;exact⟨w.heap.size+1,w.heap.size,w.heap.size+1+1,c,rfl,a3.trans AD,K4,Y⟩
theorem nz (w:World) (g:MG) (G:GS) (h:Az w (g.Ar G)) (hn:G.Ab.length<=1000000):
  Calls prog 151 #[i6 g.mb] w (Aey g G w):=by
 obtain⟨hc,hf,AX⟩:=Dm h;have H:=hid h;clear h;go_enter func151,ntmps151;go_wp2_with fail;have a1:=Ak.alloc H (.cells #[i6 g.mb] 166);have K1:=(A5.nil w (g.Ar G)).new H (.cells #[i6 g.mb] 166);have a2:=a1.trans (Ak.alloc a1.Am (.cells #[i5 (G.Ab.length:Int)] 3));have K2:=K1.new a1.Am (.cells #[i5 (G.Ab.length:Int)] 3);refine(KH (.Gb 0) _ g G a2.Am hn).mono ?_;rintro e w1 ⟨rfl,c,AD⟩;have K4:=K2.step AD;rw[OC] at K4;go_wp2_with fail;go_ret;exact⟨w.heap.size,w.heap.size+1,c,rfl,a2.trans AD,K4⟩
theorem QA (a:Ag) (ba bm bk k:Nat) (w:World) (g:MG) (G:GS) (F:List (Nat×Obj)) (h:Az w (g.Ar G)) (hK:A5 w (g.Ar G) F) (h1:Gc bk k∈F) (h2:NM ba a∈F) (h3:Ga bm g.mb∈F) (hn:G.Ab.length<=1000000) (hk:k < G.Ab.length):
  Calls prog 154 #[i6 ba,i6 bm,i6 bk] w (pQ (.tuple #[]) (G.Bd ⟨k,some a⟩) g G w):=by
 obtain⟨hc,hf,AX⟩:=Dm h;have c1:=hK.cell h1;have c2:=hK.cell h2;have c3:=hK.cell h3;have IN:=h.row (i:=1) rfl;obtain⟨gb,gc,bA,_,hgl,AfE,AfD,WM,WL⟩:=AG IN Y;have H:=hid h;have HK:=hid hK;have dY:(g.Ar G)[1]?=some (.row (.slice (some ⟨gb,0,none⟩) G.Ab.length gc) 162 1 G.Ab.length (cw G.Ab)):=by
  show some (D2 g.c G.Ab)=_;unfold D2;rw[bA]
 have AD:=fun v=>Az.HU h dY k (by rw[Kc];exact hk) v
 rw[bA] at hc;have Q1:(k:Int) < (G.Ab.length:Int):=Y
 have eF:=WM k (by rw[Kc];exact hk);generalize hov:(cw G.Ab)[k]'(by rw[Kc];exact hk)=ov at eF;have Ni:=WL k;have KT:=hid AD;have Hge:=hid bA;have Hk:=hid hk;have d1:=c1 0;have d2:=c2 0;have d2':=c2 1;clear c2;have d3:=c3 0;have d4:=hc 0;clear h hK IN bA WM WL dY AD hov hk c1 c3 hc hf;go_enter func154,ntmps154;go_upto_region 0 with fail
 refine Ap (l:=[(0,true),(1,true),(2,true),(3,true),(4,true),(5,true),(6,true),(7,true),(8,true),(9,true),(10,true),(11,true),(12,true),(13,true),(14,true),(15,false)]) (fun W=>W.cell? ⟨bk,0,none⟩=some (i5 (k:Int))/\W.cell? ⟨bm,0,none⟩=some (i6 g.mb)/\W.cell? ⟨g.mb,0,none⟩=some (.slice (some ⟨gb,0,none⟩) G.Ab.length gc)/\W.cell? ⟨ba,0,none⟩=some (.bool a.B0)/\W.cell? ⟨ba,1,none⟩=some (i5 a.v)) 15 ?_ ?_
 ·exact⟨by go_simp,by go_simp,by go_simp,by go_simp,by go_simp⟩
 refine detE ?_;intro K hK;refine hK _ _ (fun h=>UV rfl h) ?_;simp only[BB];go_wp2_with fail
 go_end0
 refine⟨rfl,g.c,?_⟩;have s1:=Ak.drew H.out;have s2:=s1.trans (Az.HU s1.Am (i:=1) (show(g.Ar G)[1]?=some (.row (.slice (some ⟨gb,0,none⟩) G.Ab.length gc) 162 1 G.Ab.length (cw G.Ab)) by
   show some (D2 g.c G.Ab)=_;unfold D2;rw[Hge.out]) k (by rw[Kc];exact Hk.out) (GI.val (.jz a G.Ab.length)))
 have e:(g.Ar G).set 1 (.row (.slice (some ⟨gb,0,none⟩) G.Ab.length gc) 162 1 G.Ab.length ((cw G.Ab).set k (GI.val (.jz a G.Ab.length))))=MG.Ar g (G.Bd ⟨k,some a⟩):=by
  exact mbS
 rw[e] at s2;exact s2
theorem SO (bm bk k:Nat) (w:World) (g:MG) (G:GS) (F:List (Nat×Obj)) (h:Az w (g.Ar G)) (hK:A5 w (g.Ar G) F) (h1:Gc bk k∈F) (h3:Ga bm g.mb∈F) (hn:G.Ab.length<=1000000) (hk:k < G.Ab.length):
  Calls prog 174 #[i6 bm,i6 bk] w (pQ (.tuple #[]) (G.Bd ⟨k,none⟩) g G w):=by
 obtain⟨hc,hf,AX⟩:=Dm h;have c1:=hK.cell h1;have c3:=hK.cell h3;have IN:=h.row (i:=1) rfl;obtain⟨gb,gc,bA,_,hgl,AfE,AfD,WM,WL⟩:=AG IN Y;have H:=hid h;have HK:=hid hK;have dY:(g.Ar G)[1]?=some (.row (.slice (some ⟨gb,0,none⟩) G.Ab.length gc) 162 1 G.Ab.length (cw G.Ab)):=by
  show some (D2 g.c G.Ab)=_;unfold D2;rw[bA]
 have AD:=fun v=>Az.HU h dY k (by rw[Kc];exact hk) v
 rw[bA] at hc;have Q1:(k:Int) < (G.Ab.length:Int):=Y
 have eF:=WM k (by rw[Kc];exact hk);generalize hov:(cw G.Ab)[k]'(by rw[Kc];exact hk)=ov at eF;have Ni:=WL k;have KT:=hid AD;have Hge:=hid bA;have Hk:=hid hk;have d1:=c1 0
 skip
 have d3:=c3 0;have d4:=hc 0;clear h hK IN bA WM WL dY AD hov hk c1 c3 hc hf;go_enter func174,ntmps174;go_upto_region 0 with fail
 refine Ap (l:=[(0,true),(1,true),(2,true),(3,true),(4,true),(5,true),(6,true),(7,true),(8,true),(9,true),(10,true),(11,true),(12,true),(13,false)]) (fun W=>W.cell? ⟨bk,0,none⟩=some (i5 (k:Int))/\W.cell? ⟨bm,0,none⟩=some (i6 g.mb)/\W.cell? ⟨g.mb,0,none⟩=some (.slice (some ⟨gb,0,none⟩) G.Ab.length gc)) 13 ?_ ?_
 ·exact mck
 refine detE ?_;intro K hK;refine hK _ _ (fun h=>UV rfl h) ?_;simp only[BB];go_wp2_with fail
 go_end0
 refine⟨rfl,g.c,?_⟩;have s1:=Ak.drew H.out;have s2:=s1.trans (Az.HU s1.Am (i:=1) (show(g.Ar G)[1]?=some (.row (.slice (some ⟨gb,0,none⟩) G.Ab.length gc) 162 1 G.Ab.length (cw G.Ab)) by
   show some (D2 g.c G.Ab)=_;unfold D2;rw[Hge.out]) k (by rw[Kc];exact Hk.out) (GI.val (.Gb G.Ab.length)))
 have e:(g.Ar G).set 1 (.row (.slice (some ⟨gb,0,none⟩) G.Ab.length gc) 162 1 G.Ab.length ((cw G.Ab).set k (GI.val (.Gb G.Ab.length))))=MG.Ar g (G.Bd ⟨k,none⟩):=by
  exact mbS
 rw[e] at s2;exact s2
theorem GS.BT (g:GS) (i:GI):(g.AP i).Ab.length=g.Ab.length+1:=by
 simp[GS.AP]
theorem GS.Zv (g:GS) (i:GI):(g.AP i).Ac=g.Ac:=rfl
theorem GS.jj (g:GS) (i:GI):(g.AP i).BL=g.BL:=rfl
theorem GS.ID (g:GS) (n:ByteArray) (d:Int) (a b:Ag):(g.Ix n d a b).Ab.length=g.Ab.length+1:=by
 exact GS.BT _ _
theorem GS.dt (g:GS) (n:ByteArray) (d:Int) (a b:Ag):(g.Ix n d a b).Ac=g.Ac:=rfl
theorem GS.YS (g:GS) (n:ByteArray) (d:Int) (a b:Ag):(g.Ix n d a b).BL=g.BL:=rfl
theorem GS.IZ (g:GS) (a:Ag):(g.CV a).Ab.length=g.Ab.length+1:=by
 exact GS.BT _ _
theorem GS.fY (g:GS) (a:Ag):(g.CV a).Ac=g.Ac:=rfl
theorem GS.cz (g:GS) (a:Ag):(g.CV a).BL=g.BL:=rfl
theorem GS.FO (g:GS):(g.Dn).Ab.length=g.Ab.length+1:=by
 exact GS.BT _ _
theorem GS.iG (g:GS):(g.Dn).Ac=g.Ac:=rfl
theorem GS.DV (g:GS) (l:Ij):(g.Bd l).Ab.length=g.Ab.length:=by
 simp[GS.Bd]
theorem GS.oJ (g:GS) (l:Ij):(g.Bd l).Ac=g.Ac:=rfl
theorem GS.iW (g:GS) (l:Ij):(g.Bd l).BL=g.BL:=rfl
theorem GS.Na (g:GS) (r k:Int):(g.lo r k).Ab.length=g.Ab.length+1:=by
 exact GS.BT _ _
theorem GS.yG (g:GS) (r k:Int):(g.lo r k).Ac=g.Ac:=rfl
theorem GS.Wm (g:GS) (r t i:Int):(g.Py r t i).Ab.length=g.Ab.length+1:=by
 exact GS.BT _ _
theorem GS.nX (g:GS) (r t i:Int):(g.Py r t i).Ac=g.Ac:=rfl
theorem GS.dO (g:GS) (r k:Int):(g.NR r k).Ab.length=g.Ab.length+1:=by
 exact GS.BT _ _
theorem GS.JP (g:GS) (k:Int) (a:Ag):(g.st k a).Ab.length=g.Ab.length+1:=by
 exact GS.BT _ _
theorem GS.cM (g:GS) (k:Int) (a:Ag):(g.st k a).BL=g.BL:=rfl
theorem GS.N7 (g:GS) (t i:Int) (a:Ag):(g.IL t i a).Ab.length=g.Ab.length+1:=by
 exact GS.BT _ _
theorem GS.mq (g:GS) (t i:Int) (a:Ag):(g.IL t i a).Ac=g.Ac:=rfl
theorem GS.rj (g:GS) (k:Int) (a:Ag):(g.Re k a).Ab.length=g.Ab.length+1:=by
 exact GS.BT _ _
theorem GS.Me (g:GS) (r:Int):(g.IW r).Ab.length=g.Ab.length+1:=by
 exact GS.BT _ _
theorem GS.W1 (g:GS) (r:Int):(g.IW r).Ac=g.Ac:=rfl
theorem GS.YR (g:GS) (r:Int):(g.Jw r).Ab.length=g.Ab.length+8:=by
 unfold GS.Jw;simp only[GS.Me,GS.ID,GS.Na]
theorem GS.V7 (g:GS) (r:Int):(g.Jw r).Ac=g.Ac:=by unfold GS.Jw;simp only[GS.W1,GS.dt,GS.yG]
theorem GS.Yn (g:GS) (a:At) (r:Int):(g.Cz a r).Ac=g.Ac:=by unfold GS.Cz;split <;>rfl
theorem GS.Kt (g:GS) (a:At) (r:Int):(g.Cz a r).BL=g.BL:=by unfold GS.Cz;split <;>rfl
theorem GS.eJ (g:GS):g.PK.Ab.length=g.Ab.length+18:=by
 unfold GS.PK;simp only[GS.Me,GS.ID,GS.YR,GS.IZ,GS.FO,GS.DV,GS.Wm,GS.N7,GS.BT]
def GS.vK (g:GS):GS:={g with Aj:=g.Aj+1}
def GS.Z2 (g:GS):GS:={g with Aj:=g.Aj - 1}
theorem GS.jm (g:GS):g.vK.Ab.length=g.Ab.length:=rfl
theorem GS.gf (g:GS):g.Z2.Ab.length=g.Ab.length:=rfl
theorem GS.oT (g:GS):g.PK.Ac=g.Ac:=by
 unfold GS.PK;simp only[GS.W1,GS.dt,GS.V7,GS.fY,GS.iG,GS.oJ,GS.nX,GS.mq,GS.Zv]
theorem GS.DF (g:GS) (a:At) (r:Int):(g.Cz a r).Ab.length<=g.Ab.length+1:=by
 unfold GS.Cz;split
 ·rw[GS.Na];omega
 ·omega
def C2 (b:Int):Prop:=0<=b/\b<=100000
theorem C2.eq {a:Int} (h:C2 a) (e:b=a):C2 b:=e▸h
theorem ZZ {k:Int} (h:C2 b) (hk: -1000<=k/\k<=1000):wrap64 (b+k)=b+k:=by
 obtain⟨h1,h2⟩:=h;exact IntWalk.wrap64_in _ Y
theorem Ak.VP (h:Ak w L w' L') {b:Nat} (hb:w.heap.size<=b) (hn:b∉D4 L') (i:Nat) (v:Value):Ak w L (w'.setCell ⟨b,i,none⟩ v) L':=
 ⟨h.Am.Bf ((Av.refl [b] w').setCell (.inl EQ) v) (fun x hx hm=>by rw[Z] at hm;subst hm;exact hn hx),h.Bf.setCell (.inr hb) v,h.fp⟩
inductive jW (F:List (Nat×Obj)) (mb:Nat):List Value->List Ij->Prop
 | nil:jW F mb [] []
 | cons {v:Value} {l:Ij} {vs:List Value} {ls:List Ij}:Tx F v mb l->jW F mb vs ls->jW F mb (v::vs) (l::ls)
theorem jW.sub (h:jW F mb vs ls) (k:∀x,x∈F->x∈E):jW E mb vs ls:=by
 induction h with
 | nil=>exact .nil
 | cons a b ih=>exact .cons (a.sub k) ih
theorem jW.Fj (h:jW F mb vs ls) (k:jW F mb us ms):jW F mb (vs++us) (ls++ms):=by
 induction h with
 | nil=>exact k
 | cons a b ih=>exact .cons a ih
structure So (F:List (Nat×Obj)) (mb n:Nat) (vs:List Value) (ls:List Ij):Prop where
 all:jW F mb vs ls
 lt:∀l,l∈ls->l.k < n
theorem So.nil (F:List (Nat×Obj)) (mb n:Nat):So F mb n [] []:=⟨.nil,EQ⟩
theorem So.up (h:So F mb n vs ls) (k:∀x,x∈F->x∈E) (hn:n<=m):So E mb m vs ls:=
 ⟨h.all.sub k,fun l hl=>Qaq (h.lt l hl) hn⟩
theorem So.Fj (h:So F mb n vs ls) (k:So E mb m us ms) (hn:n<=m):So (E++F) mb m (vs++us) (ls++ms):=
 ⟨(h.all.sub fun _ hx=>GT _ hx).Fj (k.all.sub fun _ hx=>D _ hx),fun l hl=>(Nm.1 hl).elim (fun h1=>Qaq (h.lt l h1) hn) (k.lt l)⟩
def StS (G':GS) (g:MG) (G:GS) (w:World) (e:Ending) (w':World):Prop:=
 e= .returned (.tuple #[])/\∃c a vs ls E,G'.BL=G.BL++ls/\Ak w (g.Ar G) w' (MG.Ar {g with c:=c,a:=a,av:=g.av++vs} G')/\
  A5 w' (MG.Ar {g with c:=c,a:=a,av:=g.av++vs} G') E/\So E g.mb G'.Ab.length vs ls/\vs.length+G.Ab.length<=G'.Ab.length
theorem wG {x y z l1 l2:List Ij} (h:y=x++l1) (k:z=y++l2):z=x++(l1++l2):=by rw[k,h,PP]
theorem kI:(prog.info? 1).map (fun i=>(i.zero,i.size,i.bytes))=some (some .nilFunc,1,8):=Fd
theorem LA (l:List Value) (v:Value):l++(#[v]:Array Value).toList=l++[v]:=rfl
theorem ie (r:Int) (w:World) (g:MG) (G:GS) (h:Az w (g.Ar G)) (hn:G.Ab.length<=1000000) (ha:g.av.length<=G.Ab.length):
  Calls prog 153 #[i6 g.mb,i5 r] w (StS (G.IW r) g G w):=by
 obtain⟨j0,hj,KW,Fo,K7⟩:=info_parts kI;have H:=hid h;clear h;go_enter func153,ntmps153;go_wp2_with fail;refine(RL _ _).mono ?_;rintro e w1 ⟨rfl,hm⟩;have S:=hid (Ak.quiet H hm);go_wp2_with fail;refine(YZ (.r r) _ g G S.Am hn).mono ?_;rintro e w2 ⟨ba,bm,bk,c,rfl,st,kn,_⟩;replace S:=hid (S.trans st);have K:=hid kn;obtain⟨hc,hf,AX⟩:=Dm S.Am;clear kn st hm;go_wp2_with (first | (at_builtin;refine B6 8 _ _ _ j0 _ #[.func (.func 154) #[] #[i6 ba,i6 bm,i6 bk]] _ S.Am (k:=2) rfl Do Do underlying167 hj KW Fo K7 rfl Y Do Do rfl (by simp[Value.oneCell']) (show g.av.length+1<=maxLen by unfold maxLen;omega) (show(g.av.length+1)*8<=_ by omega) ?_;intro g6 AZ w6 AD _;rw[LA] at AD;have q1:=(AD.Am.Au (i:=0) rfl).cell;have q2:∀i:Nat,w6.frozen? ⟨g.mb,i,none⟩=false:=(AD.Am.Au (i:=0) rfl).free;have q3:g.mb < w6.heap.size:=(AD.Am.Au (i:=0) rfl).lt;have KT:=hid AD;clear AD hc hf AX))
 go_end0
 have AD:=KT.out;have t1:=AD.Am.set (i:=0) rfl 4 (.slice (some ⟨g6,0,none⟩) (g.av.length+1) AZ);have s2:=AD.trans t1;have e:∀v:Value,(g.av++[v]).length=g.av.length+1:=fun v=>EQ
 have s3:Ak w2 (MG.Ar {g with c:=c} (G.CV (.r r))) (w6.setCell ⟨g.mb,4,none⟩ (.slice (some ⟨g6,0,none⟩) (g.av.length+1) AZ)) (MG.Ar {g with c:=c,a:=⟨some ⟨g6,0,none⟩,AZ⟩,av:=g.av++[.func (.func 154) #[] #[i6 ba,i6 bm,i6 bk]]} (G.IW r)):=by
  unfold MG.Ar at s2⊢;rw[e];exact s2
 refine⟨rfl,c,⟨some ⟨g6,0,none⟩,AZ⟩,[.func (.func 154) #[] #[i6 ba,i6 bm,i6 bk]],[G.EX (.r r)],_,rfl,S.trans s3,K.step s3,?_⟩;refine⟨⟨.cons ?_ .nil,fun l hl=> ?_⟩,by rw[GS.Me];simp;omega⟩
 ·exact⟨ba,bm,bk,rfl,by simp[NM],by simp[Ga],by simp[Gc,GS.EX]⟩
 ·rw[Z] at hl;subst hl;rw[GS.Me];exact Qa1 _
def Ag.cells (a:Ag):Array Value:= #[.bool a.B0,i5 a.v]
theorem gV (a:At) (r:Int) (w:World) (g:MG) (G:GS) (h:Az w (g.Ar G)) (hn:G.Ab.length<=1000000) (FT:C2 G.Ac) (hok:FR a):
  Calls prog 131 #[i6 g.mb,.agg #[.bool a.AR,i5 a.v],i5 r] w (pQ (.agg #[.bool (GS.BF a r).B0,i5 (GS.BF a r).v]) (G.Cz a r) g G w):=by
 obtain⟨lc,v⟩:=a;have H:=hid h;have hb:=hid FT;clear FT;cases lc with
 | false=>
  clear h hok;go_enter func131,ntmps131;go_wp2_with fail;refine(Wr _ _).mono ?_;rintro e w1 ⟨rfl,hm⟩;have K:=(A5.new (A5.nil (w.alloc (.cells #[.bool false,i5 v] 235)) []) (Az.nil _) (.cells #[.bool false,i5 0] 264)).quiet hm;rw[OC] at K;have k0:=K.cell (Z.2 rfl);have k1:=K.free (Z.2 rfl);have k2:=K.lt (Z.2 rfl);go_wp2_with fail;refine bodyPost_ret (v:= .agg #[.bool false,i5 v]) (by simp[results,results131,go_sem,k0]) rfl ⟨rfl,g.c,?_⟩;have m:Av [] w w1:=(((Av.refl [] w).alloc _).alloc _).Ad hm;exact Ak.quiet H ((m.setCell (.inr EQ) _).setCell (.inr EQ) _)
 | true=>
  have hv:0<=v/\v < 4:=by simpa[FR] using hok
  clear h hok;go_enter func131,ntmps131;go_wp2_with fail;have m0:=((Av.refl [] w).alloc (.cells #[.bool true,i5 v] 235)).alloc (.cells #[.bool false,i5 0] 264);have S:=hid (Ak.quiet H m0);have kk:=(A5.new (A5.nil (w.alloc (.cells #[.bool true,i5 v] 235)) (g.Ar G)) (Ak.alloc H _).Am (.cells #[.bool false,i5 0] 264));rw[OC] at kk;have K:=hid kk;clear kk m0;refine(dB v _ g G S.Am (ZZ hb Y)).mono ?_;rintro e w1 ⟨rfl,hm⟩;replace K:=hid (K.quiet hm);replace S:=hid (S.trans (Ak.quiet S.Am hm));clear hm;go_wp2_with fail;refine(L2 r (.n (G.Ac+v)) 0 _ g G S.Am hn).mono ?_;rintro e w2 ⟨rfl,c,st⟩;replace K:=hid (K.step st);replace S:=hid (S.trans st);clear st;go_wp2_with fail;refine(RL r _).mono ?_;rintro e w3 ⟨rfl,hm⟩;replace K:=hid (K.quiet hm);replace S:=hid (S.trans (Ak.quiet S.Am hm));clear hm;have k0:=K.cell (Z.2 rfl);have k1:=K.free (Z.2 rfl);have k2:=K.lt (Z.2 rfl);go_wp2_with fail;refine bodyPost_ret (v:= .agg #[.bool true,i5 r]) (by simp[results,results131,go_sem,k0]) rfl ⟨rfl,c,?_⟩;have hk:=K.out.out _ _ (Z.2 rfl);have hle:w.heap.size<=w.heap.size+1:=Qan _;exact(S.VP hle hk 0 _).VP hle hk 1 _
def EE (F:List (Nat×Obj)) (sl:Value) (ws:List Value):Prop:=
 (ws=[]/\∃p c,sl= .slice p 0 c)\/∃b c T,∃cur:Array Value,sl= .slice (some ⟨b,0,none⟩) ws.length c/\(b,Obj.cells cur T (0,0))∈F/\ws=cur.toList.take ws.length
def At.c2 (a:At):List Value:=[.bool a.AR,i5 a.v]
def Ef (F:List (Nat×Obj)):Bt->List Value->Prop
 | .nil,vs=>vs=[]
 | .set v op a b r,vs=>∃p us,vs= .iface 233 (i6 p)::us/\(p,Obj.cells #[i5 v,.string op,.bool a.AR,i5 a.v,.bool b.AR,i5 b.v] 238 (0,0))∈F/\Ef F r us
 | .get v f s a r,vs=>∃p us,vs= .iface 243 (i6 p)::us/\(p,Obj.cells #[i5 v,i5 f,i5 s,.bool a.AR,i5 a.v] 245 (0,0))∈F/\Ef F r us
 | .put f s i a r,vs=>∃p us,vs= .iface 246 (i6 p)::us/\(p,Obj.cells #[i5 f,i5 s,.bool i.AR,i5 i.v,.bool a.AR,i5 a.v] 248 (0,0))∈F/\Ef F r us
 | .out a r,vs=>∃p us,vs= .iface 249 (i6 p)::us/\(p,Obj.cells #[.bool a.AR,i5 a.v] 251 (0,0))∈F/\Ef F r us
 | .atomic b r,vs=>∃p us sl ws,vs= .iface 253 (i6 p)::us/\(p,Obj.cells #[sl] 255 (0,0))∈F/\EE F sl ws/\Ef F b ws/\Ef F r us
 | .EA a b r,vs=>∃p us sl ws,vs= .iface 256 (i6 p)::us/\(p,Obj.cells #[.bool a.AR,i5 a.v,sl] 258 (0,0))∈F/\EE F sl ws/\Ef F b ws/\Ef F r us
 | .loop n b r,vs=>∃p us sl ws,vs= .iface 259 (i6 p)::us/\(p,Obj.cells #[i5 n,sl] 261 (0,0))∈F/\EE F sl ws/\Ef F b ws/\Ef F r us
theorem EE.sub (h:EE F sl ws) (k:∀x,x∈F->x∈E):EE E sl ws:=by
 rcases h with h | ⟨b,c,T,cur,h1,h2,h3⟩
 ·exact .inl h
 ·exact .inr ⟨b,c,T,cur,h1,k _ h2,h3⟩
theorem Ef.sub (h:Ef F t vs) (k:∀x,x∈F->x∈E):Ef E t vs:=by
 induction t generalizing vs with
 | nil=>exact h
 | set v op a b r ih=>obtain⟨p,us,h1,h2,h3⟩:=h;exact⟨p,us,h1,k _ h2,ih h3⟩
 | get v f s a r ih=>obtain⟨p,us,h1,h2,h3⟩:=h;exact⟨p,us,h1,k _ h2,ih h3⟩
 | put f s i a r ih=>obtain⟨p,us,h1,h2,h3⟩:=h;exact⟨p,us,h1,k _ h2,ih h3⟩
 | out a r ih=>obtain⟨p,us,h1,h2,h3⟩:=h;exact⟨p,us,h1,k _ h2,ih h3⟩
 | atomic b r ib ih=>obtain⟨p,us,sl,ws,h1,h2,h3,h4,h5⟩:=h;exact⟨p,us,sl,ws,h1,k _ h2,h3.sub k,ib h4,ih h5⟩
 | EA a b r ib ih=>obtain⟨p,us,sl,ws,h1,h2,h3,h4,h5⟩:=h;exact⟨p,us,sl,ws,h1,k _ h2,h3.sub k,ib h4,ih h5⟩
 | loop n b r ib ih=>obtain⟨p,us,sl,ws,h1,h2,h3,h4,h5⟩:=h;exact⟨p,us,sl,ws,h1,k _ h2,h3.sub k,ib h4,ih h5⟩
theorem EE.KO (h:EE F sl ws):∃p c,sl= .slice p ws.length c:=by
 rcases h with⟨rfl,p,c,rfl⟩ | ⟨b,c,T,cur,h1,_,_⟩
 ·exact⟨p,c,rfl⟩
 ·exact⟨_,c,h1⟩
theorem EE.AW {p:Option Addr} {c:Nat} (h:EE F (.slice p n c) ws) {w:World} {L:List Ob} (K:A5 w L F) {k:Nat} {v:Value} {us:List Value} (hk:ws.drop k=v::us):
  n=ws.length/\k < n/\∃b,p=some ⟨b,0,none⟩/\w.cell? ⟨b,k,none⟩=some v:=by
 have AX:k < ws.length:=by
  rcases Qbs k ws.length with h | h
  ·exact h
  ·rw[List.drop_eq_nil_of_le h] at hk;cases hk
 have hv:ws[k]?=some v:=by
  have:=Qao List.head? hk;rwa[List.head?_drop,List.head?_cons] at this
 rcases h with⟨rfl,_⟩ | ⟨b,c',T,cur,h1,h2,h3⟩
 ·simp at AX
 ·cases h1;refine⟨rfl,AX,b,rfl,?_⟩;rw[K.cell h2];rw[h3,List.getElem?_take,In AX,Array.getElem?_toList] at hv;exact hv
def FH:Bt->Nat
 | .nil=>0
 | .set _ _ _ _ r=>1+FH r
 | .get _ _ _ _ r=>1+FH r
 | .put _ _ _ _ r=>1+FH r
 | .out _ r=>1+FH r
 | .atomic b r=>1+FH b+FH r
 | .EA _ b r=>1+FH b+FH r
 | .loop _ b r=>1+FH b+FH r
def fU:Bt->Bt
 | .nil=> .nil
 | .set v op a b _=> .set v op a b .nil
 | .get v f s a _=> .get v f s a .nil
 | .put f s i a _=> .put f s i a .nil
 | .out a _=> .out a .nil
 | .atomic b _=> .atomic b .nil
 | .EA a b _=> .EA a b .nil
 | .loop n b _=> .loop n b .nil
def xH:Bt->Bt
 | .nil=> .nil
 | .set _ _ _ _ r=>r
 | .get _ _ _ _ r=>r
 | .put _ _ _ _ r=>r
 | .out _ r=>r
 | .atomic _ r=>r
 | .EA _ _ r=>r
 | .loop _ _ r=>r
theorem Ef.len (h:Ef F t vs):vs.length<=FH t:=by
 induction t generalizing vs with
 | nil=>rw[show vs=[] from h];simp
 | set v op a b r ih=>obtain⟨p,us,rfl,_,h3⟩:=h;have:=ih h3;simp[FH];omega
 | get v f s a r ih=>obtain⟨p,us,rfl,_,h3⟩:=h;have:=ih h3;simp[FH];omega
 | put f s i a r ih=>obtain⟨p,us,rfl,_,h3⟩:=h;have:=ih h3;simp[FH];omega
 | out a r ih=>obtain⟨p,us,rfl,_,h3⟩:=h;have:=ih h3;simp[FH];omega
 | atomic b r _ ih=>obtain⟨p,us,sl,ws,rfl,_,_,_,h3⟩:=h;have:=ih h3;simp[FH];omega
 | EA a b r _ ih=>obtain⟨p,us,sl,ws,rfl,_,_,_,h3⟩:=h;have:=ih h3;simp[FH];omega
 | loop n b r _ ih=>obtain⟨p,us,sl,ws,rfl,_,_,_,h3⟩:=h;have:=ih h3;simp[FH];omega
theorem Wv (k:Nat) (hk:k<=1000):wrap64 ((k:Int)+1)=k+1:=IntWalk.wrap64_in _ Y
theorem Ef.hd (h:Ef F t (v::us)):Ef F (fU t) [v]/\Ef F (xH t) us:=by
 cases t with
 | nil=>cases h
 | set _ op a b r=>obtain⟨p,q,h1,h2,h3⟩:=h;cases h1;exact⟨⟨p,[],rfl,h2,rfl⟩,h3⟩
 | get _ f s a r=>obtain⟨p,q,h1,h2,h3⟩:=h;cases h1;exact⟨⟨p,[],rfl,h2,rfl⟩,h3⟩
 | put f s i a r=>obtain⟨p,q,h1,h2,h3⟩:=h;cases h1;exact⟨⟨p,[],rfl,h2,rfl⟩,h3⟩
 | out a r=>obtain⟨p,q,h1,h2,h3⟩:=h;cases h1;exact⟨⟨p,[],rfl,h2,rfl⟩,h3⟩
 | atomic b r=>obtain⟨p,q,sl,ws,h1,h2,h3,h4,h5⟩:=h;cases h1;exact⟨⟨p,[],sl,ws,rfl,h2,h3,h4,rfl⟩,h5⟩
 | EA a b r=>obtain⟨p,q,sl,ws,h1,h2,h3,h4,h5⟩:=h;cases h1;exact⟨⟨p,[],sl,ws,rfl,h2,h3,h4,rfl⟩,h5⟩
 | loop n b r=>obtain⟨p,q,sl,ws,h1,h2,h3,h4,h5⟩:=h;cases h1;exact⟨⟨p,[],sl,ws,rfl,h2,h3,h4,rfl⟩,h5⟩
abbrev TaY (T:TypeId):Prop:=∀(p:Value) (w:World),(Instr.typeAssert (.iface T p) 208 T true).run prog w= .ok (.tuple #[p,.bool true]) w
abbrev TaN (T Z99:TypeId):Prop:=∀(p:Value) (w:World),(Instr.typeAssert (.iface T p) 208 Z99 true).run prog w= .ok (.tuple #[.pointer none,.bool false]) w
theorem VC:TaY 233:=fun _ _=>Fd
theorem gn:TaN 233 246:=fun _ _=>Fd
theorem gp:TaN 233 249:=fun _ _=>Fd
theorem Yr:TaN 233 256:=fun _ _=>Fd
theorem TE:TaN 233 259:=fun _ _=>Fd
theorem XJ:TaN 233 253:=fun _ _=>Fd
theorem gv:TaN 243 233:=fun _ _=>Fd
theorem gy:TaY 243:=fun _ _=>Fd
theorem gw:TaN 243 246:=fun _ _=>Fd
theorem gx:TaN 243 249:=fun _ _=>Fd
theorem Yw:TaN 243 256:=fun _ _=>Fd
theorem TM:TaN 243 259:=fun _ _=>Fd
theorem XN:TaN 243 253:=fun _ _=>Fd
theorem gq:TaN 246 233:=fun _ _=>Fd
theorem gu:TaN 246 243:=fun _ _=>Fd
theorem VD:TaY 246:=fun _ _=>Fd
theorem gr:TaN 246 249:=fun _ _=>Fd
theorem Ys:TaN 246 256:=fun _ _=>Fd
theorem TF:TaN 246 259:=fun _ _=>Fd
theorem XL:TaN 246 253:=fun _ _=>Fd
theorem VE:TaN 249 233:=fun _ _=>Fd
theorem VF:TaN 249 243:=fun _ _=>Fd
theorem Qg:TaN 249 246:=fun _ _=>Fd
theorem Qh:TaY 249:=fun _ _=>Fd
theorem Yt:TaN 249 256:=fun _ _=>Fd
theorem TH:TaN 249 259:=fun _ _=>Fd
theorem XM:TaN 249 253:=fun _ _=>Fd
theorem mg:TaN 256 233:=fun _ _=>Fd
theorem mh:TaN 256 243:=fun _ _=>Fd
theorem Yu:TaN 256 246:=fun _ _=>Fd
theorem Yv:TaN 256 249:=fun _ _=>Fd
theorem VJ:TaY 256:=fun _ _=>Fd
theorem VI:TaN 256 259:=fun _ _=>Fd
theorem Z5:TaN 256 253:=fun _ _=>Fd
theorem cG:TaN 259 233:=fun _ _=>Fd
theorem cH:TaN 259 243:=fun _ _=>Fd
theorem TJ:TaN 259 246:=fun _ _=>Fd
theorem TL:TaN 259 249:=fun _ _=>Fd
theorem Qi:TaN 259 256:=fun _ _=>Fd
theorem MH:TaY 259:=fun _ _=>Fd
theorem VH:TaN 259 253:=fun _ _=>Fd
theorem XO:TaN 253 233:=fun _ _=>Fd
theorem XP:TaN 253 243:=fun _ _=>Fd
theorem PX:TaN 253 246:=fun _ _=>Fd
theorem PY:TaN 253 249:=fun _ _=>Fd
theorem MN:TaN 253 256:=fun _ _=>Fd
theorem Kv:TaN 253 259:=fun _ _=>Fd
theorem LQ:TaY 253:=fun _ _=>Fd
theorem r4 (F:List (Nat×Obj)) (w:World) (L:List Ob) (hK:A5 w L F) (n:Nat) (hn9:n<=1000):∀(t:Bt) (sl:Value) (vs:List Value),FH t<=n->EE F sl vs->Ef F t vs->
  Calls prog 155 #[sl] w fun e w'=>e= .returned (.bool (Cr t))/\w'=w:=by
 induction n using Nat.strongRecOn with
 | _ n ih=>
 intro t sl vs hn hr hs;have hlen:vs.length<=1000:=by have:=hs.len;omega
 obtain⟨p,c,rfl⟩:=hr.KO;have Hr:=hid hr;have Hs:=hid hs;have HK:=hid hK;have IH:=hid ih;clear hr hs hK ih;go_enter func155,ntmps155;go_wp2
 go_loop [10] (fun i=>∃(k:Nat) (t':Bt),i= i5 k/\k<=vs.length/\Ef F t' (vs.drop k)/\Cr t=Cr t'/\FH t'<=n) (fun i=>vs.length - (intOf i).toNat)
 case atStart=>exact⟨0,t,rfl,d6 _,Hs,rfl,hn⟩
 case round=>
  obtain⟨k,t',rfl,hk,AD,fO,Ia⟩:=hrel;have Ty:=hid fO;clear fO;cases hd:vs.drop k with
  | nil=>
   rw[hd] at AD;have Jc:¬(k:Int) < (vs.length:Int):=by have:=Qcu.1 hd;omega
   have ht:Cr t'=false:=by
    exact mat
   have Ht:=hid ht;clear ht AD hd;go_wp2;go_ret;rw[Ty.out,Ht.out];exact⟨rfl,rfl⟩
  | cons v us=>
   obtain⟨_,Sr,b,hp,Lm⟩:=Hr.AW HK hd;subst hp;have Jc:(k:Int) < (vs.length:Int):=Y
   have fV:us=vs.drop (k+1):=by rw[<-Qc4,hd];rfl
   rw[hd] at AD;have lQ:=hid fV;clear hd fV;have inc:=Wv k Y;cases t' with
   | nil=>cases AD
   | set v0 op a b0 r=>
    obtain⟨q,us',h1,h2,h3⟩:=AD;cases h1;have ta1:=gn;have ta2:=Yr;have ta3:=TE;have H3:=hid h3;clear h3 h2;simp only[FH] at Ia;go_wp2_with fail
    go_round
    case rel=>(try rw[inc]);exact⟨k+1,r,rfl,Y,lQ.out▸H3.out,Ty,Y⟩
    case measure=>(try rw[inc]);simp[intOf];omega
   | get v0 f s a r=>
    obtain⟨q,us',h1,h2,h3⟩:=AD;cases h1;have ta1:=gw;have ta2:=Yw;have ta3:=TM;have H3:=hid h3;clear h3 h2;simp only[FH] at Ia;go_wp2_with fail
    go_round
    case rel=>(try rw[inc]);exact⟨k+1,r,rfl,Y,lQ.out▸H3.out,Ty,Y⟩
    case measure=>(try rw[inc]);simp[intOf];omega
   | out a r=>
    obtain⟨q,us',h1,h2,h3⟩:=AD;cases h1;have ta1:=Qg;have ta2:=Yt;have ta3:=TH;have H3:=hid h3;clear h3 h2;simp only[FH] at Ia;go_wp2_with fail
    go_round
    case rel=>(try rw[inc]);exact⟨k+1,r,rfl,Y,lQ.out▸H3.out,Ty,Y⟩
    case measure=>(try rw[inc]);simp[intOf];omega
   | atomic b r=>
    obtain⟨q,us',sl',ws,h1,h2,h3,h4,h5⟩:=AD;cases h1;have ta1:=PX;have ta2:=MN;have ta3:=Kv;have H5:=hid h5;clear h3 h4 h5 h2;simp only[FH] at Ia;go_wp2_with fail
    go_round
    case rel=>(try rw[inc]);exact⟨k+1,r,rfl,Y,lQ.out▸H5.out,Ty,Y⟩
    case measure=>(try rw[inc]);simp[intOf];omega
   | put f s i a r=>
    obtain⟨q,us',h1,h2,h3⟩:=AD;cases h1;have ta1:=VD;have ta2:=Ys;have ta3:=TF;clear h3 h2;go_wp2;go_ret;rw[Ty.out];exact⟨rfl,rfl⟩
   | EA a b r=>
    obtain⟨q,us',sl',ws,h1,h2,h3,h4,h5⟩:=AD;cases h1;have ta1:=Yu;have ta2:=VJ;have ta3:=VI;have H3:=hid h3;have H4:=hid h4;have H5:=hid h5;have kq:=HK.cell h2;clear h3 h4 h5 h2;simp only[FH] at Ia;obtain⟨p',c',rfl⟩:=H3.KO;go_wp2_with fail;refine(IH (FH b) Y Y b _ ws (LE _) H3 H4).mono ?_;rintro e w' ⟨rfl,rfl⟩;cases J1:Cr b with
    | true=>
     go_wp2_with fail;go_ret;rw[Ty.out];simp[Cr,J1]
    | false=>
     exact ma3
   | loop m b r=>
    obtain⟨q,us',sl',ws,h1,h2,h3,h4,h5⟩:=AD;cases h1;have ta1:=TJ;have ta2:=Qi;have ta3:=MH;have H3:=hid h3;have H4:=hid h4;have H5:=hid h5;have kq:=HK.cell h2;clear h3 h4 h5 h2;simp only[FH] at Ia;obtain⟨p',c',rfl⟩:=H3.KO;go_wp2_with fail;refine(IH (FH b) Y Y b _ ws (LE _) H3 H4).mono ?_;rintro e w' ⟨rfl,rfl⟩;cases J1:Cr b with
    | true=>
     go_wp2_with fail;go_ret;rw[Ty.out];simp[Cr,J1]
    | false=>
     exact ma3
def GX (F:List (Nat×Obj)):List Bt->List Value->Prop
 | [],vs=>vs=[]
 | t::r,vs=>∃sl ws us,vs=sl::us/\EE F sl ws/\Ef F t ws/\GX F r us
theorem GX.len (h:GX F ts vs):vs.length=ts.length:=by
 induction ts generalizing vs with
 | nil=>rw[show vs=[] from h];rfl
 | cons t r ih=>obtain⟨sl,ws,us,rfl,_,_,h3⟩:=h;rw[IR,IR,ih h3]
theorem GX.AW (h:GX F ts vs) (k:Nat) (hk:k < ts.length):∃sl ws us,vs.drop k=sl::us/\EE F sl ws/\Ef F (ts.getD k .nil) ws:=by
 induction ts generalizing vs k with
 | nil=>simp at hk
 | cons t r ih=>
  obtain⟨sl,ws,us,rfl,h1,h2,h3⟩:=h;cases k with
  | zero=>exact⟨sl,ws,us,rfl,h1,h2⟩
  | succ k=>exact ih h3 k (by simpa using hk)
end Go.Proofs.YtpdfifdlhpmofaaGreatDoor
