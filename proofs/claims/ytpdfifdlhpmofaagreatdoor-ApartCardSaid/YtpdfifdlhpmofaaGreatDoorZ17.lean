/-
  Part 17 of the proof.
-/
import Derived.Test.YtpdfifdlhpmofaaGreatDoorZ16
set_option linter.unusedVariables false
set_option linter.unusedSimpArgs false
set_option maxHeartbeats 3200000
set_option maxRecDepth 100000
namespace Go.Proofs.YtpdfifdlhpmofaaGreatDoor
open Go.RowKit Tryz
open Go.Lib (hid)
theorem maj {p:Prop} (h:p:=by
 go_wp2_with fail;refine(AQ _ _ _).mono ?_;rintro e w5 ⟨⟨fb,rfl,hb⟩,hm⟩;go_wp2;rw[Gz.out];exact⟨rfl,Cp Mr ⟨⟨fb,rfl,hb⟩,QU.Bf.Ad hm⟩⟩):p:=h
theorem maP {p:Prop} (h:p:=by
 go_wp2;go_ret;exact⟨_,_,_,rfl,(Av.refl _ _).alloc _,BM.new _ _ _,LE _,fun F ws h1 h2 h3=>⟨_,[],_,ws,rfl,h1,h2,h3,rfl⟩⟩):p:=h
theorem maU {p:Prop} (h:p:=by
 obtain⟨rfl,_⟩:=he;refine hK _ _ (fun h=>UV rfl h) ?_;clear hK;simp only[BB];go_wp2
 go_end0
 rw[Hr.out];exact hf.out):p:=h
theorem mba {p:Prop} (h:p:=by
 go_enter func116,ntmps116;go_wp2_with fail;refine(AQ _ _ _).mono ?_;rintro e w1 ⟨⟨fb,rfl,hb⟩,hm⟩;go_wp2;rw[Hr.out];exact⟨rfl,⟨fb,rfl,hb⟩,((Av.refl _ _).alloc _).Ad hm⟩):p:=h
theorem mbp {p:Prop} (h:p:=by
 clear hw;go_wp2;rw[hr.out];exact⟨rfl,A7 (R0.fail ⟨⟨fb,rfl,hb⟩,hm⟩)⟩):p:=h
theorem mbI {p:Prop} (h:p:=by
 intro e w1 he;have hf:=hid (OK he H (Av.refl _ _) H.Am (fun _ hy=>hy));obtain⟨rfl,_⟩:=he;go_wp2
 go_end0
 exact hf.out):p:=h
theorem mbV {p:Prop} (h:p:=by
 exact⟨rfl,⟨fb,rfl,hb⟩,((Av.refl [] w).drew).Ad hm⟩):p:=h
theorem mb8 {p:Prop} (h:p:=by
 exact⟨by go_simp,((((Av.refl [] w).alloc _).alloc _).drew).heap WK EQ,by go_simp⟩):p:=h
theorem mcb {p:Prop} (h:p:=by
 split at h
 ·cases h
 ·split at h
  ·cases h
  ·rename_i hl;cases h;rw[Nn];exact RW hl):p:=h
theorem mcl {p:Prop} (h:p:=by
 go_enter func75,ntmps75;go_wp2
 go_end0
 exact⟨rfl,Av.refl _ _⟩):p:=h
variable {F E F0:List (Nat×Obj)} {c:Array Value} {o p:Obj} {os:List Fr} {ts:List Bt} {vs:List Value} {x y:qr} {w W w' w0:World} {L A B:List Ob} {b xb:Nat} {v wv:Value} {e:Ending} {n nm:ByteArray} {Ae:Int} {l:Ws} {s:Sg} {T:TypeId} {r:PV}
structure Jk where
 bb:Nat
 s:SG
 fn:Fn
 cap:Array Value
 Au:Bool
 us:List Value
variable {f:Jk} {fs:List Jk}
structure FG where
 xb:Nat
 pb:Nat
 sb:Nat
 lb:Nat
 tb:Nat
 tc:Nat
 tv:List Value
 c:SG
 cs:List Value
 ob:Nat
 oc:Nat
 fr:List Jk
variable {g:FG}
def F4 (l:List fF):List (ByteArray×Value):=l.map fun s=>(s.name,.agg #[i5 s.first,i5 s.size])
def GF (l:List ByteArray):List (ByteArray×Value):=l.mapIdx fun i n=>(n,i5 (i:Int))
def Jk.Ar (f:Jk):List Ob:=[.Au f.bb #[.slice f.s.p f.us.length f.s.c] 165,.row (.slice f.s.p f.us.length f.s.c) 208 1 f.us.length f.us]
def Jk.cells (f:Jk):List Value:=[i6 f.bb,.func f.fn #[] f.cap,.bool f.Au]
def FG.Dk (g:FG):List Value:=[.pointer (some ⟨g.tb,g.tv.length,none⟩),.nilFunc,.bool false]++g.fr.flatMap Jk.cells
def FG.Ar (g:FG) (x:qr) (wv:Value) (Ae:Int):List Ob:=
 [.Au g.xb #[wv,i5 Ae,i6 g.pb,.map (some g.sb),.map (some g.lb),.slice (some ⟨g.ob,0,none⟩) (g.fr.length+1) g.oc,i5 x.Ah] 151,
  .Au g.pb #[.slice (some ⟨g.tb,0,none⟩) (g.tv.length+1) g.tc,i5 x.cells] 146,
  .SH g.sb (IM (F4 x.As)),
  .row (.slice (some ⟨g.tb,0,none⟩) (g.tv.length+1) g.tc) 165 1 (g.tv.length+1) (g.tv++[.slice g.c.p g.cs.length g.c.c]),
  .SH g.lb (IM (GF x.AA)),
  .row (.slice (some ⟨g.ob,0,none⟩) (g.fr.length+1) g.oc) 205 3 (g.fr.length+1) g.Dk,
  .row (.slice g.c.p g.cs.length g.c.c) 208 1 g.cs.length g.cs]++g.fr.reverse.flatMap Jk.Ar
def FG.sA (g:FG) (x:qr) (wv:Value) (Ae:Int):List Ob:=
 [.Au g.xb #[wv,i5 Ae,i6 g.pb,.map (some g.sb),.map none,.slice none 0 0,i5 0] 151,
  .Au g.pb #[.slice none 0 0,i5 x.cells] 146,
  .SH g.sb (IM (F4 x.As))]
def Pt (F:List (Nat×Obj)):JJ->Fn->Array Value->Prop
 | .atomic,f,c=>f= .func 124/\c= #[]
 | .EA a,f,c=>f= .func 126/\∃b,c= #[i6 b]/\(b,Obj.cells #[.bool a.AR,i5 a.v] 235 (0,0))∈F
 | .loop n,f,c=>f= .func 128/\∃b,c= #[i6 b]/\(b,Obj.cells #[i5 n] 3 (0,0))∈F
theorem Pt.sub {k:JJ} {f:Fn} (h:Pt F k f c) (s:∀x,x∈F->x∈E):Pt E k f c:=by
 cases k with
 | atomic=>exact h
 | EA a=>obtain⟨h0,b,h1,h2⟩:=h;exact⟨h0,b,h1,s _ h2⟩
 | loop n=>obtain⟨h0,b,h1,h2⟩:=h;exact⟨h0,b,h1,s _ h2⟩
structure pY (F:List (Nat×Obj)) (f:Jk) (o:Fr):Prop where
 st:Ef F o.body f.us
 Au:f.Au=o.kind.CD
 cl:Pt F o.kind f.fn f.cap
def JH (F:List (Nat×Obj)):List Jk->List Fr->Prop
 | [],os=>os=[]
 | f::fs,os=>∃o r,os=o::r/\pY F f o/\JH F fs r
structure Xp (F:List (Nat×Obj)) (g:FG) (x:qr):Prop where
 U1:∃ts t,x.Aa=ts++[t]/\GX F ts g.tv/\Ef F t g.cs
 frs:JH F g.fr x.Af
theorem pY.sub {o:Fr} (h:pY F f o) (s:∀x,x∈F->x∈E):pY E f o:=⟨h.st.sub s,h.Au,h.cl.sub s⟩
theorem JH.sub (h:JH F fs os) (s:∀x,x∈F->x∈E):JH E fs os:=by
 induction fs generalizing os with
 | nil=>exact h
 | cons f fs ih=>obtain⟨o,r,h1,h2,h3⟩:=h;exact⟨o,r,h1,h2.sub s,ih h3⟩
theorem JH.len (h:JH F fs os):os.length=fs.length:=by
 induction fs generalizing os with
 | nil=>rw[show os=[] from h];rfl
 | cons f fs ih=>obtain⟨o,r,rfl,_,h3⟩:=h;simp[ih h3]
theorem JH.x6 (h:JH F fs os) {f:Jk} {o:Fr} (k:pY F f o):JH F (fs++[f]) (os++[o]):=by
 induction fs generalizing os with
 | nil=>rw[show os=[] from h];exact⟨o,[],rfl,k,rfl⟩
 | cons f' fs ih=>obtain⟨o',r,rfl,h2,h3⟩:=h;exact⟨o',r++[o],rfl,h2,ih h3⟩
theorem JH.CM (h:JH F (fs++[f]) os):∃r o,os=r++[o]/\JH F fs r/\pY F f o:=by
 induction fs generalizing os with
 | nil=>obtain⟨o,r,rfl,h2,h3⟩:=h;rw[show r=[] from h3];exact⟨[],o,rfl,rfl,h2⟩
 | cons f' fs ih=>
  obtain⟨o',r,rfl,h2,h3⟩:=h;obtain⟨r',o,rfl,h4,h5⟩:=ih h3;exact⟨o'::r',o,rfl,⟨o',r',rfl,h2,h4⟩,h5⟩
theorem GX.sub (h:GX F ts vs) (s:∀x,x∈F->x∈E):GX E ts vs:=by
 induction ts generalizing vs with
 | nil=>exact h
 | cons t r ih=>obtain⟨sl,ws,us,h1,h2,h3,h4⟩:=h;exact⟨sl,ws,us,h1,h2.sub s,h3.sub s,ih h4⟩
theorem GX.x6 (h:GX F ts vs) {t:Bt} {sl:Value} {ws:List Value} (k1:EE F sl ws) (k2:Ef F t ws):GX F (ts++[t]) (vs++[sl]):=by
 induction ts generalizing vs with
 | nil=>rw[show vs=[] from h];exact⟨sl,ws,[],rfl,k1,k2,rfl⟩
 | cons t' r ih=>obtain⟨sl',ws',us,rfl,h2,h3,h4⟩:=h;exact⟨sl',ws',us++[sl],rfl,h2,h3,ih h4⟩
theorem Xp.sub (h:Xp F g x) (s:∀y,y∈F->y∈E):Xp E g x:=by
 obtain⟨⟨ts,t,h1,h2,h3⟩,h4⟩:=h;exact⟨⟨ts,t,h1,h2.sub s,h3.sub s⟩,h4.sub s⟩
theorem Ef.Fj {t u:Bt} {us:List Value} (h:Ef F t vs) (k:Ef F u us):Ef F (t.Fj u) (vs++us):=by
 induction t generalizing vs with
 | nil=>rw[show vs=[] from h];exact k
 | set v op a b r ih=>obtain⟨p,q,rfl,h2,h3⟩:=h;exact⟨p,q++us,rfl,h2,ih h3⟩
 | get v f s a r ih=>obtain⟨p,q,rfl,h2,h3⟩:=h;exact⟨p,q++us,rfl,h2,ih h3⟩
 | put f s i a r ih=>obtain⟨p,q,rfl,h2,h3⟩:=h;exact⟨p,q++us,rfl,h2,ih h3⟩
 | out a r ih=>obtain⟨p,q,rfl,h2,h3⟩:=h;exact⟨p,q++us,rfl,h2,ih h3⟩
 | atomic b r ib ih=>obtain⟨p,q,sl,ws,rfl,h2,h3,h4,h5⟩:=h;exact⟨p,q++us,sl,ws,rfl,h2,h3,h4,ih h5⟩
 | EA a b r ib ih=>obtain⟨p,q,sl,ws,rfl,h2,h3,h4,h5⟩:=h;exact⟨p,q++us,sl,ws,rfl,h2,h3,h4,ih h5⟩
 | loop n b r ib ih=>obtain⟨p,q,sl,ws,rfl,h2,h3,h4,h5⟩:=h;exact⟨p,q++us,sl,ws,rfl,h2,h3,h4,ih h5⟩
theorem Az.rD {i:Nat} (h:Az w L) (hi:L[i]?=some (.SH b o)) (o':Obj):
  Ak w L {w with heap:=w.heap.setIfInBounds b o'} (L.set i (.SH b o')):=by
 have hb:=BA (h.get hi);refine h.swap hi ⟨rfl,rfl,rfl,EQ,fun j hj Bi=> ?_⟩ ?_ (by simp[Ob.fp]) (fun _ hb=> .inl hb)
 ·show(w.heap.setIfInBounds b o')[j]?=_;rw[Array.getElem?_setIfInBounds_ne];intro e;exact Bi (by simp[Ob.fp,e])
 ·show(w.heap.setIfInBounds b o')[b]?=some o';rw[Array.getElem?_setIfInBounds_self];simp[hb]
theorem Qm {e:TypeId} {n:Nat} {xs:List Value} (h:Az w (A++ .row v e 1 n xs::B)) (K:A5 w (A++ .row v e 1 n xs::B) F):
  ∃E,A5 w (A++B) (E++F)/\EE (E++F) v xs:=by
 have hr:w.ownsRow 0 e 1 v n xs:=h.holds _ (GT _ (J ..));have bh:∀b,b∈D4 (A++B)->b∈D4 (A++ .row v e 1 n xs::B):=fun b hb=>by
  rw[A4,Nm] at hb⊢;rw[Gd,Nm];rcases hb with hb | hb
  ·exact .inl hb
  ·exact .inr (.inr hb)
 have K0:A5 w (A++B) F:=⟨K.heap,fun b o hb hl=>K.out b o hb (bh b hl)⟩;obtain⟨hl,⟨rfl,h0⟩ | ⟨g,cap,cur,rfl,h1,h2,h3,h4,h5,h6⟩⟩:=hr
 ·refine⟨[],K0,.inl ⟨?_,none,0,rfl⟩⟩;exact RK (by rw[hl,h0])
 ·refine⟨[(g,Obj.cells cur e (0,0))],A5.aS K0 ⟨fun b o hb=> ?_,fun b o hb hm=> ?_⟩,.inr ⟨g,cap,e,cur,?_,D _ (Z.2 rfl),?_⟩⟩
  ·rw[Z] at hb;cases hb;exact h2
  ·rw[Z] at hb;cases hb;have hn:=h.KE;rw[A4,Gd,i9,i9] at hn;obtain⟨_,⟨_,_,n4⟩,n5⟩:=hn;rw[A4,Nm] at hm;have hg:g∈(Ob.row (.slice (some ⟨g,0,none⟩) n cap) e 1 n xs).fp:=by simp[Ob.fp,Value.ownBlock]
   rcases hm with hm | hm
   ·exact n5 g hm g (D _ hg) rfl
   ·exact n4 g hg g hm rfl
  ·rw[hl,Nat.mul_one]
  ·rw[hl];exact h6.symm
structure FF (w:World) (g:FG) (x:qr) (wv:Value) (Ae:Int):Prop where
 c:∀i:Nat,w.cell? ⟨g.xb,i,none⟩=(#[wv,i5 Ae,i6 g.pb,.map (some g.sb),.map (some g.lb),.slice (some ⟨g.ob,0,none⟩) (g.fr.length+1) g.oc,i5 x.Ah]:Array Value)[i]?
 f:∀i:Nat,w.frozen? ⟨g.xb,i,none⟩=false
 lt:g.xb < w.heap.size
 pc:∀i:Nat,w.cell? ⟨g.pb,i,none⟩=(#[.slice (some ⟨g.tb,0,none⟩) (g.tv.length+1) g.tc,i5 x.cells]:Array Value)[i]?
 pf:∀i:Nat,w.frozen? ⟨g.pb,i,none⟩=false
 plt:g.pb < w.heap.size
 sh:w.heap[g.sb]?=some (IM (F4 x.As))
 lo:w.heap[g.lb]?=some (IM (GF x.AA))
theorem GU (h:Az w (g.Ar x wv Ae)):FF w g x wv Ae:=by
 have h0:=h.Au (i:=0) rfl;have h1:=h.Au (i:=1) rfl;exact⟨h0.cell,h0.free,h0.lt,h1.cell,h1.free,h1.lt,h.get (i:=2) rfl,h.get (i:=4) rfl⟩
structure FF0 (w:World) (g:FG) (x:qr) (wv:Value) (Ae:Int):Prop where
 c:∀i:Nat,w.cell? ⟨g.xb,i,none⟩=(#[wv,i5 Ae,i6 g.pb,.map (some g.sb),.map none,.slice none 0 0,i5 0]:Array Value)[i]?
 f:∀i:Nat,w.frozen? ⟨g.xb,i,none⟩=false
 lt:g.xb < w.heap.size
 pc:∀i:Nat,w.cell? ⟨g.pb,i,none⟩=(#[.slice none 0 0,i5 x.cells]:Array Value)[i]?
 pf:∀i:Nat,w.frozen? ⟨g.pb,i,none⟩=false
 plt:g.pb < w.heap.size
 sh:w.heap[g.sb]?=some (IM (F4 x.As))
theorem W0 (h:Az w (g.sA x wv Ae)):FF0 w g x wv Ae:=by
 have h0:=h.Au (i:=0) rfl;have h1:=h.Au (i:=1) rfl;exact⟨h0.cell,h0.free,h0.lt,h1.cell,h1.free,h1.lt,h.get (i:=2) rfl⟩
theorem ZI {a b:ByteArray}:bs a=bs b<->a=b:=⟨fun h=>Nt h,fun h=>by rw[h]⟩
theorem Wh (n:ByteArray):∀(l:List ByteArray) (k:Nat),((l.mapIdx fun i (m:ByteArray)=>(m,Value.int .i64 ((i+k:Nat):Int))).find? fun p=>decide (p.1=n)).map (·.2)=if 0<=DZ l n k then some (i5 (DZ l n k)) else none
 | [],k=>rfl
 | a::l,k=>by
  rw[List.mapIdx_cons,Qcz];unfold DZ;by_cases h:a=n
  ·subst h;rw[In rfl,In Y];simp
  ·rw[I (fun e=>h (Nt e))];simp only[h,decide_false];rw[<-Wh n l (k+1)];congr 3;funext i m;rw[show i+1+k=i+(k+1) by omega]
theorem kA (l:List ByteArray) (n:ByteArray):XX (GF l) n=if 0<=A6 l n then some (i5 (A6 l n)) else none:=Wh n l 0
theorem kz (l:List fF) (n:ByteArray):XX (F4 l) n=(l.find? fun s=>decide (bs s.name=bs n)).map fun s=> .agg #[i5 s.first,i5 s.size]:=by
 unfold XX F4;induction l with
 | nil=>rfl
 | cons a l ih=>
  rw[d8,Qcz,Qcz];simp only[ZI];by_cases h:a.name=n
  ·simp[h]
  ·simp only[h,decide_false];simp only[ZI] at ih;exact ih
theorem kC {l:List ByteArray} (h:W.heap[b]?=some (IM (GF l))) (n:ByteArray):(Instr.lookup 148 (.map (some b)) (.string n) true).run prog W= .ok (.tuple #[i5 (if 0<=A6 l n then A6 l n else 0),.bool (decide (0<=A6 l n))]) W:=by
 rw[N9 (k:=9) (e:=3) Fd Fd (z:= i5 0) Fd h n true,kA];by_cases hp:0<=A6 l n <;>simp[hp]
theorem Va {l:List fF} (h:W.heap[b]?=some (IM (F4 l))) (n:ByteArray):(Instr.lookup 147 (.map (some b)) (.string n) true).run prog W= .ok (.tuple #[((l.find? fun s=>decide (bs s.name=bs n)).map fun s=>Value.agg #[i5 s.first,i5 s.size]).getD (.agg #[i5 0,i5 0]),.bool (l.find? fun s=>decide (bs s.name=bs n)).isSome]) W:=by
 rw[N9 (k:=9) (e:=200) Fd Fd (z:= .agg #[i5 0,i5 0]) Fd h n true,kz];simp
theorem Wt {s:ByteArray} (h0:¬s.size=0):s.toList.isEmpty=false:=by
 cases h:s.toList with
 | nil=>rw[ByteArray.toList_eq] at h;exact UV ((Bw s).symm.trans (Qao List.length h)) h0
 | cons a l=>rfl
theorem AbB {l:List ByteArray} (h:W.heap[b]?=some (IM (GF l))) (ty:TypeId):(Builtin.len_ #[148] ty #[.map (some b)]).run prog W= .ok (i5 l.length) W:=by
 have hl:(GF l).length=l.length:=by simp[GF]
 unfold IM at h;have hu:prog.underlying 148=some (.map 9 3):=Fd
 simp[Builtin.len_,run_underlying hu,MapKept.run_getObj_map h,goInt,Result.andThen,Wi,hl]
theorem dN (l:List ByteArray) (n:ByteArray):GF (l++[n])=GF l++[(n,i5 (l.length:Int))]:=by simp[GF,List.mapIdx_append]
theorem Aa3 {l:List ByteArray} (h:W.heap[b]?=some (IM (GF l))) (n:ByteArray) (hp:¬0<=A6 l n):(Instr.mapUpdate 148 (.map (some b)) (.string n) (i5 l.length)).run prog W= .ok () {W with heap:=W.heap.setIfInBounds b (IM (GF (l++[n])))}:=by
 rw[dN];exact Le (k:=9) (e:=3) Fd Fd h n _ (by rw[kA,I hp])
def Xr (res:Except Int At) (Ae:Int) (w:World) (e:Ending) (w':World):Prop:=match res with
 | .error c=>F1 [] c Ae w e w'
 | .ok a=>e= .returned (.agg #[.bool a.AR,i5 a.v])/\Av [] w w'
theorem Ko (a:Wd) (w:World) (g:FG) (x:qr) (wv:Value) (Ae:Int) (h:Az w (g.Ar x wv Ae)):
  Calls prog 115 #[i6 g.xb,a.val] w (Xr (x.CO a) Ae w):=by
 obtain⟨hc,hf,AX,_,_,_,_,WK⟩:=GU h;obtain⟨nm,v⟩:=a;have Kk:(⟨nm,v⟩:Wd).val= .agg #[.string nm,i5 v]:=rfl;rw[Kk];clear Kk h;by_cases h0:nm.size=0
 ·have hr:x.CO ⟨nm,v⟩= .ok ⟨false,v⟩:=by unfold qr.CO;exact In h0
  have WH:nm=⟨#[]⟩:=ByteArray.ext (Array.eq_empty_of_size_eq_zero h0);have Hr:=hid hr;subst WH;clear hr h0;go_enter func115,ntmps115;go_wp2_with fail;refine bodyPost_ret (v:= .agg #[.bool false,i5 v]) (by simp[results,results115,go_sem]) rfl ?_;rw[Hr.out];exact⟨rfl,((Av.refl _ _).alloc _).alloc _⟩
 ·have WH:nm.toList.isEmpty=false:=Wt h0;have IU:∀W:World,W.heap[g.lb]?=some (IM (GF x.AA))->(Instr.lookup 148 (.map (some g.lb)) (.string nm) true).run prog W= .ok (.tuple #[i5 (if 0<=A6 x.AA nm then A6 x.AA nm else 0),.bool (decide (0<=A6 x.AA nm))]) W:=fun W h=>kC h nm
  have AF:x.CO ⟨nm,v⟩=if 0<=A6 x.AA nm then .ok ⟨true,A6 x.AA nm⟩ else .error 4:=by unfold qr.CO;exact I h0
  have AJ:=hid AF;have NH:=BA WK;clear AF h0;by_cases hp:0<=A6 x.AA nm
  ·have Hr:=hid (show x.CO ⟨nm,v⟩= .ok ⟨true,A6 x.AA nm⟩ by rw[AJ.out,In hp]);rw[In hp,Qa0 hp] at IU;clear hp AJ;obtain⟨k,hk⟩:∃k,k=A6 x.AA nm:=⟨_,rfl⟩;rw[<-hk] at IU Hr;clear hk;go_enter func115,ntmps115;go_upto_region 3 with fail
   refine Ap (l:=[(0,true),(1,true),(2,true),(3,true),(4,true),(5,true),(6,true),(7,true),(8,true),(9,true),(10,true),(11,false)]) (fun W=>W.cell? ⟨g.xb,4,none⟩=some (.map (some g.lb))/\W.heap[g.lb]?=some (IM (GF x.AA))/\W.cell? ⟨w.heap.size,0,none⟩=some (.string nm)) 11 ?_ ?_
   ·exact mb8
   repeat
    refine I0 (v:= ?_) rfl rfl rfl (fun W hW=> ?_) ?_;rotate_left
    ·obtain⟨s1,s2,s3⟩:=hW;have hl:=IU W s2;go_simp;rfl
    simp only[FQ]
   refine Ai rfl (fun K hK=> ?_);go_simp;refine hK _ _ (fun h=>UV rfl h) ?_;clear hK;simp only[BB];go_wp2_with fail;refine bodyPost_ret (v:= .agg #[.bool true,i5 k]) (by simp[results,results115,go_sem]) rfl ?_;rw[Hr.out];exact⟨rfl,(((Av.refl _ _).alloc _).alloc _).drew⟩
  ·have Hr:=hid (show x.CO ⟨nm,v⟩= .error 4 by rw[AJ.out,I hp]);rw[I hp,Qal hp] at IU;clear hp AJ;go_enter func115,ntmps115;go_upto_region 3 with fail
   refine Ap (l:=[(0,true),(1,true),(2,true),(3,true),(4,true),(5,true),(6,true),(7,true),(8,true),(9,true),(10,true),(11,false)]) (fun W=>W.cell? ⟨g.xb,4,none⟩=some (.map (some g.lb))/\W.heap[g.lb]?=some (IM (GF x.AA))/\W.cell? ⟨w.heap.size,0,none⟩=some (.string nm)) 11 ?_ ?_
   ·exact mb8
   repeat
    refine I0 (v:= ?_) rfl rfl rfl (fun W hW=> ?_) ?_;rotate_left
    ·obtain⟨s1,s2,s3⟩:=hW;have hl:=IU W s2;go_simp;rfl
    simp only[FQ]
   refine Ai rfl (fun K hK=> ?_);go_simp;refine hK _ _ (fun h=>UV rfl h) ?_;clear hK;simp only[BB];go_wp2_with fail;refine(AQ _ _ _).mono ?_;rintro e w1 ⟨⟨fb,rfl,hb⟩,hm⟩;go_wp2;rw[Hr.out];exact⟨rfl,⟨fb,rfl,hb⟩,((((Av.refl _ _).alloc _).alloc _).drew).Ad hm⟩
def jT (res:Except Int (Int×Int×At)) (Ae:Int) (w:World) (e:Ending) (w':World):Prop:=match res with
 | .error c=>F1 [] c Ae w e w'
 | .ok (f,z,a)=>e= .returned (.agg #[i5 f,i5 z,.bool a.AR,i5 a.v])/\Av [] w w'
theorem Jh (w:World) (o:Obj):(w.alloc o).heap.size=w.heap.size+1:=Qcg _
theorem eE {q:Obj} (h:w.heap[b]?=some o):((w.alloc p).alloc q).heap[b]?=some o:=(((Av.refl [] w).alloc p).alloc q).heap h EQ
theorem OD (h:w.heap[b]?=some o):(w.alloc p).heap[b]?=some o:=((Av.refl [] w).alloc p).heap h EQ
theorem Zr (n:ByteArray) (a:Wd) (w:World) (g:FG) (x:qr) (wv:Value) (Ae:Int) (h:Az w (g.Ar x wv Ae)):
  Calls prog 119 #[i6 g.xb,.string n,a.val] w (jT (x.cell n a) Ae w):=by
 obtain⟨hc,hf,AX,_,_,_,IT,WK⟩:=GU h;have H:=hid h;have IU:=Va (eE (p:= .cells #[.string a.name,i5 a.v] 230) (q:= .cells #[i5 0,i5 0,.bool false,i5 0] 241) IT) n;have Kk:a.val= .agg #[.string a.name,i5 a.v]:=rfl;have AF:x.cell n a=match x.As.find? (fun s=>decide (bs s.name=bs n)) with
  | none=> .error 4
  | some s=>match x.CO a with
   | .error c=> .error c
   | .ok a=> .ok (s.first,s.size,a):=rfl
 have AJ:=hid AF;have Ha:=hid (fun (W:World) (hm:Av [] w W)=>Ko a W g x wv Ae (h.Bf hm EQ));rw[Kk] at Ha⊢;have iR:g.xb < w.heap.size+1:=Y
 have Ab1:g.xb < w.heap.size+1+1:=Y
 clear Kk AF h IT WK;cases Tb:x.As.find? (fun s=>decide (bs s.name=bs n)) with
 | none=>
  rw[Tb] at IU AJ;have Hr:=hid (show x.cell n a= .error 4 from AJ.out);simp only[Qdj,Qcm,Qb1] at IU;clear Tb AJ;go_enter func119,ntmps119;go_wp2_with fail;refine(AQ _ _ _).mono ?_;rintro e w1 ⟨⟨fb,rfl,hb⟩,hm⟩;go_wp2;rw[Hr.out];exact⟨rfl,⟨fb,rfl,hb⟩,((((Av.refl _ _).alloc _).alloc _).alloc _).Ad hm⟩
 | some s=>
  rw[Tb] at IU AJ;have Hr:=hid (show x.cell n a=match x.CO a with | .error c=> .error c | .ok a=> .ok (s.first,s.size,a) from AJ.out);simp only[Qc0,Qbp,Qce] at IU;clear Tb AJ;go_enter func119,ntmps119;go_upto_region 4 with fail
  refine Ap (l:=[(0,true),(1,true),(2,true),(3,true),(4,true),(5,true),(6,false),(7,true),(8,false)]) (fun W=>W.cell? ⟨w.heap.size,0,none⟩=some (.string a.name)/\W.cell? ⟨w.heap.size,1,none⟩=some (i5 a.v)/\W.cell? ⟨w.heap.size+1+1,0,none⟩=some (i5 s.first)/\W.cell? ⟨w.heap.size+1+1,1,none⟩=some (i5 s.size)) 8 ?_ ?_
  ·exact⟨by go_simp,by go_simp,by go_simp,by go_simp⟩
  refine detE ?_;intro K hK;have WI:=hid (((((Av.refl [] w).alloc (.cells #[.string a.name,i5 a.v] 230)).alloc (.cells #[i5 0,i5 0,.bool false,i5 0] 241)).alloc (.cells #[i5 s.first,i5 s.size] 200)).drew);refine(Ha _ WI).mono ?_;intro e w1 he;unfold Xr at he;cases ha:x.CO a with
  | error c=>
   rw[ha] at he;obtain⟨⟨fb,rfl,hb⟩,hm⟩:=he;have Gz:=hid (show x.cell n a= .error c by rw[Hr.out,ha]);clear ha;rw[Gz.out];exact⟨rfl,⟨fb,rfl,hb⟩,WI.Ad hm⟩
  | ok b=>
   rw[ha] at he;obtain⟨rfl,hm⟩:=he;have Gz:=hid (show x.cell n a= .ok (s.first,s.size,b) by rw[Hr.out,ha]);have B1:BM w1 w.heap.size #[.string a.name,i5 a.v] 230:=((((BM.new w _ _).alloc _).alloc _).drew).Bf hm EQ;have B2:BM w1 (w.heap.size+1) #[i5 0,i5 0,.bool false,i5 0] 241:=by
    have:=BM.new (w.alloc (.cells #[.string a.name,i5 a.v] 230)) #[i5 0,i5 0,.bool false,i5 0] 241;rw[show(w.alloc (.cells #[.string a.name,i5 a.v] 230)).heap.size=w.heap.size+1 from Qcg _] at this;exact((this.alloc _).drew).Bf hm EQ
   have B3:BM w1 (w.heap.size+1+1) #[i5 s.first,i5 s.size] 200:=by
    have:=BM.new ((w.alloc (.cells #[.string a.name,i5 a.v] 230)).alloc (.cells #[i5 0,i5 0,.bool false,i5 0] 241)) #[i5 s.first,i5 s.size] 200;rw[show((w.alloc (.cells #[.string a.name,i5 a.v] 230)).alloc (.cells #[i5 0,i5 0,.bool false,i5 0] 241)).heap.size=w.heap.size+1+1 by rw[Jh,Jh]] at this;exact this.drew.Bf hm EQ
   refine hK _ w1 (fun _=>⟨B1.cell 0,B1.cell 1,B3.cell 0,B3.cell 1⟩) ?_;clear hK ha;have rc:=B2.cell;have rf:=B2.free;have rl:=B2.lt;clear B1 B2 B3;refine detE ?_;intro K hK;refine hK _ _ (fun h=>UV rfl h) ?_;clear hK;simp only[BB];go_wp2_with fail;refine bodyPost_ret (v:= .agg #[i5 s.first,i5 s.size,.bool b.AR,i5 b.v]) (by simp[results,results119,go_sem,rc,rf,rl]) rfl ?_;rw[Gz.out];exact⟨rfl,(((((WI.Ad hm).setCell (.inr (Qan _)) _).setCell (.inr (Qan _)) _).setCell (.inr (Qan _)) _).setCell (.inr (Qan _)) _)⟩
def jN (res:Except Int (Int×qr)) (g:FG) (x:qr) (wv:Value) (Ae:Int) (w:World) (e:Ending) (w':World):Prop:=match res with
 | .error c=>F1 [] c Ae w e w'
 | .ok (v,y)=>e= .returned (i5 v)/\Ak w (g.Ar x wv Ae) w' (g.Ar y wv Ae)
theorem WZ (n:ByteArray) (w:World) (g:FG) (x:qr) (wv:Value) (Ae:Int) (h:Az w (g.Ar x wv Ae)):
  Calls prog 116 #[i6 g.xb,.string n] w (jN (x.Dy n) g x wv Ae w):=by
 obtain⟨hc,hf,AX,_,_,_,IT,WK⟩:=GU h;have IU:=Va IT n;have AF:x.Dy n=if (x.As.find? fun s=>decide (bs s.name=bs n)).isSome then .error 4 else if 0<=A6 x.AA n then .ok (A6 x.AA n,x) else if x.AA.length=4 then .error 5 else .ok (x.AA.length,{x with AA:=x.AA++[n]}):=rfl
 have H:=hid h;have AJ:=hid AF;have Hlo:=hid WK;clear h AF WK IT;cases Tb:x.As.find? (fun s=>decide (bs s.name=bs n)) with
 | some s=>
  rw[Tb] at IU AJ;have Hr:=hid (show x.Dy n= .error 4 from AJ.out);simp only[Qc0,Qbp,Qce] at IU;clear Tb AJ;exact mba
 | none=>
  rw[Tb] at IU AJ;simp only[Qdj,Qcm,Qb1] at IU;have hlq:=kC (OD (p:= .cells #[i5 0,i5 0] 200) Hlo) n;by_cases hp:0<=A6 x.AA n
  ·have Hr:=hid (show x.Dy n= .ok (A6 x.AA n,x) by rw[AJ.out];exact In hp);rw[In hp,Qa0 hp] at hlq;clear hp AJ Tb;go_enter func116,ntmps116;go_wp2;go_ret;rw[Hr.out];exact⟨rfl,Ak.alloc H _⟩
  ·rw[I hp,Qal hp] at hlq;have Vg:=AbB (OD (p:= .cells #[i5 0,i5 0] 200) Hlo) 3;by_cases hl4:x.AA.length=4
   ·have Hr:=hid (show x.Dy n= .error 5 by rw[AJ.out];exact(I hp).trans (In hl4));clear AJ Tb hp;exact mba
   ·have Hr:=hid (show x.Dy n= .ok (x.AA.length,{x with AA:=x.AA++[n]}) by rw[AJ.out];exact(I hp).trans (I hl4));have hup:=Aa3 (OD (p:= .cells #[i5 0,i5 0] 200) Hlo) n hp;have AgQ:((x.AA.length:Int)==4)=false:=by rw[NE];omega
    clear AJ Tb hp hl4;go_enter func116,ntmps116;go_wp2_with fail;go_ret;rw[Hr.out];exact⟨rfl,(Ak.alloc H _).trans ((Ak.alloc H _).Am.rD (i:=4) rfl _)⟩
def qr.depth (x:qr):Nat:=x.Af.length
def wJ (res:Option Int) (Ae:Int) (w:World) (e:Ending) (w':World):Prop:=match res with
 | some c=>F1 [] c Ae w e w'
 | none=>e= .returned (.tuple #[])/\Av [] w w'
theorem o5 (w:World) (g:FG) (x:qr) (wv:Value) (Ae:Int) (h:Az w (g.Ar x wv Ae)) (hl:g.fr.length<=100):
  Calls prog 75 #[i6 g.xb] w (wJ (if 0 < g.fr.length then some 3 else none) Ae w):=by
 obtain⟨hc,hf,AX,_,_,_,IT,WK⟩:=GU h;clear h;by_cases h0:0 < g.fr.length
 ·have h1:(1:Int) < (g.fr.length:Int)+1:=Y
  rw[In h0];clear h0;go_enter func75,ntmps75;go_wp2_with fail;refine(AQ _ _ _).mono ?_;rintro e w1 ⟨⟨fb,rfl,hb⟩,hm⟩;go_wp2;exact mbg
 ·have h1:¬(1:Int) < (g.fr.length:Int)+1:=Y
  rw[I h0];clear h0;exact mcl
theorem jf (w:World) (g:FG) (x:qr) (wv:Value) (Ae:Int) (h:Az w (g.sA x wv Ae)):
  Calls prog 75 #[i6 g.xb] w (wJ none Ae w):=by
 obtain⟨hc,hf,AX,_,_,_,IT⟩:=W0 h;clear h;exact mcl
theorem gQ (g:FG):g.Dk.length=3*(g.fr.length+1):=by
 have:∀l:List Jk,(l.flatMap Jk.cells).length=3*l.length:=by
  intro l;induction l with
  | nil=>rfl
  | cons f l ih=>rw[Qas,V,ih];simp[Jk.cells];omega
 simp[FG.Dk,this];omega
theorem Aee (l:List Jk) (j:Nat) (f:Jk) (hj:l[j]?=some f) (i:Nat) (hi:i < 3):(l.flatMap Jk.cells)[3*j+i]?=f.cells[i]?:=by
 induction l generalizing j with
 | nil=>simp at hj
 | cons a l ih=>
  cases j with
  | zero=>
   simp only[Qbe,Option.some.injEq] at hj;subst hj;rw[Qas,m9 (by simp[Jk.cells];omega)];simp
  | succ j=>
   rw[Qas,Qag (by simp[Jk.cells];omega),show 3*(j+1)+i - a.cells.length=3*j+i by simp[Jk.cells];omega];exact ih j (by simpa using hj)
theorem SL (g:FG) (j:Nat) (f:Jk) (hj:g.fr[j]?=some f) (i:Nat) (hi:i < 3):g.Dk[3*(j+1)+i]?=f.cells[i]?:=by
 unfold FG.Dk;rw[Qag (by simp;omega),show 3*(j+1)+i - [Value.pointer (some ⟨g.tb,g.tv.length,none⟩),.nilFunc,.bool false].length=3*j+i by simp;omega];exact Aee g.fr j f hj i hi
def FG.Xc (g:FG) (k:Nat):Bool:=match k with
 | 0=>false
 | k+1=>((g.fr[k]?).map Jk.Au).getD false
theorem aF (g:FG) (k:Nat) (hk:k<=g.fr.length):∃p,g.Dk[k*3]?=some (.pointer p)/\(g.Dk[k*3+1]?=some .nilFunc\/∃f c,g.Dk[k*3+1]?=some (.func f #[] c))/\g.Dk[k*3+2]?=some (.bool (g.Xc k)):=by
 cases k with
 | zero=>exact⟨_,rfl,.inl rfl,rfl⟩
 | succ j=>
  have hj:g.fr[j]?=some g.fr[j]:=Id Y;have h:=SL g j _ hj;refine⟨_,(show g.Dk[(j+1)*3]?=_ from by rw[show(j+1)*3=3*(j+1)+0 by omega,h 0 Y];rfl),.inr ⟨_,_,(show g.Dk[(j+1)*3+1]?=_ from by rw[show(j+1)*3+1=3*(j+1)+1 by omega,h 1 Y];rfl)⟩,?_⟩;rw[show(j+1)*3+2=3*(j+1)+2 by omega,h 2 Y];simp[FG.Xc,hj,Jk.cells]
theorem lJ (g:FG):(g.fr.any Jk.Au=true<->∃k,k<=g.fr.length/\g.Xc k=true):=by
 rw[Qb9];constructor
 ·rintro⟨f,hf,hb⟩;obtain⟨j,hj,rfl⟩:=List.getElem_of_mem hf;exact⟨j+1,Y,by simp[FG.Xc,hj,hb]⟩
 ·rintro⟨k,hk,hb⟩;cases k with
  | zero=>cases hb
  | succ j=>
   have hj:g.fr[j]?=some g.fr[j]:=Id Y;exact⟨_,Qab (by omega:j < g.fr.length),by simpa[FG.Xc,hj] using hb⟩
theorem OJ (w:World) (g:FG) (x:qr) (wv:Value) (Ae:Int) (h:Az w (g.Ar x wv Ae)) (hl:g.fr.length<=100):
  Calls prog 129 #[i6 g.xb] w (AcG (g.fr.any Jk.Au) w):=by
 obtain⟨hc,hf,AX,_,_,_,IT,WK⟩:=GU h;obtain⟨tcl,tf,tl⟩:=Bm (h.row (i:=5) rfl);have Ht:=hid tcl;have KL:(0:Int)<=(g.fr.length:Int)+1:=Y
 clear h IT WK tf tcl;go_enter func129,ntmps129;go_wp2;go_loopw [10] (fun i wr=>∃k:Nat,i= i5 k/\k<=g.fr.length+1/\(∀j,j < k->g.Xc j=false)/\Av [] w wr) (fun i _=>g.fr.length+1 - (intOf i).toNat);case atStart=>exact⟨0,rfl,d6 _,fun j hj=>Y,Av.refl _ _⟩
 case round=>
  obtain⟨k,rfl,hk,Ie,hm⟩:=hrel;by_cases Jc:(k:Int) < (g.fr.length:Int)+1
  ·obtain⟨p,e0,e1,e2⟩:=aF g k Y;have cc:∀(i:Nat) (v:Value),g.Dk[i]?=some v->wr.cell? ⟨g.ob,i,none⟩=some v:=fun i v e=>by
    obtain⟨h1,h2⟩:=d9.1 e;have:=Ht.out i h1;rw[h2] at this;exact AU hm this
   have c0:=cc _ _ e0;have c2:=cc _ _ e2;have PG:(0:Int)<=(k:Int):=Y
   have Hm:=hid hm;have QT:=hid Ie;have inc:True->wrap64 ((k:Int)+1)=k+1:=fun _=>IntWalk.wrap64_in _ Y
   rcases e1 with e1 | ⟨fn,cap,e1⟩;all_goals (
     have c1:=cc _ _ e1;clear hm Ie cc e0 e1 e2 hc;cases hb:g.Xc k with
     | true=>
       rw[hb] at c2;have Hr:=hid (show g.fr.any Jk.Au=true from(lJ g).2 ⟨k,Y,hb⟩);clear hb;go_wp2;go_ret;rw[Hr.out];exact⟨rfl,Hm.alloc _⟩
     | false=>
       rw[hb] at c2;have Hb:=hid hb;clear hb;go_wp2;go_roundw;case rel=>exact⟨k+1,rfl,Y,fun j hj=>by rcases Nat.lt_succ_iff_lt_or_eq.1 hj with h1 | h1;exact QT.out j h1;exact h1▸Hb.out,Hm.alloc _⟩
       case measure=>simp[intOf];omega)
  ·have Hr:=hid (show g.fr.any Jk.Au=false by
      cases ha:g.fr.any Jk.Au with
      | false=>rfl
      | true=>obtain⟨j,h1,h2⟩:=(lJ g).1 ha;rw[Ie j Y] at h2;cases h2)
   have Hm:=hid hm;clear hm Ie hc;go_wp2;go_ret;rw[Hr.out];exact⟨rfl,Hm⟩
theorem oq:(prog.info? 208).map (fun i=>(i.zero,i.size,i.bytes))=some (some .nilIface,1,16):=Fd
theorem Zs (T:TypeId) (u:Value) (w:World) (L:List Ob) (xb ob n oc ab ao m sc k:Nat) (sp:Option Addr) (xs:List Value) (h:Az w L) (c5:w.cell? ⟨xb,5,none⟩=some (.slice (some ⟨ob,0,none⟩) (n+1) oc)) (hn:n<=100)
  (ee:w.cell? ⟨ob,n*3,none⟩=some (.pointer (some ⟨ab,ao,none⟩))) (hk:L[k]?=some (.row (.slice sp m sc) 208 1 m xs)) (hm:m<=1000) (hp:w.cell? ⟨ab,ao,none⟩=some (.slice sp m sc))
  (Ma:∀g9 JU w9,Ak w L w9 (L.set k (.row (.slice (some ⟨g9,0,none⟩) (m+1) JU) 208 1 (m+1) (xs++[.iface T u])))->w9.cell? ⟨ab,ao,none⟩=some (.slice sp m sc)/\w9.frozen? ⟨ab,ao,none⟩=false/\ab < w9.heap.size):
  Calls prog 100 #[i6 xb,.iface T u] w (fun e w'=>e= .returned (.tuple #[])/\∃g9 JU w9,Ak w L w9 (L.set k (.row (.slice (some ⟨g9,0,none⟩) (m+1) JU) 208 1 (m+1) (xs++[.iface T u])))/\w'=w9.setCell ⟨ab,ao,none⟩ (.slice (some ⟨g9,0,none⟩) (m+1) JU)):=by
 obtain⟨j0,hj,KW,Fo,K7⟩:=info_parts oq;have H:=hid h;have Hk:=hid hk;have AeA:=hid Ma;have Gu:(0:Int)<=(n:Int):=Y
 have K8:(n:Int) < (n:Int)+1:=Y
 have Pz:True->IntKind.i64.wrap (n:Int)=n:=fun _=>IntWalk.i64_in _ Y
 clear h hk Ma;go_enter func100,ntmps100;go_upto_region 0 with fail
 refine Ap (l:=[(0,true),(1,true),(2,true),(3,true),(4,true),(5,true),(6,true),(7,true),(8,true),(9,true),(10,true),(11,true),(12,true),(13,false)]) (fun W=>W.cell? ⟨xb,5,none⟩=some (.slice (some ⟨ob,0,none⟩) (n+1) oc)/\W.cell? ⟨ob,n*3,none⟩=some (.pointer (some ⟨ab,ao,none⟩))) 13 ⟨c5,ee⟩ ?_;refine detE ?_;intro K hK;refine hK _ _ (fun h=>UV rfl h) ?_;clear hK;simp only[BB];have S:=hid (Ak.drew H);have hlen:m+1<=maxLen:=by unfold maxLen;omega
 have Acf:(m+1)*16<=140737488355328:=Y
 clear Pz;go_wp2_with (first | (at_builtin;refine B6 16 _ _ _ j0 _ #[.iface T u] _ S.Am (k:=k) (v:= .slice sp m sc) (xs:=xs) (n:=m) (e:=208) (size:=1) Hk Do Do underlying165 hj KW Fo K7 rfl Nat.zero_lt_one Do Do rfl (by simp[Value.oneCell']) hlen Acf ?_;intro g6 AZ w6 AD _;obtain⟨q1,q2,q3⟩:=AeA.out g6 AZ w6 (S.trans AD);have qz:=hid (S.trans AD);clear AD) | fail)
 go_end0
 exact⟨rfl,g6,AZ,w6,qz,rfl⟩
structure Xq (g:FG):Prop where
 cs:g.cs.length<=1000
 us:∀f,f∈g.fr->f.us.length<=1000
 fr:g.fr.length<=100
def lN (y:qr) (F:List (Nat×Obj)) (g:FG) (x:qr) (wv:Value) (Ae:Int) (w:World) (e:Ending) (w':World):Prop:=
 e= .returned (.tuple #[])/\∃g',g'.xb=g.xb/\Ak w (g.Ar x wv Ae) w' (g'.Ar y wv Ae)/\Xp F g' y
def FG.LV (g:FG) (x:qr) (wv:Value) (Ae:Int):List Ob:=
 [.Au g.xb #[wv,i5 Ae,i6 g.pb,.map (some g.sb),.map (some g.lb),.slice (some ⟨g.ob,0,none⟩) (g.fr.length+1) g.oc,i5 x.Ah] 151,
  .Au g.pb #[.slice (some ⟨g.tb,0,none⟩) (g.tv.length+1) g.tc,i5 x.cells] 146,
  .SH g.sb (IM (F4 x.As)),
  .row (.slice (some ⟨g.tb,0,none⟩) (g.tv.length+1) g.tc) 165 1 (g.tv.length+1) (g.tv++[.slice g.c.p g.cs.length g.c.c]),
  .SH g.lb (IM (GF x.AA)),
  .row (.slice (some ⟨g.ob,0,none⟩) (g.fr.length+1) g.oc) 205 3 (g.fr.length+1) g.Dk,
  .row (.slice g.c.p g.cs.length g.c.c) 208 1 g.cs.length g.cs]
theorem LZ (g:FG) (x:qr) (wv:Value) (Ae:Int) {fs:List Jk} {f:Jk} (h:g.fr=fs++[f]):g.Ar x wv Ae=g.LV x wv Ae++(.Au f.bb #[.slice f.s.p f.us.length f.s.c] 165:: .row (.slice f.s.p f.us.length f.s.c) 208 1 f.us.length f.us::fs.reverse.flatMap Jk.Ar):=by
 show g.LV x wv Ae++g.fr.reverse.flatMap Jk.Ar=_;rw[h,List.reverse_append];rfl
theorem M5 (g:FG) (x:qr) (wv:Value) (Ae:Int) (h:g.fr=[]):g.Ar x wv Ae=g.LV x wv Ae:=by
 show g.LV x wv Ae++g.fr.reverse.flatMap Jk.Ar=_;rw[h];simp
theorem rC (l:List Value) (a b:Value):(l++[a]).set l.length b=l++[b]:=by
 rw[Qa9 _ _ (LE _)];simp
theorem OL (s:Bt->Bt) (T:TypeId) (u:Value) (w:World) (g:FG) (x:qr) (wv:Value) (Ae:Int) (F:List (Nat×Obj)) (h:Az w (g.Ar x wv Ae)) (hF:Xp F g x) (hs:Ef F (s .nil) [.iface T u]) (hb:Xq g):
  Calls prog 100 #[i6 g.xb,.iface T u] w (lN (x.add s) F g x wv Ae w):=by
 have hc:=(GU h).c 5;obtain⟨tcl,_,_⟩:=Bm (h.row (i:=5) rfl);obtain⟨⟨ts,t,oz,P1,ht⟩,UE⟩:=hF;rcases f5 g.fr with Ni | ⟨fs,f,Ni⟩
 ·have ho:x.Af=[]:=by rw[Ni] at UE;exact UE
  have e0:g.Dk[g.fr.length*3]?=some (.pointer (some ⟨g.tb,g.tv.length,none⟩)):=by rw[Ni];rfl
  obtain⟨e1,e2⟩:=d9.1 e0;have ee:=tcl _ e1;rw[e2] at ee;obtain⟨tcl3,_,_⟩:=Bm (h.row (i:=3) rfl);have hp:=tcl3 g.tv.length EQ;rw[show(g.tv++[Value.slice g.c.p g.cs.length g.c.c])[g.tv.length]'EQ= .slice g.c.p g.cs.length g.c.c by simp] at hp;refine(Zs T u w _ g.xb g.ob g.fr.length g.oc g.tb g.tv.length g.cs.length g.c.c 6 g.c.p g.cs h hc hb.fr ee rfl hb.cs hp ?_).mono ?_
  ·intro g9 JU w9 AD;obtain⟨c3,f3,l3⟩:=Bm (AD.Am.row (i:=3) rfl);have:=c3 g.tv.length EQ;rw[show(g.tv++[Value.slice g.c.p g.cs.length g.c.c])[g.tv.length]'EQ= .slice g.c.p g.cs.length g.c.c by simp] at this;exact⟨this,f3 _,l3⟩
  ·rintro e w' ⟨rfl,g9,JU,w9,AD,rfl⟩;have Aci:x.add s={x with Aa:=ts++[t.Fj (s .nil)]}:=by unfold qr.add;rw[ho,oz];simp
   have t1:=AD.Am.HU (i:=3) rfl g.tv.length EQ (.slice (some ⟨g9,0,none⟩) (g.cs.length+1) JU);rw[Aci];refine⟨rfl,{g with c:=⟨some ⟨g9,0,none⟩,JU⟩,cs:=g.cs++[.iface T u]},rfl,?_,⟨⟨ts,_,rfl,P1,ht.Fj hs⟩,UE⟩⟩;have t2:=AD.trans t1;rw[rC] at t2;rw[M5 g x wv Ae Ni] at t2⊢;rw[M5 {g with c:=⟨some ⟨g9,0,none⟩,JU⟩,cs:=g.cs++[.iface T u]} _ wv Ae Ni];have el:(g.cs++[Value.iface T u]).length=g.cs.length+1:=EQ
   unfold FG.LV at t2⊢;simp only[el];exact t2
 ·rw[m8] at Ni;rw[Ni] at UE;obtain⟨r,o,Kj,hr,hfo⟩:=UE.CM;have hj:g.fr[fs.length]?=some f:=by rw[Ni];simp
  have uG:g.fr.length=fs.length+1:=by rw[Ni];simp
  have e0:g.Dk[g.fr.length*3]?=some (i6 f.bb):=by
   rw[show g.fr.length*3=3*(fs.length+1)+0 by omega,SL g fs.length f hj 0 Y];rfl
  obtain⟨e1,e2⟩:=d9.1 e0;have ee:=tcl _ e1;rw[e2] at ee;have h':=h;rw[LZ g x wv Ae Ni] at h';have hp:=(h'.Au (i:=7) rfl).cell 0;refine(Zs T u w _ g.xb g.ob g.fr.length g.oc f.bb 0 f.us.length f.s.c 8 f.s.p f.us h' hc hb.fr ee rfl (hb.us f (by rw[Ni];simp)) hp ?_).mono ?_
  ·intro g9 JU w9 AD;have hq:=AD.Am.Au (i:=7) rfl;exact⟨hq.cell 0,hq.free 0,hq.lt⟩
  ·rintro e w' ⟨rfl,g9,JU,w9,AD,rfl⟩;have Aci:x.add s={x with Af:=r++[{o with body:=o.body.Fj (s .nil)}]}:=by unfold qr.add;rw[Kj];simp
   have t1:=AD.Am.set (i:=7) rfl 0 (.slice (some ⟨g9,0,none⟩) (f.us.length+1) JU);rw[Aci];refine⟨rfl,{g with fr:=fs++[{f with s:=⟨some ⟨g9,0,none⟩,JU⟩,us:=f.us++[.iface T u]}]},rfl,?_,⟨⟨ts,t,oz,P1,ht⟩,hr.x6 ⟨hfo.st.Fj hs,hfo.Au,hfo.cl⟩⟩⟩;have t2:=AD.trans t1;have el:(f.us++[Value.iface T u]).length=f.us.length+1:=EQ
   have eo:FG.Dk {g with fr:=fs++[{f with s:=⟨some ⟨g9,0,none⟩,JU⟩,us:=f.us++[.iface T u]}]}=g.Dk:=by
    unfold FG.Dk;rw[Ni,Qba,Qba];rfl
   have en:(fs++[({f with s:=⟨some ⟨g9,0,none⟩,JU⟩,us:=f.us++[.iface T u]}:Jk)]).length=g.fr.length:=by rw[Ni];simp
   have es:FG.LV {g with fr:=fs++[{f with s:=⟨some ⟨g9,0,none⟩,JU⟩,us:=f.us++[.iface T u]}]} {x with Af:=r++[{o with body:=o.body.Fj (s .nil)}]} wv Ae=g.LV x wv Ae:=by
    unfold FG.LV;simp only[eo,en]
   rw[LZ {g with fr:=fs++[{f with s:=⟨some ⟨g9,0,none⟩,JU⟩,us:=f.us++[.iface T u]}]} _ wv Ae rfl,es];simp only[el];rw[LZ g x wv Ae Ni];exact t2
theorem Az.SM (h:Az w (A++B)) (e:TypeId) (s:Nat):Az w (A++ .row (.slice none 0 0) e s 0 []::B):=by
 refine⟨fun o ho=> ?_,?_⟩
 ·rcases Nm.1 ho with h1 | h1
  ·exact h.holds o (D _ h1)
  ·rcases Pi.1 h1 with rfl | h2
   ·exact Da _ _ _ _
   ·exact h.holds o (GT _ h2)
 ·have:=h.KE;rw[A4] at this⊢;exact this
theorem Ak.SM (h:Az w (A++B)) (e:TypeId) (s:Nat):Ak w (A++B) w (A++ .row (.slice none 0 0) e s 0 []::B):=
 ⟨h.SM e s,Av.refl _ _,fun b hb=> .inl (by rw[A4] at hb⊢;exact hb)⟩
theorem ng {S R:List Ob} (h:Ak w L w' ((S++R)++[.Au b #[.slice none 0 0] 165])):Ak w L w' (S++(.Au b #[.slice none 0 0] 165:: .row (.slice none 0 0) 208 1 0 []::R)):=by
 have p:((S++R)++[Ob.Au b #[.slice none 0 0] 165]).Perm ((S++[Ob.Au b #[.slice none 0 0] 165])++R):=by
  rw[PP,PP];exact Qbr S Qb0
 have t3:=h.trans (Ak.Ux h.Am p);have t4:=t3.trans (Ak.SM t3.Am 208 1);rw[PP] at t4;exact t4
theorem ot:(prog.info? 205).map (fun i=>(i.zero,i.size,i.bytes))=some (some (.agg #[.pointer none,.nilFunc,.bool false]),3,24):=Fd
theorem du (g:FG) (f:Jk) (ob oc:Nat):FG.Dk {g with ob:=ob,oc:=oc,fr:=g.fr++[f]}=g.Dk++f.cells:=by
 unfold FG.Dk;simp
theorem QL (kd:JJ) (fn:Fn) (cap:Array Value) (w:World) (g:FG) (x:qr) (wv:Value) (Ae:Int) (F:List (Nat×Obj)) (h:Az w (g.Ar x wv Ae)) (hF:Xp F g x) (hc:Pt F kd fn cap) (hb:Xq g):
  Calls prog 123 #[i6 g.xb,.bool kd.CD,.func fn #[] cap] w (lN (x.D5 kd) F g x wv Ae w):=by
 obtain⟨j0,hj,KW,Fo,K7⟩:=info_parts ot;have hcx:=(GU h).c 5;have AX:=(GU h).lt;have hn:=hb.fr;have S:=hid (Ak.new h (.cells #[.slice none 0 0] 165));have H:=hid h;have HF:=hid hF;have Hc:=hid hc;have hlen:g.fr.length+1+1<=maxLen:=by unfold maxLen;omega
 have Acf:(g.fr.length+1+1)*24<=140737488355328:=Y
 obtain⟨bk,Zi⟩:∃b,b=kd.CD:=⟨_,rfl⟩;rw[<-Zi];have Hbk:=hid Zi;clear h hF hc hb hn Zi;go_enter func123,ntmps123;go_wp2_with (first | (at_builtin;refine Jb 24 _ _ _ j0 _ #[i6 w.heap.size,.func fn #[] cap,.bool bk] _ (w.heap.size+1) (Jh _ _) S.Am (k:=5) (v:= .slice (some ⟨g.ob,0,none⟩) (g.fr.length+1) g.oc) (xs:=g.Dk) (n:=g.fr.length+1) (e:=205) (size:=3) rfl Do Do underlying149 hj KW Fo K7 rfl AC Do Do rfl (by simp[Value.oneCell']) hlen Acf ?_;intro g6 AZ w6 AD _;have q1:=(AD.Am.Au (i:=0) rfl).cell;have q2:=(AD.Am.Au (i:=0) rfl).free;have q3:=(AD.Am.Au (i:=0) rfl).lt;have qz:=hid (S.trans AD);clear AD) | fail)
 go_end0
 refine⟨rfl,{g with ob:=g6,oc:=AZ,fr:=g.fr++[⟨w.heap.size,⟨none,0⟩,fn,cap,bk,[]⟩]},rfl,?_,?_⟩
 ·have t1:=qz.trans (qz.Am.set (i:=0) rfl 5 (.slice (some ⟨g6,0,none⟩) (g.fr.length+1+1) AZ));rw[LZ {g with ob:=g6,oc:=AZ,fr:=g.fr++[⟨w.heap.size,⟨none,0⟩,fn,cap,bk,[]⟩]} _ wv Ae rfl];have es:FG.LV {g with ob:=g6,oc:=AZ,fr:=g.fr++[⟨w.heap.size,⟨none,0⟩,fn,cap,bk,[]⟩]} (x.D5 kd) wv Ae=((g.LV x wv Ae).set 5 (.row (.slice (some ⟨g6,0,none⟩) (g.fr.length+1+1) AZ) 205 3 (g.fr.length+1+1) (g.Dk++(#[i6 w.heap.size,.func fn #[] cap,.bool bk]:Array Value).toList))).set 0 (.Au g.xb #[wv,i5 Ae,i6 g.pb,.map (some g.sb),.map (some g.lb),.slice (some ⟨g6,0,none⟩) (g.fr.length+1+1) AZ,i5 x.Ah] 151):=by
   have en:(g.fr++[(⟨w.heap.size,⟨none,0⟩,fn,cap,bk,[]⟩:Jk)]).length=g.fr.length+1:=EQ
   unfold FG.LV;rw[du];simp only[en];rfl
  rw[es];have t2:Ak w (g.Ar x wv Ae) _ (((((g.LV x wv Ae).set 5 (.row (.slice (some ⟨g6,0,none⟩) (g.fr.length+1+1) AZ) 205 3 (g.fr.length+1+1) (g.Dk++(#[i6 w.heap.size,.func fn #[] cap,.bool bk]:Array Value).toList))).set 0 (.Au g.xb #[wv,i5 Ae,i6 g.pb,.map (some g.sb),.map (some g.lb),.slice (some ⟨g6,0,none⟩) (g.fr.length+1+1) AZ,i5 x.Ah] 151))++g.fr.reverse.flatMap Jk.Ar)++[.Au w.heap.size #[.slice none 0 0] 165]):=t1;exact ng t2
 ·obtain⟨h1,h2⟩:=HF.out;exact⟨h1,h2.x6 ⟨rfl,Hbk,Hc⟩⟩
structure PQ (F:List (Nat×Obj)) (g:FG) (x:qr) (wv:Value) (Ae:Int) (w:World):Prop where
 Am:Az w (g.Ar x wv Ae)
 AN:A5 w (g.Ar x wv Ae) F
 FB:Xp F g x
theorem PQ.quiet (h:PQ F g x wv Ae w) (k:Av [] w w'):PQ F g x wv Ae w':=⟨h.Am.quiet k,h.AN.quiet k,h.FB⟩
theorem PQ.new (h:PQ F g x wv Ae w) (o:Obj):PQ ((w.heap.size,o)::F) g x wv Ae (w.alloc o):=
 ⟨(Ak.alloc h.Am o).Am,h.AN.new h.Am o,h.FB.sub fun _ hb=>U _ hb⟩
def cd (F F':List (Nat×Obj)):Prop:=∀y,y∈F->y∈F'
def OX (res:Except Int qr) (F:List (Nat×Obj)) (g:FG) (x:qr) (wv:Value) (Ae:Int) (w:World) (e:Ending) (w':World):Prop:=match res with
 | .error c=>F1 [] c Ae w e w'
 | .ok y=>e= .returned (.tuple #[])/\∃g' F',g'.xb=g.xb/\cd F F'/\Ak w (g.Ar x wv Ae) w' (g'.Ar y wv Ae)/\PQ F' g' y wv Ae w'
theorem OK (h:lN y F g x wv Ae w e w') (S:PQ F g x wv Ae w) (hm:Av [] w0 w) (h0:Az w0 (g.Ar x wv Ae)) (hF:cd F0 F):OX (.ok y) F0 g x wv Ae w0 e w':=by
 obtain⟨rfl,g',hx,st,hf⟩:=h;exact⟨rfl,g',F,hx,hF,(Ak.quiet h0 hm).trans st,⟨st.Am,S.AN.step st,hf⟩⟩
theorem vm (a:Wd) (w:World) (g:FG) (x:qr) (wv:Value) (Ae:Int) (F:List (Nat×Obj)) (h:PQ F g x wv Ae w) (hb:Xq g) (bx ba:Nat)
  (hx:(bx,Obj.cells #[i6 g.xb] 143 (0,0))∈F) (ha:(ba,Obj.cells #[.string a.name,i5 a.v] 230 (0,0))∈F):
  Calls prog 121 #[i6 bx,i6 ba] w (OX (x.finish (.out a)) F g x wv Ae w):=by
 have cx:=h.AN.cell hx 0;have ca0:=h.AN.cell ha 0;have ca1:=h.AN.cell ha 1;have H:=hid h;have Hb:=hid hb;have HX:=hid hx;have HA:=hid ha;have AF:x.finish (.out a)=match x.CO a with | .error c=> .error c | .ok a=> .ok (x.add (.out a)):=rfl
 have AJ:=hid AF;clear h hb hx ha AF;go_enter func121,ntmps121;go_upto_region 0 with fail
 refine Ap (l:=[(0,true),(1,true),(2,true),(3,false),(4,true),(5,false),(6,true),(7,false)]) (fun W=>W.cell? ⟨bx,0,none⟩=some (i6 g.xb)/\W.cell? ⟨ba,0,none⟩=some (.string a.name)/\W.cell? ⟨ba,1,none⟩=some (i5 a.v)) 7 ⟨cx,ca0,ca1⟩ ?_;refine detE ?_;intro K hK;have S:=H.quiet (Av.refl [] w).drew;refine(Ko a _ g x wv Ae S.Am).mono ?_;intro e w1 he;unfold Xr at he;cases FA:x.CO a with
 | error c=>
  rw[FA] at he;obtain⟨⟨fb,rfl,hb⟩,hm⟩:=he;rw[AJ.out,FA];exact mbV
 | ok b=>
  rw[FA] at he;obtain⟨rfl,hm⟩:=he;have S1:=S.quiet hm;have Hr:=hid (show x.finish (.out a)= .ok (x.add (.out b)) by rw[AJ.out,FA]);clear FA;refine hK _ w1 (fun _=>⟨S1.AN.cell HX 0,S1.AN.cell HA 0,S1.AN.cell HA 1⟩) ?_;clear hK;refine detE ?_;intro K hK;have S2:=S1.new (.cells #[.bool b.AR,i5 b.v] 251);refine hK _ _ (fun _=>⟨S2.AN.cell (U _ HX) 0,S2.AN.cell (U _ HA) 0,S2.AN.cell (U _ HA) 1⟩) ?_;clear hK;refine detE ?_;intro K hK;refine(OL (.out b) _ _ _ g x wv Ae _ S2.Am S2.FB ⟨_,[],rfl,J ..,rfl⟩ Hb).mono ?_;intro e w3 he;have hf:=hid (OK he S2 ((((Av.refl [] w).drew).Ad hm).alloc _) H.Am (fun y hy=>U _ hy));exact maU
theorem vk (n:ByteArray) (a i:Wd) (w:World) (g:FG) (x:qr) (wv:Value) (Ae:Int) (F:List (Nat×Obj)) (h:PQ F g x wv Ae w) (hb:Xq g) (bx bn bi ba:Nat)
  (JK:(bx,Obj.cells #[i6 g.xb] 143 (0,0))∈F) (bD:(bn,Obj.cells #[.string n] 9 (0,0))∈F) (Km:(bi,Obj.cells #[.string i.name,i5 i.v] 230 (0,0))∈F) (Uj:(ba,Obj.cells #[.string a.name,i5 a.v] 230 (0,0))∈F):
  Calls prog 120 #[i6 bx,i6 bn,i6 bi,i6 ba] w (OX (x.finish (.put n a i)) F g x wv Ae w):=by
 have AF:x.finish (.put n a i)=match x.cell n i with
  | .error c=> .error c
  | .ok (f,z,i)=>match x.CO a with
   | .error c=> .error c
   | .ok a=> .ok (x.add (.put f z i a)):=rfl
 have H:=hid h;have Hb:=hid hb;have AJ:=hid AF;have HX:=hid JK;have HN:=hid bD;have HI:=hid Km;have HA:=hid Uj;clear JK bD Km Uj;clear h hb AF;go_enter func120,ntmps120;go_upto_region 0 with fail
 have S:=H.quiet (Av.refl [] w).drew;refine Ap (l:=[(0,true),(1,true),(2,true),(3,true),(5,true),(6,true),(4,false),(7,false),(8,true),(9,false),(10,true),(11,false)]) (fun W=>W.cell? ⟨bx,0,none⟩=some (i6 g.xb)/\W.cell? ⟨bn,0,none⟩=some (.string n)/\W.cell? ⟨bi,0,none⟩=some (.string i.name)/\W.cell? ⟨bi,1,none⟩=some (i5 i.v)/\W.cell? ⟨ba,0,none⟩=some (.string a.name)/\W.cell? ⟨ba,1,none⟩=some (i5 a.v)) 11 ⟨S.AN.cell HX 0,S.AN.cell HN 0,S.AN.cell HI 0,S.AN.cell HI 1,S.AN.cell HA 0,S.AN.cell HA 1⟩ ?_;refine detE ?_;intro K hK;refine(Zr n i _ g x wv Ae S.Am).mono ?_;intro e w1 he;unfold jT at he;cases hc:x.cell n i with
 | error c=>
  rw[hc] at he;obtain⟨⟨fb,rfl,hb⟩,hm⟩:=he;rw[AJ.out,hc];exact mbV
 | ok p=>
  obtain⟨f,z,j⟩:=p;rw[hc] at he;obtain⟨rfl,CS⟩:=he;have S1:=S.quiet CS;refine hK _ w1 (fun _=>⟨S1.AN.cell HX 0,S1.AN.cell HN 0,S1.AN.cell HI 0,S1.AN.cell HI 1,S1.AN.cell HA 0,S1.AN.cell HA 1⟩) ?_;clear hK;refine detE ?_;intro K hK;refine(Ko a _ g x wv Ae S1.Am).mono ?_;intro e w2 he;unfold Xr at he;cases FA:x.CO a with
  | error c=>
   rw[FA] at he;obtain⟨⟨fb,rfl,hb⟩,hm⟩:=he;rw[AJ.out,hc];simp only[];rw[FA];exact⟨rfl,⟨fb,rfl,hb⟩,(((Av.refl [] w).drew).Ad CS).Ad hm⟩
  | ok b=>
   rw[FA] at he;obtain⟨rfl,C4⟩:=he;have S2:=S1.quiet C4;have Hr:=hid (show x.finish (.put n a i)= .ok (x.add (.put f z j b)) by rw[AJ.out,hc];simp only[];rw[FA]);have HM:=hid ((((Av.refl [] w).drew).Ad CS).Ad C4);clear FA hc;refine hK _ w2 (fun _=>⟨S2.AN.cell HX 0,S2.AN.cell HN 0,S2.AN.cell HI 0,S2.AN.cell HI 1,S2.AN.cell HA 0,S2.AN.cell HA 1⟩) ?_;clear hK;refine detE ?_;intro K hK;have S3:=S2.new (.cells #[i5 f,i5 z,.bool j.AR,i5 j.v,.bool b.AR,i5 b.v] 248);refine hK _ _ (fun _=>⟨S3.AN.cell (U _ HX) 0,S3.AN.cell (U _ HN) 0,S3.AN.cell (U _ HI) 0,S3.AN.cell (U _ HI) 1,S3.AN.cell (U _ HA) 0,S3.AN.cell (U _ HA) 1⟩) ?_;clear hK;refine detE ?_;intro K hK;refine(OL (.put f z j b) _ _ _ g x wv Ae _ S3.Am S3.FB ⟨_,[],rfl,J ..,rfl⟩ Hb).mono ?_;intro e w3 he;have hf:=hid (OK he S3 (HM.alloc _) H.Am (fun y hy=>U _ hy));exact maU
theorem QD {v:Int} (h:x.Dy n= .ok (v,y)):y.Aa=x.Aa/\y.Af=x.Af:=by
 exact mbx
theorem Xp.cast (h:Xp F g x) (e:y.Aa=x.Aa/\y.Af=x.Af):Xp F g y:=by
 obtain⟨h1,h2⟩:=h;exact⟨by rw[e.1];exact h1,by rw[e.2];exact h2⟩
theorem Zq {z:qr} (h:lN z F g y wv Ae w e w') (S:PQ F g y wv Ae w) (h0:Ak w0 (g.Ar x wv Ae) w (g.Ar y wv Ae)) (hF:cd F0 F):OX (.ok z) F0 g x wv Ae w0 e w':=by
 obtain⟨rfl,g',hx,st,hf⟩:=h;exact⟨rfl,g',F,hx,hF,h0.trans st,⟨st.Am,S.AN.step st,hf⟩⟩
theorem vu (n s:ByteArray) (i:Wd) (w:World) (g:FG) (x:qr) (wv:Value) (Ae:Int) (F:List (Nat×Obj)) (h:PQ F g x wv Ae w) (hb:Xq g) (bx bs_ bi bn:Nat)
  (JK:(bx,Obj.cells #[i6 g.xb] 143 (0,0))∈F) (Ad7:(bs_,Obj.cells #[.string s] 9 (0,0))∈F) (Km:(bi,Obj.cells #[.string i.name,i5 i.v] 230 (0,0))∈F) (bD:(bn,Obj.cells #[.string n] 9 (0,0))∈F):
  Calls prog 118 #[i6 bx,i6 bs_,i6 bi,i6 bn] w (OX (x.finish (.get n s i)) F g x wv Ae w):=by
 have AF:x.finish (.get n s i)=match x.cell s i with
  | .error c=> .error c
  | .ok (f,z,i)=>match x.Dy n with
   | .error c=> .error c
   | .ok (v,y)=> .ok (y.add (.get v f z i)):=rfl
 have c1:=h.AN.cell JK 0;have c2:=h.AN.cell Ad7 0;have c3:=h.AN.cell Km 0;have c4:=h.AN.cell Km 1;have H:=hid h;have Hb:=hid hb;have AJ:=hid AF;have HX:=hid JK;have HN:=hid bD;clear h hb AF JK Ad7 Km bD;go_enter func118,ntmps118;go_wp2_with fail;refine(Zr s i _ g x wv Ae H.Am).mono ?_;intro e w1 he;clear c1 c2 c3 c4;unfold jT at he;cases hc:x.cell s i with
 | error c=>
  rw[hc] at he;obtain⟨⟨fb,rfl,hb⟩,hm⟩:=he;have Hr:=hid (show x.finish (.get n s i)= .error c by rw[AJ.out,hc]);clear hc;go_wp2;rw[Hr.out];exact mbg
 | ok p=>
  obtain⟨f,z,j⟩:=p;rw[hc] at he;obtain⟨rfl,CS⟩:=he;have Hc:=hid hc;have pU:=hid CS;clear hc;have S1:=hid ((H.quiet CS).new (.cells #[i5 f,i5 z,.bool j.AR,i5 j.v] 241));clear CS;go_upto_region 1 with fail
  have S:=S1.quiet (Av.refl [] _).drew;refine Ap (l:=[(0,true),(1,true),(2,true),(4,true),(3,false),(5,true),(6,false),(7,true),(8,false)]) (fun W=>W.cell? ⟨bx,0,none⟩=some (i6 g.xb)/\W.cell? ⟨bn,0,none⟩=some (.string n)/\W.cell? ⟨w1.heap.size,0,none⟩=some (i5 f)/\W.cell? ⟨w1.heap.size,1,none⟩=some (i5 z)/\W.cell? ⟨w1.heap.size,2,none⟩=some (.bool j.AR)/\W.cell? ⟨w1.heap.size,3,none⟩=some (i5 j.v)) 8 ⟨S.AN.cell (U _ HX) 0,S.AN.cell (U _ HN) 0,S.AN.cell (J ..) 0,S.AN.cell (J ..) 1,S.AN.cell (J ..) 2,S.AN.cell (J ..) 3⟩ ?_;refine detE ?_;intro K hK;refine(WZ n _ g x wv Ae S.Am).mono ?_;intro e w2 he;unfold jN at he;cases hl:x.Dy n with
  | error c=>
   rw[hl] at he;obtain⟨⟨fb,rfl,hb⟩,hm⟩:=he;have Hr:=hid (show x.finish (.get n s i)= .error c by rw[AJ.out,Hc.out];simp only[];rw[hl]);rw[Hr.out];exact⟨rfl,⟨fb,rfl,hb⟩,((pU.alloc _).drew).Ad hm⟩
  | ok p=>
   obtain⟨v,y⟩:=p;rw[hl] at he;obtain⟨rfl,st⟩:=he;have Hr:=hid (show x.finish (.get n s i)= .ok (y.add (.get v f z j)) by rw[AJ.out,Hc.out];simp only[];rw[hl]);have S2:PQ _ g y wv Ae w2:=⟨st.Am,S.AN.step st,S.FB.cast (QD hl)⟩;have AD:=(Ak.quiet H.Am ((pU.alloc _).drew)).trans st;clear hl;refine hK _ w2 (fun _=>⟨S2.AN.cell (U _ HX) 0,S2.AN.cell (U _ HN) 0,S2.AN.cell (J ..) 0,S2.AN.cell (J ..) 1,S2.AN.cell (J ..) 2,S2.AN.cell (J ..) 3⟩) ?_;clear hK;refine detE ?_;intro K hK;have S3:=S2.new (.cells #[i5 v,i5 f,i5 z,.bool j.AR,i5 j.v] 245);refine hK _ _ (fun _=>⟨S3.AN.cell (U _ (U _ HX)) 0,S3.AN.cell (U _ (U _ HN)) 0,S3.AN.cell (U _ (J ..)) 0,S3.AN.cell (U _ (J ..)) 1,S3.AN.cell (U _ (J ..)) 2,S3.AN.cell (U _ (J ..)) 3⟩) ?_;clear hK;refine detE ?_;intro K hK;refine(OL (.get v f z j) _ _ _ g y wv Ae _ S3.Am S3.FB ⟨_,[],rfl,J ..,rfl⟩ Hb).mono ?_;intro e w3 he;have hf:=hid (Zq he S3 (AD.trans (Ak.alloc st.Am _)) (fun y hy=>U _ (U _ hy)));exact maU
theorem PQ.Abf (h:PQ ((b,.cells c T (0,0))::F) g x wv Ae w) (hf:Xp F g x) (Bi:∀q,q∈F->q.1≠b) (i:Nat) (v:Value):
  PQ ((b,.cells (c.setIfInBounds i v) T (0,0))::F) g x wv Ae (w.setCell ⟨b,i,none⟩ v):=by
 have hb:=h.AN.out b _ (J ..);have hm:Av [b] w (w.setCell ⟨b,i,none⟩ v):=(Av.refl [b] w).setCell (.inl EQ) v;refine⟨h.Am.Bf hm (fun x hx hm=>by rw[Z] at hm;exact hb (hm▸hx)),⟨fun b' o hq=> ?_,fun b' o hq=> ?_⟩,hf.sub fun _ hy=>U _ hy⟩
 ·rcases Pi.1 hq with hq | hq
  ·cases hq;exact BM.set (c:=c) (T:=T) (h.AN.heap _ _ (J ..)) i v
  ·exact hm.heap (h.AN.heap _ _ (U _ hq)) (by rw[Z];exact Bi _ hq)
 ·rcases Pi.1 hq with hq | hq
  ·cases hq;exact hb
  ·exact h.AN.out _ _ (U _ hq)
theorem PQ.x9 (h:PQ ((b,.cells c T (0,0))::F) g x wv Ae w) (st:Ak w0 L w (g.Ar x wv Ae)) (hb:w0.heap.size<=b) (i:Nat) (v:Value):
  Ak w0 L (w.setCell ⟨b,i,none⟩ v) (g.Ar x wv Ae):=by
 have zv:=h.AN.out b _ (J ..);have hm:Av [b] w (w.setCell ⟨b,i,none⟩ v):=(Av.refl [b] w).setCell (.inl EQ) v;exact⟨st.Am.Bf hm (fun x hx hm=>by rw[Z] at hm;exact zv (hm▸hx)),st.Bf.trans hm (fun x hx=>by rw[Z] at hx;exact .inr (hx▸hb)),st.fp⟩
theorem eK (n op:ByteArray) (a c:Wd) (w:World) (g:FG) (x:qr) (wv:Value) (Ae:Int) (F:List (Nat×Obj)) (h:PQ F g x wv Ae w) (hb:Xq g) (bo bx ba bc bn:Nat)
  (hbo:(bo,Obj.cells #[.string op] 9 (0,0))∈F) (JK:(bx,Obj.cells #[i6 g.xb] 143 (0,0))∈F) (Uj:(ba,Obj.cells #[.string a.name,i5 a.v] 230 (0,0))∈F) (St:(bc,Obj.cells #[.string c.name,i5 c.v] 230 (0,0))∈F) (bD:(bn,Obj.cells #[.string n] 9 (0,0))∈F):
  Calls prog 114 #[i6 bo,i6 bx,i6 ba,i6 bc,i6 bn] w (OX (x.finish (.set n a op c)) F g x wv Ae w):=by
 have AF:x.finish (.set n a op c)=match x.CO a with
  | .error c=> .error c
  | .ok a=>match x.CO c with
   | .error c=> .error c
   | .ok b=>match x.Dy n with
    | .error c=> .error c
    | .ok (v,y)=> .ok (y.add (.set v op a b)):=rfl
 have H:=hid h;have Hb:=hid hb;have AJ:=hid AF;have HO:=hid hbo;have HX:=hid JK;have HA:=hid Uj;have HC:=hid St;have HN:=hid bD;clear hbo JK Uj St bD;clear h hb AF;go_enter func114,ntmps114;go_upto_region 0 with fail
 have S:=H.quiet (Av.refl [] w).drew;refine Ap (l:=[(0,true),(1,true),(2,true),(4,true),(5,true),(3,false),(6,false),(7,true),(8,false),(9,false)]) (fun W=>W.cell? ⟨bo,0,none⟩=some (.string op)/\W.cell? ⟨bx,0,none⟩=some (i6 g.xb)/\W.cell? ⟨ba,0,none⟩=some (.string a.name)/\W.cell? ⟨ba,1,none⟩=some (i5 a.v)/\W.cell? ⟨bc,0,none⟩=some (.string c.name)/\W.cell? ⟨bc,1,none⟩=some (i5 c.v)/\W.cell? ⟨bn,0,none⟩=some (.string n)) 9 ⟨S.AN.cell HO 0,S.AN.cell HX 0,S.AN.cell HA 0,S.AN.cell HA 1,S.AN.cell HC 0,S.AN.cell HC 1,S.AN.cell HN 0⟩ ?_;refine detE ?_;intro K hK;refine(Ko a _ g x wv Ae S.Am).mono ?_;intro e w1 he;unfold Xr at he;cases h1:x.CO a with
 | error c1=>
  rw[h1] at he;obtain⟨⟨fb,rfl,hb⟩,hm⟩:=he;rw[AJ.out,h1];exact mbV
 | ok p=>
  rw[h1] at he;obtain⟨rfl,CS⟩:=he;have S1:=S.quiet CS;refine hK _ w1 (fun _=>⟨S1.AN.cell HO 0,S1.AN.cell HX 0,S1.AN.cell HA 0,S1.AN.cell HA 1,S1.AN.cell HC 0,S1.AN.cell HC 1,S1.AN.cell HN 0⟩) ?_;clear hK;refine detE ?_;intro K hK;refine(Ko c _ g x wv Ae S1.Am).mono ?_;intro e w2 he;unfold Xr at he;cases h2:x.CO c with
  | error c1=>
   rw[h2] at he;obtain⟨⟨fb,rfl,hb⟩,hm⟩:=he;rw[AJ.out,h1];simp only[];rw[h2];exact⟨rfl,⟨fb,rfl,hb⟩,(((Av.refl [] w).drew).Ad CS).Ad hm⟩
  | ok q=>
   rw[h2] at he;obtain⟨rfl,C4⟩:=he;have S2:=S1.quiet C4;have Hr:=hid (show x.finish (.set n a op c)=match x.Dy n with | .error c=> .error c | .ok (v,y)=> .ok (y.add (.set v op p q)) by rw[AJ.out,h1];simp only[];rw[h2]);have hm:=(((Av.refl [] w).drew).Ad CS).Ad C4;clear h1 h2;refine hK _ w2 (fun _=>⟨S2.AN.cell HO 0,S2.AN.cell HX 0,S2.AN.cell HA 0,S2.AN.cell HA 1,S2.AN.cell HC 0,S2.AN.cell HC 1,S2.AN.cell HN 0⟩) ?_;clear hK;refine detE ?_;intro K hK;have S3:=S2.new (.cells #[i5 0,.string op,.bool p.AR,i5 p.v,.bool q.AR,i5 q.v] 238);refine hK _ _ (fun _=>⟨S3.AN.cell (U _ HO) 0,S3.AN.cell (U _ HX) 0,S3.AN.cell (U _ HA) 0,S3.AN.cell (U _ HA) 1,S3.AN.cell (U _ HC) 0,S3.AN.cell (U _ HC) 1,S3.AN.cell (U _ HN) 0⟩) ?_;clear hK;refine Ai rfl (fun K hK=> ?_);go_simp;refine hK _ _ (fun h=>UV rfl h) ?_;clear hK;simp only[BB];have Ke:=hid S3;have HM:=hid (hm.alloc (.cells #[i5 0,.string op,.bool p.AR,i5 p.v,.bool q.AR,i5 q.v] 238));have RU:∀z,z∈F->z.1≠w2.heap.size:=fun z hz e=>UV (S2.AN.lt (b:=z.1) (o:=z.2) hz) Y
   have bA:=hm.size;have HNE:=hid RU;have HGE:=hid bA;have cx:=S3.AN.cell (U _ HX) 0;have cn:=S3.AN.cell (U _ HN) 0;obtain⟨nb,Vf⟩:∃b,b=w2.heap.size:=⟨_,rfl⟩;obtain⟨w3,Ot⟩:∃z,z=World.alloc w2 (.cells #[i5 0,.string op,.bool p.AR,i5 p.v,.bool q.AR,i5 q.v] 238):=⟨_,rfl⟩;rw[<-Ot] at Ke HM cx cn⊢;rw[<-Vf] at Ke HNE HGE⊢;clear S S1 S2 S3 hm CS C4 RU bA Vf Ot;go_wp2_with fail;refine(WZ n _ g x wv Ae Ke.Am).mono ?_;intro e w4 he;clear cx cn;unfold jN at he;cases hl:x.Dy n with
   | error c1=>
    rw[hl] at he;obtain⟨⟨fb,rfl,hb⟩,hm⟩:=he;have Gz:=hid (show x.finish (.set n a op c)= .error c1 by rw[Hr.out,hl]);clear hl;go_wp2;rw[Gz.out];exact⟨rfl,⟨fb,rfl,hb⟩,HM.Ad hm⟩
   | ok r=>
    obtain⟨v,y⟩:=r;rw[hl] at he;obtain⟨rfl,st⟩:=he;have Gz:=hid (show x.finish (.set n a op c)= .ok (y.add (.set v op p q)) by rw[Hr.out,hl]);have S4:PQ _ g y wv Ae w4:=⟨st.Am,Ke.AN.step st,Ke.FB.cast (QD hl)⟩;have AD:=(Ak.quiet H.Am HM).trans st;have S5:=S4.Abf (H.FB.cast (QD hl)) HNE 0 (i5 v);have qz:=hid (S4.x9 AD HGE 0 (i5 v));have QV:=hid S5;have cb:=S4.AN.cell (J ..);have cf:=S4.AN.free (J ..);have cl:=S4.AN.lt (J ..);have cx:=S4.AN.cell (U _ HX) 0;have Fa:=S4.AN.lt (U _ HX);have Bi:bx≠nb:=HNE.out _ HX.out;clear hl st S4 S5 AD;go_wp2_with fail;refine(OL (.set v op p q) _ _ _ g y wv Ae _ QV.Am QV.FB ⟨_,[],rfl,J ..,rfl⟩ Hb).mono ?_;intro e w5 he;have hf:=hid (Zq he QV qz (fun y hy=>U _ hy));obtain⟨rfl,_⟩:=he;clear cb cf cl cx Fa Bi;go_wp2
    go_end0
    rw[Gz.out];exact hf.out
theorem eQ (w:World) (g:FG) (x:qr) (wv:Value) (Ae:Int) (F:List (Nat×Obj)) (h:PQ F g x wv Ae w) (hb:Xq g) (bx:Nat)
  (JK:(bx,Obj.cells #[i6 g.xb] 143 (0,0))∈F):
  Calls prog 122 #[i6 bx] w (OX (x.finish .atomic) F g x wv Ae w):=by
 have cx:=h.AN.cell JK 0;have H:=hid h;have Hb:=hid hb;clear h hb JK;go_enter func122,ntmps122;go_wp2_with fail;refine(QL .atomic _ _ _ g x wv Ae F H.Am H.FB ⟨rfl,rfl⟩ Hb).mono ?_;exact mbI
theorem oZ (n:Int) (w:World) (g:FG) (x:qr) (wv:Value) (Ae:Int) (F:List (Nat×Obj)) (h:PQ F g x wv Ae w) (hb:Xq g) (bx bn:Nat)
  (JK:(bx,Obj.cells #[i6 g.xb] 143 (0,0))∈F) (bD:(bn,Obj.cells #[i5 n] 3 (0,0))∈F):
  Calls prog 127 #[i6 bx,i6 bn] w (OX (x.finish (.loop n)) F g x wv Ae w):=by
 have cx:=h.AN.cell JK 0;have oF:∀(fn:Fn) (first cap:Array Value) (w:World),(Instr.makeFunc fn first cap).run prog w= .ok (.func fn first cap) w:=fun _ _ _ _=>rfl
 have H:=hid h;have Hb:=hid hb;have HN:=hid bD;clear h hb JK bD;go_enter func127,ntmps127;go_wp2_with fail;refine(QL (.loop n) _ _ _ g x wv Ae F H.Am H.FB ⟨rfl,bn,rfl,HN⟩ Hb).mono ?_;exact mbI
theorem zO (a:Wd) (w:World) (g:FG) (x:qr) (wv:Value) (Ae:Int) (F:List (Nat×Obj)) (h:PQ F g x wv Ae w) (hb:Xq g) (bx ba:Nat)
  (JK:(bx,Obj.cells #[i6 g.xb] 143 (0,0))∈F) (Uj:(ba,Obj.cells #[.string a.name,i5 a.v] 230 (0,0))∈F):
  Calls prog 125 #[i6 bx,i6 ba] w (OX (x.finish (.EA a)) F g x wv Ae w):=by
 have cx:=h.AN.cell JK 0;have ca0:=h.AN.cell Uj 0;have ca1:=h.AN.cell Uj 1;have oF:∀(fn:Fn) (first cap:Array Value) (w:World),(Instr.makeFunc fn first cap).run prog w= .ok (.func fn first cap) w:=fun _ _ _ _=>rfl
 have AF:x.finish (.EA a)=match x.CO a with | .error c=> .error c | .ok a=> .ok (x.D5 (.EA a)):=rfl
 have H:=hid h;have Hb:=hid hb;have HX:=hid JK;have AJ:=hid AF;clear h hb JK Uj AF;go_enter func125,ntmps125;go_wp2_with fail;refine(Ko a _ g x wv Ae H.Am).mono ?_;intro e w1 he;clear cx ca0 ca1;unfold Xr at he;cases FA:x.CO a with
 | error c=>
  rw[FA] at he;obtain⟨⟨fb,rfl,hb⟩,hm⟩:=he;have Hr:=hid (show x.finish (.EA a)= .error c by rw[AJ.out,FA]);clear FA;go_wp2;rw[Hr.out];exact mbg
 | ok b=>
  rw[FA] at he;obtain⟨rfl,hm⟩:=he;have Hr:=hid (show x.finish (.EA a)= .ok (x.D5 (.EA b)) by rw[AJ.out,FA]);have S1:=(H.quiet hm).new (.cells #[.bool b.AR,i5 b.v] 235);have cx:=(H.quiet hm).AN.cell HX 0;have Fa:=(H.quiet hm).AN.lt HX.out;have HS1:=hid S1;have HM:=hid (hm.alloc (.cells #[.bool b.AR,i5 b.v] 235));clear FA hm S1;go_wp2_with fail;refine(QL (.EA b) _ _ _ g x wv Ae _ HS1.Am HS1.FB ⟨rfl,_,rfl,J ..⟩ Hb).mono ?_;intro e w2 he;have hf:=hid (OK he HS1 HM H.Am (fun _ hy=>U _ hy));obtain⟨rfl,_⟩:=he;clear cx Fa;go_wp2
  go_end0
  rw[Hr.out];exact hf.out
def Vp (k:JJ) (b:Bt) (sl:Value) (w:World) (e:Ending) (w':World):Prop:=
 ∃T nb o,e= .returned (.iface T (i6 nb))/\Av [] w w'/\w'.heap[nb]?=some o/\w.heap.size<=nb/\∀(F:List (Nat×Obj)) (ws:List Value),(nb,o)∈F->EE F sl ws->Ef F b ws->Ef F (Fr.done ⟨k,b⟩ .nil) [.iface T (i6 nb)]
theorem UN (b:Bt) (p:Option Addr) (n c:Nat) (w:World):Calls prog 124 #[.slice p n c] w (Vp .atomic b (.slice p n c) w):=by
 go_enter func124,ntmps124;exact maP
theorem fj (a:At) (cb:Nat) (b:Bt) (p:Option Addr) (n c:Nat) (w:World) (h:BM w cb #[.bool a.AR,i5 a.v] 235):Calls prog 126 #[.slice p n c,i6 cb] w (Vp (.EA a) b (.slice p n c) w):=by
 have c0:=h.cell 0;have c1:=h.cell 1;clear h;go_enter func126,ntmps126;exact maP
theorem X9 (k:Int) (cb:Nat) (b:Bt) (p:Option Addr) (n c:Nat) (w:World) (h:BM w cb #[i5 k] 3):Calls prog 128 #[.slice p n c,i6 cb] w (Vp (.loop k) b (.slice p n c) w):=by
 have c0:=h.cell 0;clear h;go_enter func128,ntmps128;exact maP
structure Rd (w0:World) (xb:Nat) (r:PV) (Ae:Int) (E:List (Nat×Obj)) (l:Ws) (w:World):Prop where
 px:∃wv,b9 w xb r wv Ae/\Sl w (fun b=>b≠xb/\b < w0.heap.size) wv (A3 l)
 Bf:Av [xb] w0 w
 new:∀q,q∈E->w0.heap.size<=q.1/\w.heap[q.1]?=some q.2
 nd:(E.map Prod.fst).Nodup
 lt:xb < w0.heap.size
theorem Rd.quiet (h:Rd w0 xb r Ae E l w) (k:Av [] w w'):Rd w0 xb r Ae E l w':=by
 obtain⟨⟨wv,h1,h2⟩,h3,h4,h5,h6⟩:=h;exact⟨⟨wv,h1.Bf k EQ,h2.Bf k (fun b hb hm=>by cases hm)⟩,h3.Ad k,fun q hq=>⟨(h4 q hq).1,k.heap (h4 q hq).2 EQ⟩,h5,h6⟩
theorem Rd.Uy (h:Rd w0 xb r Ae E l w) (o:Obj):Rd w0 xb r Ae ((w.heap.size,o)::E) l (w.alloc o):=by
 have h':=h.quiet ((Av.refl [] w).alloc o);refine⟨h'.px,h'.Bf,fun q hq=> ?_,?_,h.lt⟩
 ·rcases Pi.1 hq with rfl | hq
  ·exact⟨h.Bf.size,by show(w.heap.push o)[w.heap.size]?=some o;simp⟩
  ·exact h'.new q hq
 ·rw[d8,Qa5];refine⟨fun hm=> ?_,h.nd⟩;obtain⟨q,hq,he⟩:=Qbg.1 hm;have:=BA (h.new q hq).2;simp only[] at he;omega
theorem Rd.Eg {l':Ws} (h:Rd w0 xb r Ae E l w) (k:Nv (some (v,l')) xb r Ae (fun b=>b≠xb/\b < w0.heap.size) w e w'):e= .returned v/\Rd w0 xb r Ae E l' w':=by
 obtain⟨rfl,wv,h1,h2,h3⟩:=k;exact⟨rfl,⟨wv,h1,h2⟩,h.Bf.trans h3 (fun x hx=> .inl hx),fun q hq=>⟨(h.new q hq).1,h3.heap (h.new q hq).2 (by simp;have:=(h.new q hq).1;have:=h.lt;omega)⟩,h.nd,h.lt⟩
theorem Rd.fail (h:Rd w0 xb r Ae E l w) {c:Int} (k:F1 [xb] c Ae w e w'):F1 [xb] c Ae w0 e w':=
 ⟨k.1,h.Bf.trans k.2 (fun x hx=> .inl hx)⟩
theorem Rd.set {E1 E2:List (Nat×Obj)} (h:Rd w0 xb r Ae (E1++(b,.cells c T (0,0))::E2) l w) (i:Nat) (v:Value):
  Rd w0 xb r Ae (E1++(b,.cells (c.setIfInBounds i v) T (0,0))::E2) l (w.setCell ⟨b,i,none⟩ v):=by
 have hb:=h.new (b,.cells c T (0,0)) (GT _ (J ..));have hm:Av [b] w (w.setCell ⟨b,i,none⟩ v):=(Av.refl [b] w).setCell (.inl EQ) v;have GQ:=h.nd;rw[Qaz,d8,i9,Qa5] at GQ;have AX:=h.lt;obtain⟨wv,h1,h2⟩:=h.px;refine⟨⟨wv,h1.Bf hm (by simp;have:=hb.1;simp only[] at this;omega),h2.Bf hm (fun _ hx hm=>by rw[Z] at hm;have:=hb.1;simp only[] at this;have:=hx.2;omega)⟩,h.Bf.trans hm (fun x hx=>by rw[Z] at hx;exact .inr (by rw[hx];exact hb.1)),fun q hq=> ?_,?_,AX⟩
 ·have Em:∀q:Nat×Obj,w0.heap.size<=q.1/\w.heap[q.1]?=some q.2->q.1≠b->w0.heap.size<=q.1/\(w.setCell ⟨b,i,none⟩ v).heap[q.1]?=some q.2:=fun q hq Bi=>⟨hq.1,hm.heap hq.2 (by rw[Z];exact Bi)⟩
  rcases Nm.1 hq with hq | hq
  ·exact Em q (h.new q (D _ hq)) (fun e=>GQ.2.2 q.1 (List.mem_map_of_mem hq) b (J ..) e)
  ·rcases Pi.1 hq with rfl | hq
   ·exact⟨hb.1,BM.set (c:=c) (T:=T) hb.2 i v⟩
   ·exact Em q (h.new q (GT _ (U _ hq))) (fun e=>GQ.2.1.1 (Qbg.2 ⟨q,hq,e⟩))
 ·rw[Qaz,d8];have:=h.nd;rwa[Qaz,d8] at this
theorem Rd.NA (h:Rd w0 xb r Ae E l w) (hb:(b,Obj.cells c T (0,0))∈E) (i:Nat) (v:Value):
  ∃E',Rd w0 xb r Ae E' l (w.setCell ⟨b,i,none⟩ v)/\(b,Obj.cells (c.setIfInBounds i v) T (0,0))∈E'/\∀q,q∈E->q.1≠b->q∈E':=by
 obtain⟨E1,E2,rfl⟩:=List.append_of_mem hb;refine⟨_,h.set i v,GT _ (J ..),fun q hq Bi=> ?_⟩;rcases Nm.1 hq with hq | hq
 ·exact D _ hq
 ·rcases Pi.1 hq with rfl | hq
  ·exact UV rfl Bi
  ·exact GT _ (U _ hq)
theorem Rd.cell (h:Rd w0 xb r Ae E l w) (hb:(b,Obj.cells c T (0,0))∈E):∀i:Nat,w.cell? ⟨b,i,none⟩=c[i]?:=BM.cell (h.new _ hb).2
theorem Rd.free (h:Rd w0 xb r Ae E l w) (hb:(b,Obj.cells c T (0,0))∈E):∀i:Nat,w.frozen? ⟨b,i,none⟩=false:=BM.free (h.new _ hb).2
theorem Rd.pw {q:Nat×Obj} (h:Rd w0 xb r Ae E l w) (hb:q∈E):q.1 < w.heap.size:=BA (h.new q hb).2
theorem Rd.Xx (h:Rd w0 xb r Ae E l w) {b:Nat} {o p:Obj} (h1:(b,o)∈E) (h2:(b,p)∈E):o=p:=by
 have:=(h.new _ h1).2.symm.trans (h.new _ h2).2;simpa using this
def FG.pv (g:FG) (x:qr):PV:=⟨i6 g.pb,.map (some g.sb),.map (some g.lb),.slice (some ⟨g.ob,0,none⟩) (g.fr.length+1) g.oc,i5 x.Ah⟩
theorem Rd.GK (h0:PQ F g x wv Ae w0) (h:Rd w0 g.xb (g.pv x) Ae E l w):
  ∃wv',PQ (E++F) g x wv' Ae w/\Ak w0 (g.Ar x wv Ae) w (g.Ar x wv' Ae):=by
 obtain⟨wv',h1,_⟩:=h.px;have st:Ak w0 (g.Ar x wv Ae) w (g.Ar x wv' Ae):=h0.Am.swap (i:=0) rfl (h.Bf.mono (fun y hy=> .inl (by simpa[Ob.fp] using hy))) h1 (by simp[Ob.fp]) (fun b hb=> .inl hb);refine⟨wv',⟨st.Am,A5.aS (h0.AN.step st) ⟨fun b o hb=>(h.new _ hb).2,fun b o hb hl=> ?_⟩,h0.FB.sub fun _ hy=>GT _ hy⟩,st⟩;have h2:=(h.new _ hb).1;have h3:b∈D4 (g.Ar x wv Ae):=hl;have:=h0.Am.lt b h3;simp only[] at h2;omega
theorem Rd.start (h:b9 w0 xb r wv Ae) (hs:Sl w0 (fun b=>b≠xb) wv (A3 l)):Rd w0 xb r Ae [] l w0:=
 ⟨⟨wv,h,hs.mono fun b hb ho=>⟨ho,hb⟩⟩,Av.refl _ _,fun q hq=>by simp at hq,EQ,BA h⟩
theorem JH.any (h:JH F fs os):(os.any fun f=>f.kind.CD)=fs.any Jk.Au:=by
 induction fs generalizing os with
 | nil=>rw[show os=[] from h];rfl
 | cons f fs ih=>obtain⟨o,r,rfl,h2,h3⟩:=h;simp only[Qdx,ih h3,h2.Au]
theorem Xp.Bu (h:Xp F g x):x.Bu=g.fr.any Jk.Au:=h.frs.any
theorem Xp.ne (h:Xp F g x):x.Aa≠[]:=by
 obtain⟨ts,t,h1,_,_⟩:=h.U1;rw[h1];simp
theorem Xp.Fg (h:Xp F g x):x.Fg=g.fr.length+1:=by
 unfold qr.Fg;rw[I h.ne,h.frs.len]
theorem Nn (x:qr) (s:Bt->Bt):(x.add s).Ah=x.Ah:=by
 unfold qr.add;split
 ·rfl
 ·split <;>rfl
theorem RW {v:Int} (h:x.Dy n= .ok (v,y)):y.Ah=x.Ah:=by
 unfold qr.Dy at h;split at h
 ·cases h
 ·split at h
  ·cases h;rfl
  ·split at h
   ·cases h
   ·cases h;rfl
theorem ER (h:x.finish s= .ok y):y.Ah=x.Ah:=by
 cases s with
 | set n a op b=>
  simp only[qr.finish] at h;split at h
  ·cases h
  ·exact mcb
 | get n s i=>
  simp only[qr.finish] at h;exact mcb
 | put n a i=>
  simp only[qr.finish] at h;split at h
  ·cases h
  ·split at h
   ·cases h
   ·cases h;rw[Nn]
 | out a=>
  simp only[qr.finish] at h;split at h
  ·cases h
  ·cases h;rw[Nn]
 | atomic=>simp only[qr.finish] at h;cases h;rfl
 | EA a=>
  simp only[qr.finish] at h;split at h
  ·cases h
  ·cases h;rfl
 | loop n=>simp only[qr.finish] at h;cases h;rfl
def PM (g:FG) (x:qr) (wv:Value) (Ae:Int):List Nat:=if x.Aa=[] then [g.xb] else D4 (g.Ar x wv Ae)
structure Aeu (x:qr) (r:PV):Prop where
 th:x.Aa=[]
 o:r.o= .slice none 0 0
def qu (F:List (Nat×Obj)) (g:FG) (x:qr) (wv:Value) (Ae:Int) (w:World) (r:PV):Prop:=(PQ F g x wv Ae w/\r=g.pv x)\/(Aeu x r/\b9 w g.xb r wv Ae)
theorem qu.px (h:qu F g x wv Ae w r):b9 w g.xb r wv Ae:=by
 rcases h with⟨h,rfl⟩ | ⟨_,h⟩
 ·exact h.Am.Au (i:=0) rfl
 ·exact h
def Qa (res:Except Int qr) (F:List (Nat×Obj)) (g:FG) (x:qr) (wv:Value) (Ae:Int) (w:World) (e:Ending) (w':World):Prop:=match res with
 | .error c=>F1 (PM g x wv Ae) c Ae w e w'
 | .ok y=>e= .returned (.tuple #[])/\∃g' F' wv',g'.xb=g.xb/\cd F F'/\Ak w (g.Ar x wv Ae) w' (g'.Ar y wv' Ae)/\PQ F' g' y wv' Ae w'
theorem A7 {c:Int} (h:F1 [g.xb] c Ae w e w'):F1 (PM g x wv Ae) c Ae w e w':=
 ⟨h.1,h.2.mono fun y hy=> .inl (by
   unfold PM;split
   · exact hy
   · rw[Z] at hy;rw[hy];exact Qay.2 ⟨_,J ..,Z.2 rfl⟩)⟩
theorem Cp {c:Int} (hx:x.Aa≠[]) (h:F1 (D4 (g.Ar x wv Ae)) c Ae w e w'):F1 (PM g x wv Ae) c Ae w e w':=by
 unfold PM;rw[I hx];exact h
def qr.Oe (x:qr) (w:ByteArray) (s:Sg):Except Int qr:=
 if x.Aa=[]\/(s.CD=true/\x.Bu=false)\/(bs w=AH/\x.Bu=true) then .error 3
 else match x.finish s with
  | .error c=> .error c
  | .ok y=>if 14 < y.Ah+1\/4 < y.Fg then .error 5 else .ok {y with Ah:=y.Ah+1}
theorem FM {w:ByteArray} {r:Ws} (h:IA w r=some s):x.AL w r=x.Oe w s:=by
 unfold qr.AL;rw[h];rfl
theorem Ck {w:ByteArray} {r:Ws} (h:IA w r=none):x.AL w r= .error 2:=by
 unfold qr.AL;rw[h]
theorem VY {w:ByteArray} {r:Ws} (h:bs w=DI):IA w r=Fc .out r:=by
 unfold IA;rw[h];rfl
theorem aw {w:ByteArray} {r:Ws} (h:bs w=Kb):IA w r=Fc .EA r:=by
 unfold IA;rw[h];rfl
theorem SF {w:ByteArray} {r:Ws} (h:bs w=Dp):IA w r=J8 r:=by
 unfold IA;rw[h];rfl
theorem TX {w:ByteArray} {r:Ws} (h:bs w=AH):IA w r=GK .atomic r:=by
 unfold IA;rw[h];rfl
theorem Ky {w:ByteArray} {r:Ws} (h:bs w=CY):IA w r=I6 r:=by
 unfold IA;rw[h];rfl
theorem Oc {w:ByteArray} {r:Ws} (h:bs w=CF):IA w r=Kz r:=by
 unfold IA;rw[h];rfl
theorem Oa {w:ByteArray} {r:Ws} (h:bs w=CZ):IA w r=Kx r:=by
 unfold IA;rw[h];rfl
theorem PQ.count (h:PQ F g y wv Ae w) (st:Ak w0 L w (g.Ar y wv Ae)):
  Ak w0 L (w.setCell ⟨g.xb,6,none⟩ (i5 (y.Ah+1))) (g.Ar {y with Ah:=y.Ah+1} wv Ae)/\PQ F g {y with Ah:=y.Ah+1} wv Ae (w.setCell ⟨g.xb,6,none⟩ (i5 (y.Ah+1))):=by
 have t:Ak w (g.Ar y wv Ae) (w.setCell ⟨g.xb,6,none⟩ (i5 (y.Ah+1))) (g.Ar {y with Ah:=y.Ah+1} wv Ae):=h.Am.set (i:=0) rfl 6 (i5 (y.Ah+1));exact⟨st.trans t,⟨t.Am,h.AN.step t,h.FB.U1,h.FB.frs⟩⟩
theorem Rd.aK (h:Rd w0 xb r Ae E l w) (o:Obj):∃E',Rd w0 xb r Ae E' l (w.alloc o)/\(w.heap.size,o)∈E'/\cd E E':=
 ⟨_,h.Uy o,J ..,fun _ hy=>U _ hy⟩
theorem Ip (h:Xp F g x) (h1:s.CD=true->g.fr.any Jk.Au=true) (h2:bs nm=AH->g.fr.any Jk.Au=false):
  x.Oe nm s=match x.finish s with
   | .error c=> .error c
   | .ok y=>if 14 < y.Ah+1\/4 < y.Fg then .error 5 else .ok {y with Ah:=y.Ah+1}:=by
 unfold qr.Oe;rw[I];rintro(h3 | ⟨h3,h4⟩ | ⟨h3,h4⟩)
 ·exact h.ne h3
 ·rw[h.Bu,h1 h3] at h4;cases h4
 ·rw[h.Bu,h2 h3] at h4;cases h4
theorem SJ (h:Xp F g x) (h1:(s.CD=true/\g.fr.any Jk.Au=false)\/(bs nm=AH/\g.fr.any Jk.Au=true)):x.Oe nm s= .error 3:=by
 unfold qr.Oe;rw[In];rw[h.Bu];exact .inr h1
theorem EM (h:x.Aa=[]):x.Oe nm s= .error 3:=by
 unfold qr.Oe;rw[In (.inl h)]
theorem zI (nm:ByteArray) (ws:Ws) (mb:Nat) (w:World) (g:FG) (x:qr) (wv:Value) (Ae:Int) (F:List (Nat×Obj)) (r:PV) (h:qu F g x wv Ae w r) (hs:Sl w (fun b=>b≠g.xb) wv (A3 ws)) (hz:∀a,a∈ws->a.size<=1000000) (hg:Gl mb w) (JZ:g.xb∉Td mb) (hb:Xq g) (AD:0<=x.Ah/\x.Ah<=1000) (hk:bs nm=DI):
  Calls prog 101 #[i6 g.xb,.string nm] w (Qa (x.AL nm ws) F g x wv Ae w):=by
 have H:=hid h;have Hz:=hid hz;have Hg:=hid hg;have Hb:=hid hb;have Hk:=hid hk;have HX:=hid JZ;have oF:∀(fn:Fn) (first cap:Array Value) (w:World),(Instr.makeFunc fn first cap).run prog w= .ok (.func fn first cap) w:=fun _ _ _ _=>rfl
 have R0:=hid ((Rd.start (r:=r) h.px hs).Uy (.cells #[i6 g.xb] 143));have AX:=BA h.px;obtain⟨bx,JK⟩:∃b,b=w.heap.size:=⟨_,rfl⟩;have Hbx:=hid JK;have q0:=An (x:=nm) (k:=CY) (by rw[hk];decide);unfold CY at q0;have q1:=An (x:=nm) (k:=CF) (by rw[hk];decide);unfold CF at q1;have q2:=An (x:=nm) (k:=CZ) (by rw[hk];decide);unfold CZ at q2;have q3:=BO hk;unfold DI at q3;have qa:=An (x:=nm) (k:=AH) (by rw[hk];decide);unfold AH at qa;clear h hs hz hg JZ hb hk JK;go_enter func101,ntmps101;have SZ:Hid ((w.heap.size,Obj.cells #[i6 g.xb] 143 (0,0))∈[(w.heap.size,Obj.cells #[i6 g.xb] 143 (0,0))]):=hid (J ..);obtain⟨E,hE⟩:∃E,E=[(w.heap.size,Obj.cells #[i6 g.xb] 143 (0,0))]:=⟨_,rfl⟩;rw[<-hE] at SZ R0;clear hE;have MX:=SZ;clear SZ;obtain⟨Mx,p1,s1⟩:=R0.px;have cb:=R0.cell MX 0;have fH:=hid (Jd mb ws _ g.xb r Mx Ae _ p1 s1 (fun h=>h.1 rfl) Hz (Hg.Bf R0.Bf (fun b hb hm=>by rw[Z] at hm;rw[hm] at hb;exact HX.out hb)) HX);clear p1 s1;go_wp2_with fail;refine fH.mono ?_;intro e w1 he;clear cb fH;cases hw:Ff ws with
 | none=>
  rw[hw] at he;obtain⟨⟨fb,rfl,hb⟩,hm⟩:=he;have hr:=hid (Ck (x:=x) (w:=nm) (r:=ws) (by rw[VY Hk.out];unfold Fc;rw[hw]));exact mbp
 | some p=>
  obtain⟨a,l⟩:=p;rw[hw] at he;obtain⟨rfl,R1⟩:=R0.Eg he;obtain⟨E2,R2,m2,more2⟩:=R1.aK (.cells #[.string a.name,i5 a.v] 230);have R:=hid R2;have MA:=hid m2;replace MX:=hid (more2 _ MX);have Hw:=hid hw;have Kk:a.val= .agg #[.string a.name,i5 a.v]:=rfl;simp only[Kk];clear hw R1 R2 m2 more2 he Kk R0;obtain⟨ba,Uj⟩:∃b,b=w1.heap.size:=⟨_,rfl⟩;obtain⟨ZX,p2,s2⟩:=R.px;have cb:=R.cell MX 0;have LC:=hid (DU l _ g.xb r ZX Ae _ p2 s2);clear p2 s2;go_wp2_with fail;refine LC.mono ?_;intro e w3 he;clear cb;cases l with
  | cons b l2=>
   obtain⟨⟨fb,rfl,hb⟩,hm⟩:=he;have hr:=hid (Ck (x:=x) (w:=nm) (r:=ws) (by rw[VY Hk.out];unfold Fc;rw[Hw.out];rfl));exact mas
  | nil=>
   obtain⟨rfl,R3⟩:=R.Eg he;have Hr:=hid (FM (x:=x) (w:=nm) (r:=ws) (s:= .out a) (by rw[VY Hk.out];unfold Fc;rw[Hw.out];rfl));rcases H.out with⟨hS,rfl⟩ | ⟨hN,hP⟩;rotate_left
   ·exact mag
   obtain⟨LF,S3,MQ⟩:=R3.GK hS;have Mr:=hid hS.FB.ne;clear hS;obtain⟨wvq,p3,_⟩:=R3.px;have x5:w3.cell? ⟨g.xb,5,none⟩=some (.slice (some ⟨g.ob,0,none⟩) (g.fr.length+1) g.oc):=p3.cell 5;have x1:w3.cell? ⟨g.xb,1,none⟩=some (i5 Ae):=p3.cell 1;have xl:g.xb < w3.heap.size:=p3.lt;have cb:=R3.cell MX 0;have Gu:((g.fr.length:Int)+1==0)=false:=by rw[NE];omega
   have Ke:=hid S3;have Gi:=hid MQ;clear S3 MQ p3 he R3 R LC;have Hp:=hid (Hr.trans (Ip Ke.FB (fun h=>by cases h) (fun h=>by rw[Hk.out] at h;exact UV h AC)));clear Hr;go_wp2_with fail;refine(vm a _ g x LF Ae _ Ke Hb _ _ (D _ MX) (D _ MA)).mono ?_;intro e w4 he;clear cb x5 x1 xl Gu;unfold OX at he;cases CN:x.finish (.out a) with
   | error c=>
    exact mam
   | ok y=>
    exact mab
theorem Ack (nm:ByteArray) (ws:Ws) (mb:Nat) (w:World) (g:FG) (x:qr) (wv:Value) (Ae:Int) (F:List (Nat×Obj)) (r:PV) (h:qu F g x wv Ae w r) (hs:Sl w (fun b=>b≠g.xb) wv (A3 ws)) (hz:∀a,a∈ws->a.size<=1000000) (hg:Gl mb w) (JZ:g.xb∉Td mb) (hb:Xq g) (AD:0<=x.Ah/\x.Ah<=1000) (hk:bs nm=Kb):
  Calls prog 101 #[i6 g.xb,.string nm] w (Qa (x.AL nm ws) F g x wv Ae w):=by
 have H:=hid h;have Hz:=hid hz;have Hg:=hid hg;have Hb:=hid hb;have Hk:=hid hk;have HX:=hid JZ;have oF:∀(fn:Fn) (first cap:Array Value) (w:World),(Instr.makeFunc fn first cap).run prog w= .ok (.func fn first cap) w:=fun _ _ _ _=>rfl
 have R0:=hid ((Rd.start (r:=r) h.px hs).Uy (.cells #[i6 g.xb] 143));have AX:=BA h.px;obtain⟨bx,JK⟩:∃b,b=w.heap.size:=⟨_,rfl⟩;have Hbx:=hid JK;have q0:=An (x:=nm) (k:=CY) (by rw[hk];decide);unfold CY at q0;have q1:=An (x:=nm) (k:=CF) (by rw[hk];decide);unfold CF at q1;have q2:=An (x:=nm) (k:=CZ) (by rw[hk];decide);unfold CZ at q2;have q3:=An (x:=nm) (k:=DI) (by rw[hk];decide);unfold DI at q3;have q4:=An (x:=nm) (k:=AH) (by rw[hk];decide);unfold AH at q4;have q5:=BO hk;unfold Kb at q5;clear h hs hz hg JZ hb hk JK;go_enter func101,ntmps101;have SZ:Hid ((w.heap.size,Obj.cells #[i6 g.xb] 143 (0,0))∈[(w.heap.size,Obj.cells #[i6 g.xb] 143 (0,0))]):=hid (J ..);obtain⟨E,hE⟩:∃E,E=[(w.heap.size,Obj.cells #[i6 g.xb] 143 (0,0))]:=⟨_,rfl⟩;rw[<-hE] at SZ R0;clear hE;have MX:=SZ;clear SZ;obtain⟨Mx,p1,s1⟩:=R0.px;have cb:=R0.cell MX 0;have fH:=hid (Jd mb ws _ g.xb r Mx Ae _ p1 s1 (fun h=>h.1 rfl) Hz (Hg.Bf R0.Bf (fun b hb hm=>by rw[Z] at hm;rw[hm] at hb;exact HX.out hb)) HX);clear p1 s1;go_wp2_with fail;refine fH.mono ?_;intro e w1 he;clear cb fH;cases hw:Ff ws with
 | none=>
  rw[hw] at he;obtain⟨⟨fb,rfl,hb⟩,hm⟩:=he;have hr:=hid (Ck (x:=x) (w:=nm) (r:=ws) (by rw[aw Hk.out];unfold Fc;rw[hw]));exact mbp
 | some p=>
  obtain⟨a,l⟩:=p;rw[hw] at he;obtain⟨rfl,R1⟩:=R0.Eg he;obtain⟨E2,R2,m2,more2⟩:=R1.aK (.cells #[.string a.name,i5 a.v] 230);have R:=hid R2;have MA:=hid m2;replace MX:=hid (more2 _ MX);have Hw:=hid hw;have Kk:a.val= .agg #[.string a.name,i5 a.v]:=rfl;simp only[Kk];clear hw R1 R2 m2 more2 he Kk R0;obtain⟨ba,Uj⟩:∃b,b=w1.heap.size:=⟨_,rfl⟩;obtain⟨ZX,p2,s2⟩:=R.px;have cb:=R.cell MX 0;have LC:=hid (DU l _ g.xb r ZX Ae _ p2 s2);clear p2 s2;go_wp2_with fail;refine LC.mono ?_;intro e w3 he;clear cb;cases l with
  | cons b l2=>
   obtain⟨⟨fb,rfl,hb⟩,hm⟩:=he;have hr:=hid (Ck (x:=x) (w:=nm) (r:=ws) (by rw[aw Hk.out];unfold Fc;rw[Hw.out];rfl));exact mas
  | nil=>
   obtain⟨rfl,R3⟩:=R.Eg he;have Hr:=hid (FM (x:=x) (w:=nm) (r:=ws) (s:= .EA a) (by rw[aw Hk.out];unfold Fc;rw[Hw.out];rfl));rcases H.out with⟨hS,rfl⟩ | ⟨hN,hP⟩;rotate_left
   ·exact mag
   obtain⟨LF,S3,MQ⟩:=R3.GK hS;have Mr:=hid hS.FB.ne;clear hS;obtain⟨wvq,p3,_⟩:=R3.px;have x5:w3.cell? ⟨g.xb,5,none⟩=some (.slice (some ⟨g.ob,0,none⟩) (g.fr.length+1) g.oc):=p3.cell 5;have x1:w3.cell? ⟨g.xb,1,none⟩=some (i5 Ae):=p3.cell 1;have xl:g.xb < w3.heap.size:=p3.lt;have cb:=R3.cell MX 0;have Gu:((g.fr.length:Int)+1==0)=false:=by rw[NE];omega
   have Ke:=hid S3;have Gi:=hid MQ;clear S3 MQ p3 he R3 R LC;have Hp:=hid (Hr.trans (Ip Ke.FB (fun h=>by cases h) (fun h=>by rw[Hk.out] at h;exact UV h AC)));clear Hr;go_wp2_with fail;refine(zO a _ g x LF Ae _ Ke Hb _ _ (D _ MX) (D _ MA)).mono ?_;intro e w4 he;clear cb x5 x1 xl Gu;unfold OX at he;cases CN:x.finish (.EA a) with
   | error c=>
    exact mam
   | ok y=>
    exact mab
theorem vh (nm:ByteArray) (ws:Ws) (mb:Nat) (w:World) (g:FG) (x:qr) (wv:Value) (Ae:Int) (F:List (Nat×Obj)) (r:PV) (h:qu F g x wv Ae w r) (hs:Sl w (fun b=>b≠g.xb) wv (A3 ws)) (hz:∀a,a∈ws->a.size<=1000000) (hg:Gl mb w) (JZ:g.xb∉Td mb) (hb:Xq g) (AD:0<=x.Ah/\x.Ah<=1000) (hk:bs nm=Dp):
  Calls prog 101 #[i6 g.xb,.string nm] w (Qa (x.AL nm ws) F g x wv Ae w):=by
 have H:=hid h;have Hz:=hid hz;have Hg:=hid hg;have Hb:=hid hb;have Hk:=hid hk;have HX:=hid JZ;have oF:∀(fn:Fn) (first cap:Array Value) (w:World),(Instr.makeFunc fn first cap).run prog w= .ok (.func fn first cap) w:=fun _ _ _ _=>rfl
 have R0:=hid ((Rd.start (r:=r) h.px hs).Uy (.cells #[i6 g.xb] 143));have AX:=BA h.px;obtain⟨bx,JK⟩:∃b,b=w.heap.size:=⟨_,rfl⟩;have Hbx:=hid JK;have q0:=An (x:=nm) (k:=CY) (by rw[hk];decide);unfold CY at q0;have q1:=An (x:=nm) (k:=CF) (by rw[hk];decide);unfold CF at q1;have q2:=An (x:=nm) (k:=CZ) (by rw[hk];decide);unfold CZ at q2;have q3:=An (x:=nm) (k:=DI) (by rw[hk];decide);unfold DI at q3;have q4:=An (x:=nm) (k:=AH) (by rw[hk];decide);unfold AH at q4;have q5:=An (x:=nm) (k:=Kb) (by rw[hk];decide);unfold Kb at q5;have q6:=BO hk;unfold Dp at q6;clear h hs hz hg JZ hb hk JK;go_enter func101,ntmps101;have SZ:Hid ((w.heap.size,Obj.cells #[i6 g.xb] 143 (0,0))∈[(w.heap.size,Obj.cells #[i6 g.xb] 143 (0,0))]):=hid (J ..);obtain⟨E,hE⟩:∃E,E=[(w.heap.size,Obj.cells #[i6 g.xb] 143 (0,0))]:=⟨_,rfl⟩;rw[<-hE] at SZ R0;clear hE;have MX:=SZ;clear SZ;obtain⟨Mx,p1,s1⟩:=R0.px;have cb:=R0.cell MX 0;have fH:=hid (Zm 4 mb ws _ g.xb r Mx Ae _ p1 s1 (fun h=>h.1 rfl) Hz (Hg.Bf R0.Bf (fun b hb hm=>by rw[Z] at hm;rw[hm] at hb;exact HX.out hb)) HX AC);clear p1 s1;go_wp2_with fail;refine fH.mono ?_;intro e w1 he;clear cb fH;cases hw:Il 4 ws with
 | none=>
  rw[hw] at he;obtain⟨⟨fb,rfl,hb⟩,hm⟩:=he;have hr:=hid (Ck (x:=x) (w:=nm) (r:=ws) (by rw[SF Hk.out];unfold J8;rw[hw]));exact mbp
 | some p=>
  obtain⟨a,l⟩:=p;rw[hw] at he;obtain⟨rfl,R1⟩:=R0.Eg he;obtain⟨E2,R2,m2,more2⟩:=R1.aK (.cells #[i5 a] 3);have R:=hid R2;have MA:=hid m2;replace MX:=hid (more2 _ MX);have Hw:=hid hw;clear hw R1 R2 m2 more2 he R0;obtain⟨ZX,p2,s2⟩:=R.px;have cb:=R.cell MX 0;have LC:=hid (DU l _ g.xb r ZX Ae _ p2 s2);clear p2 s2;go_wp2_with fail;refine LC.mono ?_;intro e w3 he;clear cb;cases l with
  | cons b l2=>
   obtain⟨⟨fb,rfl,hb⟩,hm⟩:=he;have hr:=hid (Ck (x:=x) (w:=nm) (r:=ws) (by rw[SF Hk.out];unfold J8;rw[Hw.out];rfl));exact mas
  | nil=>
   obtain⟨rfl,R3⟩:=R.Eg he;have Hr:=hid (FM (x:=x) (w:=nm) (r:=ws) (s:= .loop a) (by rw[SF Hk.out];unfold J8;rw[Hw.out];rfl));rcases H.out with⟨hS,rfl⟩ | ⟨hN,hP⟩;rotate_left
   ·exact mag
   obtain⟨LF,S3,MQ⟩:=R3.GK hS;have Mr:=hid hS.FB.ne;clear hS;obtain⟨wvq,p3,_⟩:=R3.px;have x5:w3.cell? ⟨g.xb,5,none⟩=some (.slice (some ⟨g.ob,0,none⟩) (g.fr.length+1) g.oc):=p3.cell 5;have x1:w3.cell? ⟨g.xb,1,none⟩=some (i5 Ae):=p3.cell 1;have xl:g.xb < w3.heap.size:=p3.lt;have cb:=R3.cell MX 0;have Gu:((g.fr.length:Int)+1==0)=false:=by rw[NE];omega
   have Ke:=hid S3;have Gi:=hid MQ;clear S3 MQ p3 he R3 R LC;have Hp:=hid (Hr.trans (Ip Ke.FB (fun h=>by cases h) (fun h=>by rw[Hk.out] at h;exact UV h AC)));clear Hr;go_wp2_with fail;refine(oZ a _ g x LF Ae _ Ke Hb _ _ (D _ MX) (D _ MA)).mono ?_;intro e w4 he;clear cb x5 x1 xl Gu;unfold OX at he;cases CN:x.finish (.loop a) with
   | error c=>
    exact mam
   | ok y=>
    exact mab
theorem jd (nm:ByteArray) (ws:Ws) (mb:Nat) (w:World) (g:FG) (x:qr) (wv:Value) (Ae:Int) (F:List (Nat×Obj)) (r:PV) (h:qu F g x wv Ae w r) (hs:Sl w (fun b=>b≠g.xb) wv (A3 ws)) (hz:∀a,a∈ws->a.size<=1000000) (hg:Gl mb w) (JZ:g.xb∉Td mb) (hb:Xq g) (AD:0<=x.Ah/\x.Ah<=1000) (hk:bs nm=AH):
  Calls prog 101 #[i6 g.xb,.string nm] w (Qa (x.AL nm ws) F g x wv Ae w):=by
 have H:=hid h;have Hz:=hid hz;have Hg:=hid hg;have Hb:=hid hb;have Hk:=hid hk;have HX:=hid JZ;have oF:∀(fn:Fn) (first cap:Array Value) (w:World),(Instr.makeFunc fn first cap).run prog w= .ok (.func fn first cap) w:=fun _ _ _ _=>rfl
 have R0:=hid ((Rd.start (r:=r) h.px hs).Uy (.cells #[i6 g.xb] 143));have AX:=BA h.px;obtain⟨bx,JK⟩:∃b,b=w.heap.size:=⟨_,rfl⟩;have Hbx:=hid JK;have q0:=An (x:=nm) (k:=CY) (by rw[hk];decide);unfold CY at q0;have q1:=An (x:=nm) (k:=CF) (by rw[hk];decide);unfold CF at q1;have q2:=An (x:=nm) (k:=CZ) (by rw[hk];decide);unfold CZ at q2;have q3:=An (x:=nm) (k:=DI) (by rw[hk];decide);unfold DI at q3;have q4:=BO hk;unfold AH at q4;clear h hs hz hg JZ hb hk JK;go_enter func101,ntmps101;have SZ:Hid ((w.heap.size,Obj.cells #[i6 g.xb] 143 (0,0))∈[(w.heap.size,Obj.cells #[i6 g.xb] 143 (0,0))]):=hid (J ..);obtain⟨E,hE⟩:∃E,E=[(w.heap.size,Obj.cells #[i6 g.xb] 143 (0,0))]:=⟨_,rfl⟩;rw[<-hE] at SZ R0;clear hE;have MX:=SZ;clear SZ;obtain⟨l,hl⟩:∃l,l=ws:=⟨_,rfl⟩;have R:Hid (Rd w g.xb r Ae E l _):=hl▸R0;have Hl:=hid hl;clear hl R0;obtain⟨ZX,p2,s2⟩:=R.px;have cb:=R.cell MX.out 0;have LC:=hid (DU l _ g.xb r ZX Ae _ p2 s2);clear p2 s2;go_wp2_with fail;refine LC.mono ?_;intro e w3 he;clear cb;cases l with
 | cons b l2=>
  obtain⟨⟨fb,rfl,hb⟩,hm⟩:=he;have hr:=hid (Ck (x:=x) (w:=nm) (r:=ws) (by rw[TX Hk.out,<-Hl.out];rfl));exact mas
 | nil=>
  obtain⟨rfl,R3⟩:=R.Eg he;have Hr:=hid (FM (x:=x) (w:=nm) (r:=ws) (s:= .atomic) (by rw[TX Hk.out,<-Hl.out];rfl));rcases H.out with⟨hS,rfl⟩ | ⟨hN,hP⟩;rotate_left
  ·obtain⟨wvq,p3,_⟩:=R3.px;have x5:w3.cell? ⟨g.xb,5,none⟩=some (.slice none 0 0):=(p3.cell 5).trans (Qao some hN.o);have x1:w3.cell? ⟨g.xb,1,none⟩=some (i5 Ae):=p3.cell 1;have xl:g.xb < w3.heap.size:=p3.lt;have cb:=R3.cell MX.out 0;have hr:=hid (Hr.trans (EM hN.th));have jQ:=hid R3;clear p3 he R3 R LC Hr hN hP;go_wp2_with fail;refine(AQ _ _ _).mono ?_;rintro e w5 ⟨⟨fb,rfl,hb⟩,hm⟩;go_wp2;rw[hr.out];exact⟨rfl,A7 ⟨⟨fb,rfl,hb⟩,jQ.Bf.Ad hm⟩⟩
  obtain⟨LF,S3,MQ⟩:=R3.GK hS;have Mr:=hid hS.FB.ne;clear hS;obtain⟨wvq,p3,_⟩:=R3.px;have x5:w3.cell? ⟨g.xb,5,none⟩=some (.slice (some ⟨g.ob,0,none⟩) (g.fr.length+1) g.oc):=p3.cell 5;have x1:w3.cell? ⟨g.xb,1,none⟩=some (i5 Ae):=p3.cell 1;have xl:g.xb < w3.heap.size:=p3.lt;have cb:=R3.cell MX.out 0;have Gu:((g.fr.length:Int)+1==0)=false:=by rw[NE];omega
  have Ke:=hid S3;have Gi:=hid MQ;clear S3 MQ p3 he R3 R LC;have Hin:=hid (OJ _ g x LF Ae Ke.Am Hb.fr);go_wp2_with fail;refine Hin.mono ?_;rintro e w3b ⟨rfl,PE⟩;clear Hin;replace x5:=AU PE x5;replace x1:=AU PE x1;replace cb:=AU PE cb;have um:=PE.size;replace xl:g.xb < w3b.heap.size:=Y
  have Ue:=hid (Gi.trans (Ak.quiet Ke.Am PE));have dX:=hid (Ke.quiet PE);clear Gi Ke PE um;have Gi:=Ue;have Ke:=dX;clear Ue dX;cases Fs:g.fr.any Jk.Au with
  | true=>
   have lU:=hid Fs;clear Fs;have hr:=hid (Hr.trans (SJ Ke.FB (by exact .inr ⟨Hk,lU⟩)));go_wp2_with fail;refine(AQ _ _ _).mono ?_;rintro e w5 ⟨⟨fb,rfl,hb⟩,hm⟩;exact mav
  | false=>
   have lU:=hid Fs;clear Fs;have Hp:=hid (Hr.trans (Ip Ke.FB (fun h=>by cases h) (fun _=>lU.out)));clear Hr lU;go_wp2_with fail;refine(eQ _ g x LF Ae _ Ke Hb _ (D _ MX.out)).mono ?_;intro e w4 he;clear cb x5 x1 xl Gu;unfold OX at he;cases CN:x.finish (.atomic) with
   | error c=>
    exact mam
   | ok y=>
    rw[CN] at he;obtain⟨rfl,g',F',EB,Et,SB,S4⟩:=he;have cq:=ER CN;have hr:x.AL nm ws=if 14 < y.Ah+1\/4 < y.Fg then .error 5 else .ok {y with Ah:=y.Ah+1}:=by rw[Hp.out,CN]
    rw[S4.FB.Fg] at hr;have Nh:True->wrap64 (y.Ah+1)=y.Ah+1:=fun _=>IntWalk.wrap64_in _ Y
    have f4:=GU S4.Am;have y6:w4.cell? ⟨g.xb,6,none⟩=some (i5 y.Ah):=EB▸f4.c 6;have y5:w4.cell? ⟨g.xb,5,none⟩=some (.slice (some ⟨g'.ob,0,none⟩) (g'.fr.length+1) g'.oc):=EB▸f4.c 5;have y1:w4.cell? ⟨g.xb,1,none⟩=some (i5 Ae):=EB▸f4.c 1;have yf:World.frozen? w4 ⟨g.xb,6,none⟩=false:=EB▸f4.f 6;have yl:g.xb < w4.heap.size:=EB▸f4.lt;have cb:=S4.AN.cell (Et _ (D _ MX.out)) 0;have JK:w.heap.size≠g.xb:=fun e=>by rw[e] at AX;omega
    obtain⟨t5,S5⟩:=S4.count (Gi.trans SB);rw[EB] at t5 S5;have QU:=hid t5;have QV:=hid S5;have jO:=hid EB;have KU:=hid Et;have QR:=hid hr;clear CN f4 S4 SB t5 S5 EB Et hr cq;by_cases Ln:14 < y.Ah+1
    ·have IK:x.AL nm ws= .error 5:=QR.trans (In (.inl Ln));have Gz:=hid IK;clear IK;exact maj
    ·by_cases h4:4 < g'.fr.length+1
     ·have jc:(4:Int) < (g'.fr.length:Int)+1:=Y
      have Gz:=hid (QR.trans (In (.inr h4)));clear h4;exact maj
     ·have jc:¬(4:Int) < (g'.fr.length:Int)+1:=Y
      have Gz:=hid (QR.trans (I (fun h=>h.elim Ln h4)));clear h4;go_wp2
      go_end0
      rw[Gz.out];exact⟨rfl,g',F',LF,jO,fun y hy=>KU.out y (GT _ hy),QU,QV⟩
end Go.Proofs.YtpdfifdlhpmofaaGreatDoor
