/-
  Part 23 of the proof, packed by program out of F3, F4, F5, F6.
-/
import Derived.Test.YtpdfifdlhpmofaaGreatDoorZ15
import Derived.Test.YtpdfifdlhpmofaaGreatDoorZ22
import Derived.Test.YtpdfifdlhpmofaaGreatDoorZ16
import Derived.Test.YtpdfifdlhpmofaaGreatDoorZ06
import Derived.Laws.EntriesVeiled
set_option linter.unusedVariables false
set_option linter.unusedSimpArgs false
set_option maxHeartbeats 3200000
set_option maxRecDepth 100000
namespace Go.Proofs.YtpdfifdlhpmofaaGreatDoor
open Go.RowKit
open Go.Lib (hid)
structure Im where
 bb:Nat
 s:SG
 fn:Fn
 cap:Array Value
 AP:Bool
 us:List Value
structure FG where
 xb:Nat
 pb:Nat
 sb:Nat
 lb:Nat
 tb:Nat
 tc:Nat
 tv:List Value
 c:SG
 cs:List Value
 ob:Nat
 oc:Nat
 fr:List Im
def Fv (l:List XL):List (ByteArray×Value):=l.map fun s=>(s.name,.agg #[.int .i64 s.first,.int .i64 s.size])
def FU (l:List ByteArray):List (ByteArray×Value):=l.mapIdx fun i n=>(n,.int .i64 (i:Int))
def Im.Ax (f:Im):List Ob:=[.AP f.bb #[.slice f.s.p f.us.length f.s.c] 165,.row (.slice f.s.p f.us.length f.s.c) 208 1 f.us.length f.us]
def Im.cells (f:Im):List Value:=[.pointer (some ⟨f.bb,0,none⟩),.func f.fn #[] f.cap,.bool f.AP]
def FG.C5 (g:FG):List Value:=[.pointer (some ⟨g.tb,g.tv.length,none⟩),.nilFunc,.bool false]++g.fr.flatMap Im.cells
def FG.Ax (g:FG) (x:qr) (wv:Value) (Ae:Int):List Ob:=
 [.AP g.xb #[wv,.int .i64 Ae,.pointer (some ⟨g.pb,0,none⟩),.map (some g.sb),.map (some g.lb),.slice (some ⟨g.ob,0,none⟩) (g.fr.length+1) g.oc,.int .i64 x.Am] 151,
  .AP g.pb #[.slice (some ⟨g.tb,0,none⟩) (g.tv.length+1) g.tc,.int .i64 x.cells] 146,
  .PN g.sb (G9 (Fv x.Aw)),
  .row (.slice (some ⟨g.tb,0,none⟩) (g.tv.length+1) g.tc) 165 1 (g.tv.length+1) (g.tv++[.slice g.c.p g.cs.length g.c.c]),
  .PN g.lb (G9 (FU x.AB)),
  .row (.slice (some ⟨g.ob,0,none⟩) (g.fr.length+1) g.oc) 205 3 (g.fr.length+1) g.C5,
  .row (.slice g.c.p g.cs.length g.c.c) 208 1 g.cs.length g.cs]++g.fr.reverse.flatMap Im.Ax
def FG.fF (g:FG) (x:qr) (wv:Value) (Ae:Int):List Ob:=
 [.AP g.xb #[wv,.int .i64 Ae,.pointer (some ⟨g.pb,0,none⟩),.map (some g.sb),.map none,.slice none 0 0,.int .i64 0] 151,
  .AP g.pb #[.slice none 0 0,.int .i64 x.cells] 146,
  .PN g.sb (G9 (Fv x.Aw))]
def MU (F:List (Nat×Obj)):IF→Fn→Array Value→Prop
 | .atomic,f,c=>f= .func 124∧c= #[]
 | .ES a,f,c=>f= .func 126∧∃b,c= #[.pointer (some ⟨b,0,none⟩)]∧(b,Obj.cells #[.bool a.AL,.int .i64 a.v] 235 (0,0))∈F
 | .loop n,f,c=>f= .func 128∧∃b,c= #[.pointer (some ⟨b,0,none⟩)]∧(b,Obj.cells #[.int .i64 n] 3 (0,0))∈F
theorem MU.sub {F E:List (Nat×Obj)} {k:IF} {f:Fn} {c:Array Value} (h:MU F k f c) (s:∀x,x∈F→x∈E):MU E k f c:=by
 cases k with
 | atomic=>exact h
 | ES a=>obtain⟨h0,b,h1,h2⟩:=h;exact⟨h0,b,h1,s _ h2⟩
 | loop n=>obtain⟨h0,b,h1,h2⟩:=h;exact⟨h0,b,h1,s _ h2⟩
structure dS (F:List (Nat×Obj)) (f:Im) (o:Fr):Prop where
 st:DI F o.body f.us
 AP:f.AP=o.kind.Cr
 cl:MU F o.kind f.fn f.cap
def IE (F:List (Nat×Obj)):List Im→List Fr→Prop
 | [],os=>os=[]
 | f::fs,os=>∃o r,os=o::r∧dS F f o∧IE F fs r
structure SV (F:List (Nat×Obj)) (g:FG) (x:qr):Prop where
 yk:∃ts t,x.Aa=ts++[t]∧Gg F ts g.tv∧DI F t g.cs
 pr:IE F g.fr x.Ai
theorem dS.sub {F E:List (Nat×Obj)} {f:Im} {o:Fr} (h:dS F f o) (s:∀x,x∈F→x∈E):dS E f o:=⟨h.st.sub s,h.AP,h.cl.sub s⟩
theorem IE.sub {F E:List (Nat×Obj)} {fs:List Im} {os:List Fr} (h:IE F fs os) (s:∀x,x∈F→x∈E):IE E fs os:=by
 induction fs generalizing os with
 | nil=>exact h
 | cons f fs ih=>obtain⟨o,r,h1,h2,h3⟩:=h;exact⟨o,r,h1,h2.sub s,ih h3⟩
theorem IE.len {F:List (Nat×Obj)} {fs:List Im} {os:List Fr} (h:IE F fs os):os.length=fs.length:=by
 induction fs generalizing os with
 | nil=>rw[show os=[] from h];rfl
 | cons f fs ih=>obtain⟨o,r,rfl,_,h3⟩:=h;simp[ih h3]
theorem IE.kv {F:List (Nat×Obj)} {fs:List Im} {os:List Fr} (h:IE F fs os) {f:Im} {o:Fr} (k:dS F f o):IE F (fs++[f]) (os++[o]):=by
 induction fs generalizing os with
 | nil=>rw[show os=[] from h];exact⟨o,[],rfl,k,rfl⟩
 | cons f' fs ih=>obtain⟨o',r,rfl,h2,h3⟩:=h;exact⟨o',r++[o],rfl,h2,ih h3⟩
theorem IE.Dg {F:List (Nat×Obj)} {fs:List Im} {os:List Fr} {f:Im} (h:IE F (fs++[f]) os):∃r o,os=r++[o]∧IE F fs r∧dS F f o:=by
 induction fs generalizing os with
 | nil=>obtain⟨o,r,rfl,h2,h3⟩:=h;rw[show r=[] from h3];exact⟨[],o,rfl,rfl,h2⟩
 | cons f' fs ih=>
  obtain⟨o',r,rfl,h2,h3⟩:=h;obtain⟨r',o,rfl,h4,h5⟩:=ih h3;exact⟨o'::r',o,rfl,⟨o',r',rfl,h2,h4⟩,h5⟩
theorem Gg.sub {F E:List (Nat×Obj)} {ts:List Ck} {vs:List Value} (h:Gg F ts vs) (s:∀x,x∈F→x∈E):Gg E ts vs:=by
 induction ts generalizing vs with
 | nil=>exact h
 | cons t r ih=>obtain⟨sl,ws,us,h1,h2,h3,h4⟩:=h;exact⟨sl,ws,us,h1,h2.sub s,h3.sub s,ih h4⟩
theorem Gg.kv {F:List (Nat×Obj)} {ts:List Ck} {vs:List Value} (h:Gg F ts vs) {t:Ck} {sl:Value} {ws:List Value} (k1:D4 F sl ws) (k2:DI F t ws):Gg F (ts++[t]) (vs++[sl]):=by
 induction ts generalizing vs with
 | nil=>rw[show vs=[] from h];exact⟨sl,ws,[],rfl,k1,k2,rfl⟩
 | cons t' r ih=>obtain⟨sl',ws',us,rfl,h2,h3,h4⟩:=h;exact⟨sl',ws',us++[sl],rfl,h2,h3,ih h4⟩
theorem SV.sub {F E:List (Nat×Obj)} {g:FG} {x:qr} (h:SV F g x) (s:∀y,y∈F→y∈E):SV E g x:=by
 obtain⟨⟨ts,t,h1,h2,h3⟩,h4⟩:=h;exact⟨⟨ts,t,h1,h2.sub s,h3.sub s⟩,h4.sub s⟩
theorem DI.Ec {F:List (Nat×Obj)} {t u:Ck} {vs us:List Value} (h:DI F t vs) (k:DI F u us):DI F (t.Ec u) (vs++us):=by
 induction t generalizing vs with
 | nil=>rw[show vs=[] from h];exact k
 | set v op a b r ih=>obtain⟨p,q,rfl,h2,h3⟩:=h;exact⟨p,q++us,rfl,h2,ih h3⟩
 | get v f s a r ih=>obtain⟨p,q,rfl,h2,h3⟩:=h;exact⟨p,q++us,rfl,h2,ih h3⟩
 | put f s i a r ih=>obtain⟨p,q,rfl,h2,h3⟩:=h;exact⟨p,q++us,rfl,h2,ih h3⟩
 | out a r ih=>obtain⟨p,q,rfl,h2,h3⟩:=h;exact⟨p,q++us,rfl,h2,ih h3⟩
 | atomic b r ib ih=>obtain⟨p,q,sl,ws,rfl,h2,h3,h4,h5⟩:=h;exact⟨p,q++us,sl,ws,rfl,h2,h3,h4,ih h5⟩
 | ES a b r ib ih=>obtain⟨p,q,sl,ws,rfl,h2,h3,h4,h5⟩:=h;exact⟨p,q++us,sl,ws,rfl,h2,h3,h4,ih h5⟩
 | loop n b r ib ih=>obtain⟨p,q,sl,ws,rfl,h2,h3,h4,h5⟩:=h;exact⟨p,q++us,sl,ws,rfl,h2,h3,h4,ih h5⟩
theorem AK.eO {w:World} {L:List Ob} {i b:Nat} {o:Obj} (h:AK w L) (hi:L[i]?=some (.PN b o)) (o':Obj):
  Ad w L {w with heap:=w.heap.setIfInBounds b o'} (L.set i (.PN b o')):=by
 have hb:=BA (h.get hi);refine h.swap hi ⟨rfl,rfl,rfl,by simp,fun j hj BQ=> ?_⟩ ?_ (by simp[Ob.fp]) (fun _ hb=> .inl hb)
 ·show(w.heap.setIfInBounds b o')[j]?=_;rw[Array.getElem?_setIfInBounds_ne];intro e;exact BQ (by simp[Ob.fp,e])
 ·show(w.heap.setIfInBounds b o')[b]?=some o';rw[Array.getElem?_setIfInBounds_self];simp[hb]
theorem Nt {w:World} {A B:List Ob} {F:List (Nat×Obj)} {v:Value} {e:TypeId} {n:Nat} {xs:List Value} (h:AK w (A++ .row v e 1 n xs::B)) (K:Ba w (A++ .row v e 1 n xs::B) F):
  ∃E,Ba w (A++B) (E++F)∧D4 (E++F) v xs:=by
 have hr:w.ownsRow 0 e 1 v n xs:=h.holds _ (List.mem_append_right _ (List.mem_cons_self ..));have vc:∀b,b∈En (A++B)→b∈En (A++ .row v e 1 n xs::B):=fun b hb=>by
  rw[Bd,List.mem_append] at hb⊢;rw[FB,List.mem_append];rcases hb with hb | hb
  ·exact .inl hb
  ·exact .inr (.inr hb)
 have K0:Ba w (A++B) F:=⟨K.heap,fun b o hb hl=>K.out b o hb (vc b hl)⟩;obtain⟨hl,⟨rfl,h0⟩ | ⟨g,cap,cur,rfl,h1,h2,h3,h4,h5,h6⟩⟩:=hr
 ·refine⟨[],K0,.inl ⟨?_,none,0,rfl⟩⟩;exact List.eq_nil_of_length_eq_zero (by rw[hl,h0])
 ·refine⟨[(g,Obj.cells cur e (0,0))],Ba.Gq K0 ⟨fun b o hb=> ?_,fun b o hb hm=> ?_⟩,.inr ⟨g,cap,e,cur,?_,List.mem_append_left _ (List.mem_singleton.2 rfl),?_⟩⟩
  ·rw[List.mem_singleton] at hb;cases hb;exact h2
  ·rw[List.mem_singleton] at hb;cases hb;have hn:=h.Kw;rw[Bd,FB,List.nodup_append,List.nodup_append] at hn;obtain⟨_,⟨_,_,n4⟩,n5⟩:=hn;rw[Bd,List.mem_append] at hm;have hg:g∈(Ob.row (.slice (some ⟨g,0,none⟩) n cap) e 1 n xs).fp:=by simp[Ob.fp,Value.ownBlock]
   rcases hm with hm | hm
   ·exact n5 g hm g (List.mem_append_left _ hg) rfl
   ·exact n4 g hg g hm rfl
  ·rw[hl,Nat.mul_one]
  ·rw[hl];exact h6.symm
structure FF (w:World) (g:FG) (x:qr) (wv:Value) (Ae:Int):Prop where
 c:∀i:Nat,w.cell? ⟨g.xb,i,none⟩=(#[wv,.int .i64 Ae,.pointer (some ⟨g.pb,0,none⟩),.map (some g.sb),.map (some g.lb),.slice (some ⟨g.ob,0,none⟩) (g.fr.length+1) g.oc,.int .i64 x.Am]:Array Value)[i]?
 f:∀i:Nat,w.frozen? ⟨g.xb,i,none⟩=false
 lt:g.xb < w.heap.size
 pc:∀i:Nat,w.cell? ⟨g.pb,i,none⟩=(#[.slice (some ⟨g.tb,0,none⟩) (g.tv.length+1) g.tc,.int .i64 x.cells]:Array Value)[i]?
 pf:∀i:Nat,w.frozen? ⟨g.pb,i,none⟩=false
 zY:g.pb < w.heap.size
 sh:w.heap[g.sb]?=some (G9 (Fv x.Aw))
 lo:w.heap[g.lb]?=some (G9 (FU x.AB))
theorem Ge {w:World} {g:FG} {x:qr} {wv:Value} {Ae:Int} (h:AK w (g.Ax x wv Ae)):FF w g x wv Ae:=by
 have h0:=h.AP (i:=0) rfl;have h1:=h.AP (i:=1) rfl;exact⟨h0.cell,h0.free,h0.lt,h1.cell,h1.free,h1.lt,h.get (i:=2) rfl,h.get (i:=4) rfl⟩
structure FF0 (w:World) (g:FG) (x:qr) (wv:Value) (Ae:Int):Prop where
 c:∀i:Nat,w.cell? ⟨g.xb,i,none⟩=(#[wv,.int .i64 Ae,.pointer (some ⟨g.pb,0,none⟩),.map (some g.sb),.map none,.slice none 0 0,.int .i64 0]:Array Value)[i]?
 f:∀i:Nat,w.frozen? ⟨g.xb,i,none⟩=false
 lt:g.xb < w.heap.size
 pc:∀i:Nat,w.cell? ⟨g.pb,i,none⟩=(#[.slice none 0 0,.int .i64 x.cells]:Array Value)[i]?
 pf:∀i:Nat,w.frozen? ⟨g.pb,i,none⟩=false
 zY:g.pb < w.heap.size
 sh:w.heap[g.sb]?=some (G9 (Fv x.Aw))
theorem SD {w:World} {g:FG} {x:qr} {wv:Value} {Ae:Int} (h:AK w (g.fF x wv Ae)):FF0 w g x wv Ae:=by
 have h0:=h.AP (i:=0) rfl;have h1:=h.AP (i:=1) rfl;exact⟨h0.cell,h0.free,h0.lt,h1.cell,h1.free,h1.lt,h.get (i:=2) rfl⟩
theorem UN {a b:ByteArray}:bs a=bs b↔a=b:=⟨fun h=>Lu h,fun h=>by rw[h]⟩
theorem RH (n:ByteArray):∀(l:List ByteArray) (k:Nat),((l.mapIdx fun i (m:ByteArray)=>(m,Value.int .i64 ((i+k:Nat):Int))).find? fun p=>decide (p.1=n)).map (·.2)=if 0≤DC l n k then some (.int .i64 (DC l n k)) else none
 | [],k=>rfl
 | a::l,k=>by
  rw[List.mapIdx_cons,List.find?_cons];unfold DC;by_cases h:a=n
  ·subst h;rw[if_pos rfl,if_pos (by omega)];simp
  ·rw[if_neg (fun e=>h (Lu e))];simp only[h,decide_false];rw[←RH n l (k+1)];congr 3;funext i m;rw[show i+1+k=i+(k+1) by omega]
theorem Z4 (l:List ByteArray) (n:ByteArray):Ts (FU l) n=if 0≤Bf l n then some (.int .i64 (Bf l n)) else none:=RH n l 0
theorem Z3 (l:List XL) (n:ByteArray):Ts (Fv l) n=(l.find? fun s=>decide (bs s.name=bs n)).map fun s=> .agg #[.int .i64 s.first,.int .i64 s.size]:=by
 unfold Ts Fv;induction l with
 | nil=>rfl
 | cons a l ih=>
  rw[List.map_cons,List.find?_cons,List.find?_cons];simp only[UN];by_cases h:a.name=n
  ·simp[h]
  ·simp only[h,decide_false];simp only[UN] at ih;exact ih
theorem Z6 {W:World} {b:Nat} {l:List ByteArray} (h:W.heap[b]?=some (G9 (FU l))) (n:ByteArray):(Instr.lookup 148 (.map (some b)) (.string n) true).run Tryz.prog W= .ok (.tuple #[.int .i64 (if 0≤Bf l n then Bf l n else 0),.bool (decide (0≤Bf l n))]) W:=by
 rw[LR (k:=9) (e:=3) (by kernel_rfl) (by kernel_rfl) (z:= .int .i64 0) (by kernel_rfl) h n true,Z4];by_cases hp:0≤Bf l n <;>simp[hp]
theorem QM {W:World} {b:Nat} {l:List XL} (h:W.heap[b]?=some (G9 (Fv l))) (n:ByteArray):(Instr.lookup 147 (.map (some b)) (.string n) true).run Tryz.prog W= .ok (.tuple #[((l.find? fun s=>decide (bs s.name=bs n)).map fun s=>Value.agg #[.int .i64 s.first,.int .i64 s.size]).getD (.agg #[.int .i64 0,.int .i64 0]),.bool (l.find? fun s=>decide (bs s.name=bs n)).isSome]) W:=by
 rw[LR (k:=9) (e:=200) (by kernel_rfl) (by kernel_rfl) (z:= .agg #[.int .i64 0,.int .i64 0]) (by kernel_rfl) h n true,Z3];simp
theorem RX {s:ByteArray} (h0:¬s.size=0):s.toList.isEmpty=false:=by
 cases h:s.toList with
 | nil=>rw[ByteArray.toList_eq] at h;exact absurd ((Bu s).symm.trans (congrArg List.length h)) h0
 | cons a l=>rfl
theorem nO {W:World} {b:Nat} {l:List ByteArray} (h:W.heap[b]?=some (G9 (FU l))) (ty:TypeId):(Builtin.len_ #[148] ty #[.map (some b)]).run Tryz.prog W= .ok (.int .i64 l.length) W:=by
 have hl:(FU l).length=l.length:=by simp[FU]
 unfold G9 at h;have hu:Tryz.prog.underlying 148=some (.map 9 3):=by kernel_rfl
 simp[Builtin.len_,run_underlying hu,MapKept.run_getObj_map h,goInt,Result.andThen,RJ,hl]
theorem WZ (l:List ByteArray) (n:ByteArray):FU (l++[n])=FU l++[(n,.int .i64 (l.length:Int))]:=by simp[FU,List.mapIdx_append]
theorem nw {W:World} {b:Nat} {l:List ByteArray} (h:W.heap[b]?=some (G9 (FU l))) (n:ByteArray) (hp:¬0≤Bf l n):(Instr.mapUpdate 148 (.map (some b)) (.string n) (.int .i64 l.length)).run Tryz.prog W= .ok () {W with heap:=W.heap.setIfInBounds b (G9 (FU (l++[n])))}:=by
 rw[WZ];exact JT (k:=9) (e:=3) (by kernel_rfl) (by kernel_rfl) h n _ (by rw[Z4,if_neg hp])
def SY (res:Except Int At) (Ae:Int) (w:World) (e:Ending) (w':World):Prop:=match res with
 | .error c=>Fq [] c Ae w e w'
 | .ok a=>e= .returned (.agg #[.bool a.AL,.int .i64 a.v])∧Av [] w w'
theorem Jj (a:Wd) (w:World) (g:FG) (x:qr) (wv:Value) (Ae:Int) (h:AK w (g.Ax x wv Ae)):
  Calls Tryz.prog 115 #[.pointer (some ⟨g.xb,0,none⟩),a.val] w (SY (x.CA a) Ae w):=by
 obtain⟨hc,hf,Bi,_,_,_,_,Qs⟩:=Ge h;obtain⟨nm,v⟩:=a;have Nb:(⟨nm,v⟩:Wd).val= .agg #[.string nm,.int .i64 v]:=rfl;rw[Nb];clear Nb h;by_cases h0:nm.size=0
 ·have hr:x.CA ⟨nm,v⟩= .ok ⟨false,v⟩:=by unfold qr.CA;exact if_pos h0
  have Y3:nm=⟨#[]⟩:=ByteArray.ext (Array.eq_empty_of_size_eq_zero h0);have Hr:=hid hr;subst Y3;clear hr h0;go_enter Tryz.func115,Tryz.ntmps115;go_wp2_with fail;refine bodyPost_ret (v:= .agg #[.bool false,.int .i64 v]) (by simp[results,Tryz.results115,go_sem]) rfl ?_;rw[Hr.out];exact⟨rfl,((Av.refl _ _).alloc _).alloc _⟩
 ·have Y3:nm.toList.isEmpty=false:=RX h0;have LK:∀W:World,W.heap[g.lb]?=some (G9 (FU x.AB))→(Instr.lookup 148 (.map (some g.lb)) (.string nm) true).run Tryz.prog W= .ok (.tuple #[.int .i64 (if 0≤Bf x.AB nm then Bf x.AB nm else 0),.bool (decide (0≤Bf x.AB nm))]) W:=fun W h=>Z6 h nm
  have AU:x.CA ⟨nm,v⟩=if 0≤Bf x.AB nm then .ok ⟨true,Bf x.AB nm⟩ else .error 4:=by unfold qr.CA;exact if_neg h0
  have Bg:=hid AU;have Ox:=BA Qs;clear AU h0;by_cases hp:0≤Bf x.AB nm
  ·have Hr:=hid (show x.CA ⟨nm,v⟩= .ok ⟨true,Bf x.AB nm⟩ by rw[Bg.out,if_pos hp]);rw[if_pos hp,decide_eq_true hp] at LK;clear hp Bg;obtain⟨k,hk⟩:∃k,k=Bf x.AB nm:=⟨_,rfl⟩;rw[←hk] at LK Hr;clear hk;go_enter Tryz.func115,Tryz.ntmps115;go_upto_region 3 with fail
   refine Ao (l:=[(0,true),(1,true),(2,true),(3,true),(4,true),(5,true),(6,true),(7,true),(8,true),(9,true),(10,true),(11,false)]) (fun W=>W.cell? ⟨g.xb,4,none⟩=some (.map (some g.lb))∧W.heap[g.lb]?=some (G9 (FU x.AB))∧W.cell? ⟨w.heap.size,0,none⟩=some (.string nm)) 11 (by kernel_rfl) (by kernel_rfl) (by kernel_rfl) (by kernel_rfl) (by kernel_rfl) (fun c a d v w h=>by cases d <;>exact h) ?_ ?_
   ·exact⟨by go_simp,((((Av.refl [] w).alloc _).alloc _).drew).heap Qs (by simp),by go_simp⟩
   repeat
    refine Ak (v:= ?_) rfl rfl rfl (fun W hW=> ?_) ?_;rotate_left
    ·obtain⟨s1,s2,s3⟩:=hW;have hl:=LK W s2;go_simp;rfl
    simp only[Bo]
   refine Ab rfl (fun K hK=> ?_);go_simp;refine hK _ _ (fun h=>absurd rfl h) ?_;clear hK;simp only[A0];go_wp2_with fail;refine bodyPost_ret (v:= .agg #[.bool true,.int .i64 k]) (by simp[results,Tryz.results115,go_sem]) rfl ?_;rw[Hr.out];exact⟨rfl,(((Av.refl _ _).alloc _).alloc _).drew⟩
  ·have Hr:=hid (show x.CA ⟨nm,v⟩= .error 4 by rw[Bg.out,if_neg hp]);rw[if_neg hp,decide_eq_false hp] at LK;clear hp Bg;go_enter Tryz.func115,Tryz.ntmps115;go_upto_region 3 with fail
   refine Ao (l:=[(0,true),(1,true),(2,true),(3,true),(4,true),(5,true),(6,true),(7,true),(8,true),(9,true),(10,true),(11,false)]) (fun W=>W.cell? ⟨g.xb,4,none⟩=some (.map (some g.lb))∧W.heap[g.lb]?=some (G9 (FU x.AB))∧W.cell? ⟨w.heap.size,0,none⟩=some (.string nm)) 11 (by kernel_rfl) (by kernel_rfl) (by kernel_rfl) (by kernel_rfl) (by kernel_rfl) (fun c a d v w h=>by cases d <;>exact h) ?_ ?_
   ·exact⟨by go_simp,((((Av.refl [] w).alloc _).alloc _).drew).heap Qs (by simp),by go_simp⟩
   repeat
    refine Ak (v:= ?_) rfl rfl rfl (fun W hW=> ?_) ?_;rotate_left
    ·obtain⟨s1,s2,s3⟩:=hW;have hl:=LK W s2;go_simp;rfl
    simp only[Bo]
   refine Ab rfl (fun K hK=> ?_);go_simp;refine hK _ _ (fun h=>absurd rfl h) ?_;clear hK;simp only[A0];go_wp2_with fail;refine(AS _ _ _).mono ?_;rintro e w1 ⟨⟨fb,rfl,hb⟩,hm⟩;go_wp2;rw[Hr.out];exact⟨rfl,⟨fb,rfl,hb⟩,((((Av.refl _ _).alloc _).alloc _).drew).Ac hm⟩
def ZO (res:Except Int (Int×Int×At)) (Ae:Int) (w:World) (e:Ending) (w':World):Prop:=match res with
 | .error c=>Fq [] c Ae w e w'
 | .ok (f,z,a)=>e= .returned (.agg #[.int .i64 f,.int .i64 z,.bool a.AL,.int .i64 a.v])∧Av [] w w'
theorem Ii (w:World) (o:Obj):(w.alloc o).heap.size=w.heap.size+1:=Array.size_push _
theorem Xj {w:World} {b:Nat} {o p q:Obj} (h:w.heap[b]?=some o):((w.alloc p).alloc q).heap[b]?=some o:=(((Av.refl [] w).alloc p).alloc q).heap h (by simp)
theorem L9 {w:World} {b:Nat} {o p:Obj} (h:w.heap[b]?=some o):(w.alloc p).heap[b]?=some o:=((Av.refl [] w).alloc p).heap h (by simp)
theorem UC (n:ByteArray) (a:Wd) (w:World) (g:FG) (x:qr) (wv:Value) (Ae:Int) (h:AK w (g.Ax x wv Ae)):
  Calls Tryz.prog 119 #[.pointer (some ⟨g.xb,0,none⟩),.string n,a.val] w (ZO (x.cell n a) Ae w):=by
 obtain⟨hc,hf,Bi,_,_,_,KO,Qs⟩:=Ge h;have H:=hid h;have LK:=QM (Xj (p:= .cells #[.string a.name,.int .i64 a.v] 230) (q:= .cells #[.int .i64 0,.int .i64 0,.bool false,.int .i64 0] 241) KO) n;have Nb:a.val= .agg #[.string a.name,.int .i64 a.v]:=rfl;have AU:x.cell n a=match x.Aw.find? (fun s=>decide (bs s.name=bs n)) with
  | none=> .error 4
  | some s=>match x.CA a with
   | .error c=> .error c
   | .ok a=> .ok (s.first,s.size,a):=rfl
 have Bg:=hid AU;have Ha:=hid (fun (W:World) (hm:Av [] w W)=>Jj a W g x wv Ae (h.Bh hm (by simp)));rw[Nb] at Ha⊢;have Y7:g.xb < w.heap.size+1:=by omega
 have oD:g.xb < w.heap.size+1+1:=by omega
 clear Nb AU h KO Qs;cases Pd:x.Aw.find? (fun s=>decide (bs s.name=bs n)) with
 | none=>
  rw[Pd] at LK Bg;have Hr:=hid (show x.cell n a= .error 4 from Bg.out);simp only[Option.map_none,Option.getD_none,Option.isSome_none] at LK;clear Pd Bg;go_enter Tryz.func119,Tryz.ntmps119;go_wp2_with fail;refine(AS _ _ _).mono ?_;rintro e w1 ⟨⟨fb,rfl,hb⟩,hm⟩;go_wp2;rw[Hr.out];exact⟨rfl,⟨fb,rfl,hb⟩,((((Av.refl _ _).alloc _).alloc _).alloc _).Ac hm⟩
 | some s=>
  rw[Pd] at LK Bg;have Hr:=hid (show x.cell n a=match x.CA a with | .error c=> .error c | .ok a=> .ok (s.first,s.size,a) from Bg.out);simp only[Option.map_some,Option.getD_some,Option.isSome_some] at LK;clear Pd Bg;go_enter Tryz.func119,Tryz.ntmps119;go_upto_region 4 with fail
  refine Ao (l:=[(0,true),(1,true),(2,true),(3,true),(4,true),(5,true),(6,false),(7,true),(8,false)]) (fun W=>W.cell? ⟨w.heap.size,0,none⟩=some (.string a.name)∧W.cell? ⟨w.heap.size,1,none⟩=some (.int .i64 a.v)∧W.cell? ⟨w.heap.size+1+1,0,none⟩=some (.int .i64 s.first)∧W.cell? ⟨w.heap.size+1+1,1,none⟩=some (.int .i64 s.size)) 8 (by kernel_rfl) (by kernel_rfl) (by kernel_rfl) (by kernel_rfl) (by kernel_rfl) (fun c a d v w h=>by cases d <;>exact h) ?_ ?_
  ·exact⟨by go_simp,by go_simp,by go_simp,by go_simp⟩
  repeat
   refine Ak (v:= ?_) rfl rfl rfl (fun W hW=> ?_) ?_;rotate_left
   ·obtain⟨s1,s2,s3,s4⟩:=hW;go_simp;rfl
   simp only[Bo]
  refine Ab rfl (fun K hK=> ?_);go_simp;have V6:=hid (((((Av.refl [] w).alloc (.cells #[.string a.name,.int .i64 a.v] 230)).alloc (.cells #[.int .i64 0,.int .i64 0,.bool false,.int .i64 0] 241)).alloc (.cells #[.int .i64 s.first,.int .i64 s.size] 200)).drew);refine(Ha.out _ V6.out).mono ?_;intro e w1 he;unfold SY at he;cases ha:x.CA a with
  | error c=>
   rw[ha] at he;obtain⟨⟨fb,rfl,hb⟩,hm⟩:=he;have Il:=hid (show x.cell n a= .error c by rw[Hr.out,ha]);clear ha;rw[Il.out];exact⟨rfl,⟨fb,rfl,hb⟩,V6.out.Ac hm⟩
  | ok b=>
   rw[ha] at he;obtain⟨rfl,hm⟩:=he;have Il:=hid (show x.cell n a= .ok (s.first,s.size,b) by rw[Hr.out,ha]);have B1:BR w1 w.heap.size #[.string a.name,.int .i64 a.v] 230:=((((BR.new w _ _).alloc _).alloc _).drew).Bh hm (by simp);have B2:BR w1 (w.heap.size+1) #[.int .i64 0,.int .i64 0,.bool false,.int .i64 0] 241:=by
    have:=BR.new (w.alloc (.cells #[.string a.name,.int .i64 a.v] 230)) #[.int .i64 0,.int .i64 0,.bool false,.int .i64 0] 241;rw[show(w.alloc (.cells #[.string a.name,.int .i64 a.v] 230)).heap.size=w.heap.size+1 from Array.size_push _] at this;exact((this.alloc _).drew).Bh hm (by simp)
   have B3:BR w1 (w.heap.size+1+1) #[.int .i64 s.first,.int .i64 s.size] 200:=by
    have:=BR.new ((w.alloc (.cells #[.string a.name,.int .i64 a.v] 230)).alloc (.cells #[.int .i64 0,.int .i64 0,.bool false,.int .i64 0] 241)) #[.int .i64 s.first,.int .i64 s.size] 200;rw[show((w.alloc (.cells #[.string a.name,.int .i64 a.v] 230)).alloc (.cells #[.int .i64 0,.int .i64 0,.bool false,.int .i64 0] 241)).heap.size=w.heap.size+1+1 by rw[Ii,Ii]] at this;exact this.drew.Bh hm (by simp)
   refine hK _ w1 (fun _=>⟨B1.cell 0,B1.cell 1,B3.cell 0,B3.cell 1⟩) ?_;clear hK ha;have rc:=B2.cell;have rf:=B2.free;have rl:=B2.lt;clear B1 B2 B3;repeat
    refine Ak (v:= ?_) rfl rfl rfl (fun W hW=> ?_) ?_;rotate_left
    ·obtain⟨s1,s2,s3,s4⟩:=hW;go_simp;rfl
    simp only[Bo]
   refine Ab rfl (fun K hK=> ?_);go_simp;refine hK _ _ (fun h=>absurd rfl h) ?_;clear hK;simp only[A0];go_wp2_with fail;refine bodyPost_ret (v:= .agg #[.int .i64 s.first,.int .i64 s.size,.bool b.AL,.int .i64 b.v]) (by simp[results,Tryz.results119,go_sem,rc,rf,rl]) rfl ?_;rw[Il.out];exact⟨rfl,(((((V6.out.Ac hm).setCell (.inr (Nat.le_succ _)) _).setCell (.inr (Nat.le_succ _)) _).setCell (.inr (Nat.le_succ _)) _).setCell (.inr (Nat.le_succ _)) _)⟩
def ZI (res:Except Int (Int×qr)) (g:FG) (x:qr) (wv:Value) (Ae:Int) (w:World) (e:Ending) (w':World):Prop:=match res with
 | .error c=>Fq [] c Ae w e w'
 | .ok (v,y)=>e= .returned (.int .i64 v)∧Ad w (g.Ax x wv Ae) w' (g.Ax y wv Ae)
theorem SC (n:ByteArray) (w:World) (g:FG) (x:qr) (wv:Value) (Ae:Int) (h:AK w (g.Ax x wv Ae)):
  Calls Tryz.prog 116 #[.pointer (some ⟨g.xb,0,none⟩),.string n] w (ZI (x.Dd n) g x wv Ae w):=by
 obtain⟨hc,hf,Bi,_,_,_,KO,Qs⟩:=Ge h;have LK:=QM KO n;have AU:x.Dd n=if (x.Aw.find? fun s=>decide (bs s.name=bs n)).isSome then .error 4 else if 0≤Bf x.AB n then .ok (Bf x.AB n,x) else if x.AB.length=4 then .error 5 else .ok (x.AB.length,{x with AB:=x.AB++[n]}):=rfl
 have H:=hid h;have Bg:=hid AU;have xH:=hid Qs;clear h AU Qs KO;cases Pd:x.Aw.find? (fun s=>decide (bs s.name=bs n)) with
 | some s=>
  rw[Pd] at LK Bg;have Hr:=hid (show x.Dd n= .error 4 from Bg.out);simp only[Option.map_some,Option.getD_some,Option.isSome_some] at LK;clear Pd Bg;go_enter Tryz.func116,Tryz.ntmps116;go_wp2_with fail;refine(AS _ _ _).mono ?_;rintro e w1 ⟨⟨fb,rfl,hb⟩,hm⟩;go_wp2;rw[Hr.out];exact⟨rfl,⟨fb,rfl,hb⟩,((Av.refl _ _).alloc _).Ac hm⟩
 | none=>
  rw[Pd] at LK Bg;simp only[Option.map_none,Option.getD_none,Option.isSome_none] at LK;have yL:=Z6 (L9 (p:= .cells #[.int .i64 0,.int .i64 0] 200) xH.out) n;by_cases hp:0≤Bf x.AB n
  ·have Hr:=hid (show x.Dd n= .ok (Bf x.AB n,x) by rw[Bg.out];exact if_pos hp);rw[if_pos hp,decide_eq_true hp] at yL;clear hp Bg Pd;go_enter Tryz.func116,Tryz.ntmps116;go_wp2;go_ret;rw[Hr.out];exact⟨rfl,Ad.alloc H.out _⟩
  ·rw[if_neg hp,decide_eq_false hp] at yL;have Xd:=nO (L9 (p:= .cells #[.int .i64 0,.int .i64 0] 200) xH.out) 3;by_cases mG:x.AB.length=4
   ·have Hr:=hid (show x.Dd n= .error 5 by rw[Bg.out];exact(if_neg hp).trans (if_pos mG));clear Bg Pd hp;go_enter Tryz.func116,Tryz.ntmps116;go_wp2_with fail;refine(AS _ _ _).mono ?_;rintro e w1 ⟨⟨fb,rfl,hb⟩,hm⟩;go_wp2;rw[Hr.out];exact⟨rfl,⟨fb,rfl,hb⟩,((Av.refl _ _).alloc _).Ac hm⟩
   ·have Hr:=hid (show x.Dd n= .ok (x.AB.length,{x with AB:=x.AB++[n]}) by rw[Bg.out];exact(if_neg hp).trans (if_neg mG));have tR:=nw (L9 (p:= .cells #[.int .i64 0,.int .i64 0] 200) xH.out) n hp;have Aav:((x.AB.length:Int)==4)=false:=by rw[beq_eq_false_iff_ne];omega
    clear Bg Pd hp mG;go_enter Tryz.func116,Tryz.ntmps116;go_wp2_with fail;go_ret;rw[Hr.out];exact⟨rfl,(Ad.alloc H.out _).trans ((Ad.alloc H.out _).Al.eO (i:=4) rfl _)⟩
def qr.depth (x:qr):Nat:=x.Ai.length
def jx (res:Option Int) (Ae:Int) (w:World) (e:Ending) (w':World):Prop:=match res with
 | some c=>Fq [] c Ae w e w'
 | none=>e= .returned (.tuple #[])∧Av [] w w'
theorem dq (w:World) (g:FG) (x:qr) (wv:Value) (Ae:Int) (h:AK w (g.Ax x wv Ae)) (hl:g.fr.length≤100):
  Calls Tryz.prog 75 #[.pointer (some ⟨g.xb,0,none⟩)] w (jx (if 0 < g.fr.length then some 3 else none) Ae w):=by
 obtain⟨hc,hf,Bi,_,_,_,KO,Qs⟩:=Ge h;clear h;by_cases h0:0 < g.fr.length
 ·have h1:(1:Int) < (g.fr.length:Int)+1:=by omega
  rw[if_pos h0];clear h0;go_enter Tryz.func75,Tryz.ntmps75;go_wp2_with fail;refine(AS _ _ _).mono ?_;rintro e w1 ⟨⟨fb,rfl,hb⟩,hm⟩;go_wp2;exact⟨rfl,⟨fb,rfl,hb⟩,hm⟩
 ·have h1:¬(1:Int) < (g.fr.length:Int)+1:=by omega
  rw[if_neg h0];clear h0;go_enter Tryz.func75,Tryz.ntmps75;go_wp2
  go_end0
  exact⟨rfl,Av.refl _ _⟩
theorem Zk (w:World) (g:FG) (x:qr) (wv:Value) (Ae:Int) (h:AK w (g.fF x wv Ae)):
  Calls Tryz.prog 75 #[.pointer (some ⟨g.xb,0,none⟩)] w (jx none Ae w):=by
 obtain⟨hc,hf,Bi,_,_,_,KO⟩:=SD h;clear h;go_enter Tryz.func75,Tryz.ntmps75;go_wp2
 go_end0
 exact⟨rfl,Av.refl _ _⟩
theorem YF (g:FG):g.C5.length=3*(g.fr.length+1):=by
 have:∀l:List Im,(l.flatMap Im.cells).length=3*l.length:=by
  intro l;induction l with
  | nil=>rfl
  | cons f l ih=>rw[List.flatMap_cons,List.length_append,ih];simp[Im.cells];omega
 simp[FG.C5,this];omega
theorem sJ (l:List Im) (j:Nat) (f:Im) (hj:l[j]?=some f) (i:Nat) (hi:i < 3):(l.flatMap Im.cells)[3*j+i]?=f.cells[i]?:=by
 induction l generalizing j with
 | nil=>simp at hj
 | cons a l ih=>
  cases j with
  | zero=>
   simp only[List.getElem?_cons_zero,Option.some.injEq] at hj;subst hj;rw[List.flatMap_cons,List.getElem?_append_left (by simp[Im.cells];omega)];simp
  | succ j=>
   rw[List.flatMap_cons,List.getElem?_append_right (by simp[Im.cells];omega),show 3*(j+1)+i - a.cells.length=3*j+i by simp[Im.cells];omega];exact ih j (by simpa using hj)
theorem O1 (g:FG) (j:Nat) (f:Im) (hj:g.fr[j]?=some f) (i:Nat) (hi:i < 3):g.C5[3*(j+1)+i]?=f.cells[i]?:=by
 unfold FG.C5;rw[List.getElem?_append_right (by simp;omega),show 3*(j+1)+i - [Value.pointer (some ⟨g.tb,g.tv.length,none⟩),.nilFunc,.bool false].length=3*j+i by simp;omega];exact sJ g.fr j f hj i hi
def FG.SM (g:FG) (k:Nat):Bool:=match k with
 | 0=>false
 | k+1=>((g.fr[k]?).map Im.AP).getD false
theorem Vo (g:FG) (k:Nat) (hk:k≤g.fr.length):∃p,g.C5[k*3]?=some (.pointer p)∧(g.C5[k*3+1]?=some .nilFunc∨∃f c,g.C5[k*3+1]?=some (.func f #[] c))∧g.C5[k*3+2]?=some (.bool (g.SM k)):=by
 cases k with
 | zero=>exact⟨_,rfl,.inl rfl,rfl⟩
 | succ j=>
  have hj:g.fr[j]?=some g.fr[j]:=List.getElem?_eq_getElem (by omega);have h:=O1 g j _ hj;refine⟨_,(show g.C5[(j+1)*3]?=_ from by rw[show(j+1)*3=3*(j+1)+0 by omega,h 0 (by omega)];rfl),.inr ⟨_,_,(show g.C5[(j+1)*3+1]?=_ from by rw[show(j+1)*3+1=3*(j+1)+1 by omega,h 1 (by omega)];rfl)⟩,?_⟩;rw[show(j+1)*3+2=3*(j+1)+2 by omega,h 2 (by omega)];simp[FG.SM,hj,Im.cells]
theorem aI (g:FG):(g.fr.any Im.AP=true↔∃k,k≤g.fr.length∧g.SM k=true):=by
 rw[List.any_eq_true];constructor
 ·rintro⟨f,hf,hb⟩;obtain⟨j,hj,rfl⟩:=List.getElem_of_mem hf;exact⟨j+1,by omega,by simp[FG.SM,hj,hb]⟩
 ·rintro⟨k,hk,hb⟩;cases k with
  | zero=>cases hb
  | succ j=>
   have hj:g.fr[j]?=some g.fr[j]:=List.getElem?_eq_getElem (by omega);exact⟨_,List.getElem_mem (by omega:j < g.fr.length),by simpa[FG.SM,hj] using hb⟩
theorem Md (w:World) (g:FG) (x:qr) (wv:Value) (Ae:Int) (h:AK w (g.Ax x wv Ae)) (hl:g.fr.length≤100):
  Calls Tryz.prog 129 #[.pointer (some ⟨g.xb,0,none⟩)] w (pL (g.fr.any Im.AP) w):=by
 obtain⟨hc,hf,Bi,_,_,_,KO,Qs⟩:=Ge h;obtain⟨tcl,tf,tl⟩:=BP (h.row (i:=5) rfl);have Ht:=hid tcl;have JD:(0:Int)≤(g.fr.length:Int)+1:=by omega
 clear h KO Qs tf tcl;go_enter Tryz.func129,Tryz.ntmps129;go_wp2;go_loopw [10] (fun i wr=>∃k:Nat,i= .int .i64 k∧k≤g.fr.length+1∧(∀j,j < k→g.SM j=false)∧Av [] w wr) (fun i _=>g.fr.length+1 - (intOf i).toNat);case atStart=>exact⟨0,rfl,Nat.zero_le _,fun j hj=>by omega,Av.refl _ _⟩
 case round=>
  obtain⟨k,rfl,hk,FV,hm⟩:=hrel;by_cases QP:(k:Int) < (g.fr.length:Int)+1
  ·obtain⟨p,e0,e1,e2⟩:=Vo g k (by omega);have cc:∀(i:Nat) (v:Value),g.C5[i]?=some v→wr.cell? ⟨g.ob,i,none⟩=some v:=fun i v e=>by
    obtain⟨h1,h2⟩:=List.getElem?_eq_some_iff.1 e;have:=Ht.out i h1;rw[h2] at this;exact BB hm this
   have c0:=cc _ _ e0;have c2:=cc _ _ e2;have Tw:(0:Int)≤(k:Int):=by omega
   have Hm:=hid hm;have TF:=hid FV;have inc:True→wrap64 ((k:Int)+1)=k+1:=fun _=>IntWalk.wrap64_in _ (by omega)
   rcases e1 with e1 | ⟨fn,cap,e1⟩;all_goals (
     have c1:=cc _ _ e1;clear hm FV cc e0 e1 e2 hc;cases hb:g.SM k with
     | true=>
       rw[hb] at c2;have Hr:=hid (show g.fr.any Im.AP=true from(aI g).2 ⟨k,by omega,hb⟩);clear hb;go_wp2;go_ret;rw[Hr.out];exact⟨rfl,Hm.out.alloc _⟩
     | false=>
       rw[hb] at c2;have Hb:=hid hb;clear hb;go_wp2;go_roundw;case rel=>exact⟨k+1,rfl,by omega,fun j hj=>by rcases Nat.lt_succ_iff_lt_or_eq.1 hj with h1 | h1;exact TF.out j h1;exact h1▸Hb.out,Hm.out.alloc _⟩
       case measure=>simp[intOf];omega)
  ·have Hr:=hid (show g.fr.any Im.AP=false by
      cases ha:g.fr.any Im.AP with
      | false=>rfl
      | true=>obtain⟨j,h1,h2⟩:=(aI g).1 ha;rw[FV j (by omega)] at h2;cases h2)
   have Hm:=hid hm;clear hm FV hc;go_wp2;go_ret;rw[Hr.out];exact⟨rfl,Hm.out⟩
theorem cC:(Tryz.prog.info? 208).map (fun i=>(i.zero,i.size,i.bytes))=some (some .nilIface,1,16):=by kernel_rfl
theorem UD (T:TypeId) (u:Value) (w:World) (L:List Ob) (xb ob n oc ab ao m sc k:Nat) (sp:Option Addr) (xs:List Value) (h:AK w L) (c5:w.cell? ⟨xb,5,none⟩=some (.slice (some ⟨ob,0,none⟩) (n+1) oc)) (hn:n≤100)
  (cO:w.cell? ⟨ob,n*3,none⟩=some (.pointer (some ⟨ab,ao,none⟩))) (hk:L[k]?=some (.row (.slice sp m sc) 208 1 m xs)) (hm:m≤1000) (hp:w.cell? ⟨ab,ao,none⟩=some (.slice sp m sc))
  (mz:∀g9 IL w9,Ad w L w9 (L.set k (.row (.slice (some ⟨g9,0,none⟩) (m+1) IL) 208 1 (m+1) (xs++[.iface T u])))→w9.cell? ⟨ab,ao,none⟩=some (.slice sp m sc)∧w9.frozen? ⟨ab,ao,none⟩=false∧ab < w9.heap.size):
  Calls Tryz.prog 100 #[.pointer (some ⟨xb,0,none⟩),.iface T u] w (fun e w'=>e= .returned (.tuple #[])∧∃g9 IL w9,Ad w L w9 (L.set k (.row (.slice (some ⟨g9,0,none⟩) (m+1) IL) 208 1 (m+1) (xs++[.iface T u])))∧w'=w9.setCell ⟨ab,ao,none⟩ (.slice (some ⟨g9,0,none⟩) (m+1) IL)):=by
 obtain⟨j0,hj,I9,EK,JW⟩:=info_parts cC;have H:=hid h;have Hk:=hid hk;have tj:=hid mz;have Gb:(0:Int)≤(n:Int):=by omega
 have Kc:(n:Int) < (n:Int)+1:=by omega
 have DK:True→IntKind.i64.wrap (n:Int)=n:=fun _=>IntWalk.i64_in _ (by omega)
 clear h hk mz;go_enter Tryz.func100,Tryz.ntmps100;go_upto_region 0 with fail
 refine Ao (l:=[(0,true),(1,true),(2,true),(3,true),(4,true),(5,true),(6,true),(7,true),(8,true),(9,true),(10,true),(11,true),(12,true),(13,false)]) (fun W=>W.cell? ⟨xb,5,none⟩=some (.slice (some ⟨ob,0,none⟩) (n+1) oc)∧W.cell? ⟨ob,n*3,none⟩=some (.pointer (some ⟨ab,ao,none⟩))) 13 (by kernel_rfl) (by kernel_rfl) (by kernel_rfl) (by kernel_rfl) (by kernel_rfl) (fun c a d v w h=>by cases d <;>exact h) ⟨c5,cO⟩ ?_;repeat
  refine Ak (v:= ?_) rfl rfl rfl (fun W hW=> ?_) ?_;rotate_left
  ·obtain⟨s1,s2⟩:=hW;go_simp;rfl
  simp only[Bo]
 refine Ab rfl (fun K hK=> ?_);go_simp;refine hK _ _ (fun h=>absurd rfl h) ?_;clear hK;simp only[A0];have S:=hid (Ad.drew H.out);have hlen:m+1≤maxLen:=by unfold maxLen;omega
 have oZ:(m+1)*16≤140737488355328:=by omega
 clear DK;go_wp2_with (first | (at_builtin;refine CH 16 _ _ _ j0 _ #[.iface T u] _ S.out.Al (k:=k) (v:= .slice sp m sc) (xs:=xs) (n:=m) (e:=208) (size:=1) Hk.out (by rfl) (by rfl) Tryz.underlying165 hj I9 EK JW rfl Nat.zero_lt_one (by rfl) (by rfl) rfl (by simp[Value.oneCell']) hlen oZ ?_;intro g6 Bb w6 AI _;obtain⟨q1,q2,q3⟩:=tj.out g6 Bb w6 (S.out.trans AI);have qq:=hid (S.out.trans AI);clear AI) | fail)
 go_end0
 exact⟨rfl,g6,Bb,w6,qq.out,rfl⟩
structure SW (g:FG):Prop where
 cs:g.cs.length≤1000
 us:∀f,f∈g.fr→f.us.length≤1000
 fr:g.fr.length≤100
def aL (y:qr) (F:List (Nat×Obj)) (g:FG) (x:qr) (wv:Value) (Ae:Int) (w:World) (e:Ending) (w':World):Prop:=
 e= .returned (.tuple #[])∧∃g',g'.xb=g.xb∧Ad w (g.Ax x wv Ae) w' (g'.Ax y wv Ae)∧SV F g' y
def FG.Ks (g:FG) (x:qr) (wv:Value) (Ae:Int):List Ob:=
 [.AP g.xb #[wv,.int .i64 Ae,.pointer (some ⟨g.pb,0,none⟩),.map (some g.sb),.map (some g.lb),.slice (some ⟨g.ob,0,none⟩) (g.fr.length+1) g.oc,.int .i64 x.Am] 151,
  .AP g.pb #[.slice (some ⟨g.tb,0,none⟩) (g.tv.length+1) g.tc,.int .i64 x.cells] 146,
  .PN g.sb (G9 (Fv x.Aw)),
  .row (.slice (some ⟨g.tb,0,none⟩) (g.tv.length+1) g.tc) 165 1 (g.tv.length+1) (g.tv++[.slice g.c.p g.cs.length g.c.c]),
  .PN g.lb (G9 (FU x.AB)),
  .row (.slice (some ⟨g.ob,0,none⟩) (g.fr.length+1) g.oc) 205 3 (g.fr.length+1) g.C5,
  .row (.slice g.c.p g.cs.length g.c.c) 208 1 g.cs.length g.cs]
theorem Kv (g:FG) (x:qr) (wv:Value) (Ae:Int) {fs:List Im} {f:Im} (h:g.fr=fs++[f]):g.Ax x wv Ae=g.Ks x wv Ae++(.AP f.bb #[.slice f.s.p f.us.length f.s.c] 165:: .row (.slice f.s.p f.us.length f.s.c) 208 1 f.us.length f.us::fs.reverse.flatMap Im.Ax):=by
 show g.Ks x wv Ae++g.fr.reverse.flatMap Im.Ax=_;rw[h,List.reverse_append];rfl
theorem Lh (g:FG) (x:qr) (wv:Value) (Ae:Int) (h:g.fr=[]):g.Ax x wv Ae=g.Ks x wv Ae:=by
 show g.Ks x wv Ae++g.fr.reverse.flatMap Im.Ax=_;rw[h];simp
theorem eN (l:List Value) (a b:Value):(l++[a]).set l.length b=l++[b]:=by
 rw[List.set_append_right _ _ (Nat.le_refl _)];simp
theorem Mg (s:Ck→Ck) (T:TypeId) (u:Value) (w:World) (g:FG) (x:qr) (wv:Value) (Ae:Int) (F:List (Nat×Obj)) (h:AK w (g.Ax x wv Ae)) (hF:SV F g x) (hs:DI F (s .nil) [.iface T u]) (hb:SW g):
  Calls Tryz.prog 100 #[.pointer (some ⟨g.xb,0,none⟩),.iface T u] w (aL (x.add s) F g x wv Ae w):=by
 have hc:=(Ge h).c 5;obtain⟨tcl,_,_⟩:=BP (h.row (i:=5) rfl);obtain⟨⟨ts,t,cI,M8,ht⟩,Qt⟩:=hF;rcases List.eq_nil_or_concat g.fr with LF | ⟨fs,f,LF⟩
 ·have ho:x.Ai=[]:=by rw[LF] at Qt;exact Qt
  have e0:g.C5[g.fr.length*3]?=some (.pointer (some ⟨g.tb,g.tv.length,none⟩)):=by rw[LF];rfl
  obtain⟨e1,e2⟩:=List.getElem?_eq_some_iff.1 e0;have cO:=tcl _ e1;rw[e2] at cO;obtain⟨tcl3,_,_⟩:=BP (h.row (i:=3) rfl);have hp:=tcl3 g.tv.length (by simp);rw[show(g.tv++[Value.slice g.c.p g.cs.length g.c.c])[g.tv.length]'(by simp)= .slice g.c.p g.cs.length g.c.c by simp] at hp;refine(UD T u w _ g.xb g.ob g.fr.length g.oc g.tb g.tv.length g.cs.length g.c.c 6 g.c.p g.cs h hc hb.fr cO rfl hb.cs hp ?_).mono ?_
  ·intro g9 IL w9 AI;obtain⟨c3,f3,l3⟩:=BP (AI.Al.row (i:=3) rfl);have:=c3 g.tv.length (by simp);rw[show(g.tv++[Value.slice g.c.p g.cs.length g.c.c])[g.tv.length]'(by simp)= .slice g.c.p g.cs.length g.c.c by simp] at this;exact⟨this,f3 _,l3⟩
  ·rintro e w' ⟨rfl,g9,IL,w9,AI,rfl⟩;have o8:x.add s={x with Aa:=ts++[t.Ec (s .nil)]}:=by unfold qr.add;rw[ho,cI];simp
   have t1:=AI.Al.Jp (i:=3) rfl g.tv.length (by simp) (.slice (some ⟨g9,0,none⟩) (g.cs.length+1) IL);rw[o8];refine⟨rfl,{g with c:=⟨some ⟨g9,0,none⟩,IL⟩,cs:=g.cs++[.iface T u]},rfl,?_,⟨⟨ts,_,rfl,M8,ht.Ec hs⟩,Qt⟩⟩;have t2:=AI.trans t1;rw[eN] at t2;rw[Lh g x wv Ae LF] at t2⊢;rw[Lh {g with c:=⟨some ⟨g9,0,none⟩,IL⟩,cs:=g.cs++[.iface T u]} _ wv Ae LF];have el:(g.cs++[Value.iface T u]).length=g.cs.length+1:=by simp
   unfold FG.Ks at t2⊢;simp only[el];exact t2
 ·rw[List.concat_eq_append] at LF;rw[LF] at Qt;obtain⟨r,o,II,hr,qg⟩:=Qt.Dg;have hj:g.fr[fs.length]?=some f:=by rw[LF];simp
  have gS:g.fr.length=fs.length+1:=by rw[LF];simp
  have e0:g.C5[g.fr.length*3]?=some (.pointer (some ⟨f.bb,0,none⟩)):=by
   rw[show g.fr.length*3=3*(fs.length+1)+0 by omega,O1 g fs.length f hj 0 (by omega)];rfl
  obtain⟨e1,e2⟩:=List.getElem?_eq_some_iff.1 e0;have cO:=tcl _ e1;rw[e2] at cO;have h':=h;rw[Kv g x wv Ae LF] at h';have hp:=(h'.AP (i:=7) rfl).cell 0;refine(UD T u w _ g.xb g.ob g.fr.length g.oc f.bb 0 f.us.length f.s.c 8 f.s.p f.us h' hc hb.fr cO rfl (hb.us f (by rw[LF];simp)) hp ?_).mono ?_
  ·intro g9 IL w9 AI;have hq:=AI.Al.AP (i:=7) rfl;exact⟨hq.cell 0,hq.free 0,hq.lt⟩
  ·rintro e w' ⟨rfl,g9,IL,w9,AI,rfl⟩;have o8:x.add s={x with Ai:=r++[{o with body:=o.body.Ec (s .nil)}]}:=by unfold qr.add;rw[II];simp
   have t1:=AI.Al.set (i:=7) rfl 0 (.slice (some ⟨g9,0,none⟩) (f.us.length+1) IL);rw[o8];refine⟨rfl,{g with fr:=fs++[{f with s:=⟨some ⟨g9,0,none⟩,IL⟩,us:=f.us++[.iface T u]}]},rfl,?_,⟨⟨ts,t,cI,M8,ht⟩,hr.kv ⟨qg.st.Ec hs,qg.AP,qg.cl⟩⟩⟩;have t2:=AI.trans t1;have el:(f.us++[Value.iface T u]).length=f.us.length+1:=by simp
   have eo:FG.C5 {g with fr:=fs++[{f with s:=⟨some ⟨g9,0,none⟩,IL⟩,us:=f.us++[.iface T u]}]}=g.C5:=by
    unfold FG.C5;rw[LF,List.flatMap_append,List.flatMap_append];rfl
   have en:(fs++[({f with s:=⟨some ⟨g9,0,none⟩,IL⟩,us:=f.us++[.iface T u]}:Im)]).length=g.fr.length:=by rw[LF];simp
   have es:FG.Ks {g with fr:=fs++[{f with s:=⟨some ⟨g9,0,none⟩,IL⟩,us:=f.us++[.iface T u]}]} {x with Ai:=r++[{o with body:=o.body.Ec (s .nil)}]} wv Ae=g.Ks x wv Ae:=by
    unfold FG.Ks;simp only[eo,en]
   rw[Kv {g with fr:=fs++[{f with s:=⟨some ⟨g9,0,none⟩,IL⟩,us:=f.us++[.iface T u]}]} _ wv Ae rfl,es];simp only[el];rw[Kv g x wv Ae LF];exact t2
theorem AK.O2 {w:World} {A B:List Ob} (h:AK w (A++B)) (e:TypeId) (s:Nat):AK w (A++ .row (.slice none 0 0) e s 0 []::B):=by
 refine⟨fun o ho=> ?_,?_⟩
 ·rcases List.mem_append.1 ho with h1 | h1
  ·exact h.holds o (List.mem_append_left _ h1)
  ·rcases List.mem_cons.1 h1 with rfl | h2
   ·exact Db _ _ _ _
   ·exact h.holds o (List.mem_append_right _ h2)
 ·have:=h.Kw;rw[Bd] at this⊢;exact this
theorem Ad.O2 {w:World} {A B:List Ob} (h:AK w (A++B)) (e:TypeId) (s:Nat):Ad w (A++B) w (A++ .row (.slice none 0 0) e s 0 []::B):=
 ⟨h.O2 e s,Av.refl _ _,fun b hb=> .inl (by rw[Bd] at hb⊢;exact hb)⟩
theorem bQ {w w':World} {L S R:List Ob} {b:Nat} (h:Ad w L w' ((S++R)++[.AP b #[.slice none 0 0] 165])):Ad w L w' (S++(.AP b #[.slice none 0 0] 165:: .row (.slice none 0 0) 208 1 0 []::R)):=by
 have p:((S++R)++[Ob.AP b #[.slice none 0 0] 165]).Perm ((S++[Ob.AP b #[.slice none 0 0] 165])++R):=by
  rw[List.append_assoc,List.append_assoc];exact List.Perm.append_left S List.perm_append_comm
 have t3:=h.trans (Ad.fu h.Al p);have t4:=t3.trans (Ad.O2 t3.Al 208 1);rw[List.append_assoc] at t4;exact t4
theorem cD:(Tryz.prog.info? 205).map (fun i=>(i.zero,i.size,i.bytes))=some (some (.agg #[.pointer none,.nilFunc,.bool false]),3,24):=by kernel_rfl
theorem WK (g:FG) (f:Im) (ob oc:Nat):FG.C5 {g with ob:=ob,oc:=oc,fr:=g.fr++[f]}=g.C5++f.cells:=by
 unfold FG.C5;simp
theorem NJ (kd:IF) (fn:Fn) (cap:Array Value) (w:World) (g:FG) (x:qr) (wv:Value) (Ae:Int) (F:List (Nat×Obj)) (h:AK w (g.Ax x wv Ae)) (hF:SV F g x) (hc:MU F kd fn cap) (hb:SW g):
  Calls Tryz.prog 123 #[.pointer (some ⟨g.xb,0,none⟩),.bool kd.Cr,.func fn #[] cap] w (aL (x.DH kd) F g x wv Ae w):=by
 obtain⟨j0,hj,I9,EK,JW⟩:=info_parts cD;have hcx:=(Ge h).c 5;have Bi:=(Ge h).lt;have hn:=hb.fr;have S:=hid (Ad.new h (.cells #[.slice none 0 0] 165));have H:=hid h;have HF:=hid hF;have Hc:=hid hc;have hlen:g.fr.length+1+1≤maxLen:=by unfold maxLen;omega
 have oZ:(g.fr.length+1+1)*24≤140737488355328:=by omega
 obtain⟨bk,FD⟩:∃b,b=kd.Cr:=⟨_,rfl⟩;rw[←FD];have Hbk:=hid FD;clear h hF hc hb hn FD;go_enter Tryz.func123,Tryz.ntmps123;go_wp2_with (first | (at_builtin;refine Ic 24 _ _ _ j0 _ #[.pointer (some ⟨w.heap.size,0,none⟩),.func fn #[] cap,.bool bk] _ (w.heap.size+1) (Ii _ _) S.out.Al (k:=5) (v:= .slice (some ⟨g.ob,0,none⟩) (g.fr.length+1) g.oc) (xs:=g.C5) (n:=g.fr.length+1) (e:=205) (size:=3) rfl (by rfl) (by rfl) Tryz.underlying149 hj I9 EK JW rfl (by decide) (by rfl) (by rfl) rfl (by simp[Value.oneCell']) hlen oZ ?_;intro g6 Bb w6 AI _;have q1:=(AI.Al.AP (i:=0) rfl).cell;have q2:=(AI.Al.AP (i:=0) rfl).free;have q3:=(AI.Al.AP (i:=0) rfl).lt;have qq:=hid (S.out.trans AI);clear AI) | fail)
 go_end0
 refine⟨rfl,{g with ob:=g6,oc:=Bb,fr:=g.fr++[⟨w.heap.size,⟨none,0⟩,fn,cap,bk,[]⟩]},rfl,?_,?_⟩
 ·have t1:=qq.out.trans (qq.out.Al.set (i:=0) rfl 5 (.slice (some ⟨g6,0,none⟩) (g.fr.length+1+1) Bb));rw[Kv {g with ob:=g6,oc:=Bb,fr:=g.fr++[⟨w.heap.size,⟨none,0⟩,fn,cap,bk,[]⟩]} _ wv Ae rfl];have es:FG.Ks {g with ob:=g6,oc:=Bb,fr:=g.fr++[⟨w.heap.size,⟨none,0⟩,fn,cap,bk,[]⟩]} (x.DH kd) wv Ae=((g.Ks x wv Ae).set 5 (.row (.slice (some ⟨g6,0,none⟩) (g.fr.length+1+1) Bb) 205 3 (g.fr.length+1+1) (g.C5++(#[.pointer (some ⟨w.heap.size,0,none⟩),.func fn #[] cap,.bool bk]:Array Value).toList))).set 0 (.AP g.xb #[wv,.int .i64 Ae,.pointer (some ⟨g.pb,0,none⟩),.map (some g.sb),.map (some g.lb),.slice (some ⟨g6,0,none⟩) (g.fr.length+1+1) Bb,.int .i64 x.Am] 151):=by
   have en:(g.fr++[(⟨w.heap.size,⟨none,0⟩,fn,cap,bk,[]⟩:Im)]).length=g.fr.length+1:=by simp
   unfold FG.Ks;rw[WK];simp only[en];rfl
  rw[es];have t2:Ad w (g.Ax x wv Ae) _ (((((g.Ks x wv Ae).set 5 (.row (.slice (some ⟨g6,0,none⟩) (g.fr.length+1+1) Bb) 205 3 (g.fr.length+1+1) (g.C5++(#[.pointer (some ⟨w.heap.size,0,none⟩),.func fn #[] cap,.bool bk]:Array Value).toList))).set 0 (.AP g.xb #[wv,.int .i64 Ae,.pointer (some ⟨g.pb,0,none⟩),.map (some g.sb),.map (some g.lb),.slice (some ⟨g6,0,none⟩) (g.fr.length+1+1) Bb,.int .i64 x.Am] 151))++g.fr.reverse.flatMap Im.Ax)++[.AP w.heap.size #[.slice none 0 0] 165]):=t1;exact bQ t2
 ·obtain⟨h1,h2⟩:=HF.out;exact⟨h1,h2.kv ⟨rfl,Hbk.out,Hc.out⟩⟩
structure M3 (F:List (Nat×Obj)) (g:FG) (x:qr) (wv:Value) (Ae:Int) (w:World):Prop where
 Al:AK w (g.Ax x wv Ae)
 AT:Ba w (g.Ax x wv Ae) F
 Hj:SV F g x
theorem M3.quiet {F:List (Nat×Obj)} {g:FG} {x:qr} {wv:Value} {Ae:Int} {w w':World} (h:M3 F g x wv Ae w) (k:Av [] w w'):M3 F g x wv Ae w':=⟨h.Al.quiet k,h.AT.quiet k,h.Hj⟩
theorem M3.new {F:List (Nat×Obj)} {g:FG} {x:qr} {wv:Value} {Ae:Int} {w:World} (h:M3 F g x wv Ae w) (o:Obj):M3 ((w.heap.size,o)::F) g x wv Ae (w.alloc o):=
 ⟨(Ad.alloc h.Al o).Al,h.AT.new h.Al o,h.Hj.sub fun _ hb=>List.mem_cons_of_mem _ hb⟩
def V1 (F F':List (Nat×Obj)):Prop:=∀y,y∈F→y∈F'
def Mp (res:Except Int qr) (F:List (Nat×Obj)) (g:FG) (x:qr) (wv:Value) (Ae:Int) (w:World) (e:Ending) (w':World):Prop:=match res with
 | .error c=>Fq [] c Ae w e w'
 | .ok y=>e= .returned (.tuple #[])∧∃g' F',g'.xb=g.xb∧V1 F F'∧Ad w (g.Ax x wv Ae) w' (g'.Ax y wv Ae)∧M3 F' g' y wv Ae w'
theorem Me {F F0:List (Nat×Obj)} {g:FG} {x y:qr} {wv:Value} {Ae:Int} {w0 w:World} {e:Ending} {w':World} (h:aL y F g x wv Ae w e w') (S:M3 F g x wv Ae w) (hm:Av [] w0 w) (h0:AK w0 (g.Ax x wv Ae)) (hF:V1 F0 F):Mp (.ok y) F0 g x wv Ae w0 e w':=by
 obtain⟨rfl,g',hx,st,hf⟩:=h;exact⟨rfl,g',F,hx,hF,(Ad.quiet h0 hm).trans st,⟨st.Al,S.AT.step st,hf⟩⟩
theorem iM (a:Wd) (w:World) (g:FG) (x:qr) (wv:Value) (Ae:Int) (F:List (Nat×Obj)) (h:M3 F g x wv Ae w) (hb:SW g) (bx ba:Nat)
  (hx:(bx,Obj.cells #[.pointer (some ⟨g.xb,0,none⟩)] 143 (0,0))∈F) (ha:(ba,Obj.cells #[.string a.name,.int .i64 a.v] 230 (0,0))∈F):
  Calls Tryz.prog 121 #[.pointer (some ⟨bx,0,none⟩),.pointer (some ⟨ba,0,none⟩)] w (Mp (x.finish (.out a)) F g x wv Ae w):=by
 have cx:=h.AT.cell hx 0;have ca0:=h.AT.cell ha 0;have ca1:=h.AT.cell ha 1;have H:=hid h;have Hb:=hid hb;have HX:=hid hx;have HA:=hid ha;have AU:x.finish (.out a)=match x.CA a with | .error c=> .error c | .ok a=> .ok (x.add (.out a)):=rfl
 have Bg:=hid AU;clear h hb hx ha AU;go_enter Tryz.func121,Tryz.ntmps121;go_upto_region 0 with fail
 refine Ao (l:=[(0,true),(1,true),(2,true),(3,false),(4,true),(5,false),(6,true),(7,false)]) (fun W=>W.cell? ⟨bx,0,none⟩=some (.pointer (some ⟨g.xb,0,none⟩))∧W.cell? ⟨ba,0,none⟩=some (.string a.name)∧W.cell? ⟨ba,1,none⟩=some (.int .i64 a.v)) 7 (by kernel_rfl) (by kernel_rfl) (by kernel_rfl) (by kernel_rfl) (by kernel_rfl) (fun c a d v w h=>by cases d <;>exact h) ⟨cx,ca0,ca1⟩ ?_;repeat
  refine Ak (v:= ?_) rfl rfl rfl (fun W hW=> ?_) ?_;rotate_left
  ·obtain⟨s1,s2,s3⟩:=hW;go_simp;rfl
  simp only[Bo]
 refine Ab rfl (fun K hK=> ?_);go_simp;have S:=H.out.quiet (Av.refl [] w).drew;refine(Jj a _ g x wv Ae S.Al).mono ?_;intro e w1 he;unfold SY at he;cases Fh:x.CA a with
 | error c=>
  rw[Fh] at he;obtain⟨⟨fb,rfl,hb⟩,hm⟩:=he;rw[Bg.out,Fh];exact⟨rfl,⟨fb,rfl,hb⟩,((Av.refl [] w).drew).Ac hm⟩
 | ok b=>
  rw[Fh] at he;obtain⟨rfl,hm⟩:=he;have S1:=S.quiet hm;have Hr:=hid (show x.finish (.out a)= .ok (x.add (.out b)) by rw[Bg.out,Fh]);clear Fh;refine hK _ w1 (fun _=>⟨S1.AT.cell HX.out 0,S1.AT.cell HA.out 0,S1.AT.cell HA.out 1⟩) ?_;clear hK;repeat
   refine Ak (v:= ?_) rfl rfl rfl (fun W hW=> ?_) ?_;rotate_left
   ·obtain⟨s1,s2,s3⟩:=hW;go_simp;rfl
   simp only[Bo]
  refine Ab rfl (fun K hK=> ?_);go_simp;have S2:=S1.new (.cells #[.bool b.AL,.int .i64 b.v] 251);refine hK _ _ (fun _=>⟨S2.AT.cell (List.mem_cons_of_mem _ HX.out) 0,S2.AT.cell (List.mem_cons_of_mem _ HA.out) 0,S2.AT.cell (List.mem_cons_of_mem _ HA.out) 1⟩) ?_;clear hK;repeat
   refine Ak (v:= ?_) rfl rfl rfl (fun W hW=> ?_) ?_;rotate_left
   ·obtain⟨s1,s2,s3⟩:=hW;go_simp;rfl
   simp only[Bo]
  refine Ab rfl (fun K hK=> ?_);go_simp;refine(Mg (.out b) _ _ _ g x wv Ae _ S2.Al S2.Hj ⟨_,[],rfl,List.mem_cons_self ..,rfl⟩ Hb.out).mono ?_;intro e w3 he;have hf:=hid (Me he S2 ((((Av.refl [] w).drew).Ac hm).alloc _) H.out.Al (fun y hy=>List.mem_cons_of_mem _ hy));obtain⟨rfl,_⟩:=he;refine hK _ _ (fun h=>absurd rfl h) ?_;clear hK;simp only[A0];go_wp2
  go_end0
  rw[Hr.out];exact hf.out
end Go.Proofs.YtpdfifdlhpmofaaGreatDoor
