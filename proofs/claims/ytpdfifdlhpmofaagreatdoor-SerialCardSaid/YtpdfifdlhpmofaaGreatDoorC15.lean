/- Part 15 of the proof. -/
import Derived.Test.YtpdfifdlhpmofaaGreatDoorC04
import Derived.Test.YtpdfifdlhpmofaaGreatDoorShelf
set_option linter.unusedVariables false
set_option linter.unusedSimpArgs false
set_option maxHeartbeats 0
set_option maxRecDepth 99999
namespace Go.Proofs.YtpdfifdlhpmofaaGreatDoor
open Go.RowKit Tryz
open Value renaming slice->m9,string->qA,bool->qB,tuple->qC,agg->qD,pointer->qE
open Ending renaming returned->qF
open Obj renaming cells->qG
open Option renaming none->Z,some->U
open Bool renaming true->V,false->I
open Go.Lib renaming hid->D
open List renaming length->J
theorem mbv {p:Prop} (h:p:=by
 intro v H;go_roundw;case rel=>exact LR.next HG hk H.out EQ EQ
 case measure=>simp[intOf];omega):p:=h
theorem mby {p:Prop} (h:p:=by
 rcases jL b w1.heap.size with h'|h'
 .exact h'
 .simp[Array.getElem?_eq_none h'] at Xx):p:=h
variable {w v:World} {L L' R:List Ob} {E F:List (Nat×Obj)} {B g' g G O:GS} {n a b c m:Nat} {f:Nat->GS->GS} {cs:Array Value} {T:TypeId} {a0:Ag} {p:Prop} {Q:Exit->Act->World->Prop} {Bf:Array Oper} {X:World->Prop}
set_option linter.unusedVariables false
theorem AY.AmO {w':World} (kn:AY w' L' E) (hR:Aq w (L++R)) (hf:∀b o,(b,o)∈E->w.heap.size<=b):AY w' (L'++R) E:=
 ⟨kn.heap,λb o hb hl=>by
   rw[Bo,Jp] at hl;rcases hl with hl|hl
   · exact kn.out b o hb hl
   · have:=hR.lt b (by rw[Bo];exact Jc _ hl);have:=hf b o hb;omega⟩
theorem AY.left {A B:List Ob} (h:AY w (A++B) F):AY w A F:=
 ⟨h.heap,λb o hb hl=>h.out b o hb (by rw[Bo];exact IR _ hl)⟩
theorem Aio {x y z:Obj} (h:n<=a/\n<=b/\n<=c):∀q o,(q,o)∈[(c,x),(a,y),(b,z)]->n<=q:=by
 intro q o hq;simp only[Jl,Prod.mk.injEq,Qm,or_false] at hq;omega
abbrev QB:=Nat×Array Value×TypeId
variable {S P:List QB}
def qob (p:QB):Nat×Obj:=(p.1,qG p.2.1 p.2.2 (0,0))
def PF (w:World):List QB->Prop
 |[]=>True
 |p::r=>(∀i:Nat,w.cell? ⟨p.1,i,Z⟩=p.2.1[i]?)/\p.1<w.heap.size/\PF w r
theorem AY.pf:∀{P:List QB},AY w L (P.map qob)->PF w P
 |[],_=>trivial
 |(b,c,T)::r,h=>⟨h.cell (Jd ..),h.lt (Jd ..),AY.pf (h.sub λ_ hx=>Id _ hx)⟩
def AbI (i:Option Bool) (g:MG) (G O:GS) (a:SG) (AV:List Value) (L:List Ob) (v:World):Prop:=match i with
 |none=>a=g.a/\AV=g.av
 |some i=>i=V->∃vs ls E,AV=g.av++vs/\O.BM=G.BM++ls/\AY v L E/\VB E g.mb (J O.Ab) vs ls/\J vs+J G.Ab<=J O.Ab
structure CJ (w:World) (g:MG) (G O:GS) (c a:SG) (AV:List Value) (F:List (Nat×Obj)) (P:List QB) (R:List Ob) (i:Option Bool) (v:World):Prop where
 st:Ai w (g.Ay G) v (MG.Ay {g with c:=c,a:=a,av:=AV} O++R)
 kf:AY v (MG.Ay {g with c:=c,a:=a,av:=AV} O++R) F
 kp:AY v (MG.Ay {g with c:=c,a:=a,av:=AV} O++R) (P.map qob)
 ab:AbI i g G O a AV (MG.Ay {g with c:=c,a:=a,av:=AV} O++R) v
 hb:CF O.Ac
 al:J AV<=J O.Ab
def CI (w:World) (g:MG) (G O:GS) (F:List (Nat×Obj)) (P:List QB) (R:List Ob) (i:Option Bool) (v:World):Prop:=∃c a AV,CJ w g G O c a AV F P R i v
def GS.dp (g:GS) (d:Int):GS:={g with Af:=d}
structure Ar (g' g:GS):Prop where
 Ac:g'.Ac=g.Ac
 cells:g'.cells=g.cells
 block:g'.block=g.block
 Af:g'.Af=g.Af
theorem Ar.refl (g:GS):Ar g g:=⟨rfl,rfl,rfl,rfl⟩
theorem Ar.trans {a b c:GS} (h:Ar a b) (k:Ar b c):Ar a c:=⟨h.1.trans k.1,h.2.trans k.2,h.3.trans k.3,h.4.trans k.4⟩
theorem Ar.AQ (h:Ar g' g) (i:GI):Ar (g'.AQ i) g:=⟨h.1,h.2,h.3,h.4⟩
theorem Ar.Ba (h:Ar g' g) (l:Ii):Ar (g'.Ba l) g:=⟨h.1,h.2,h.3,h.4⟩
theorem Ar.I1 (h:Ar g' g) (r:Int):Ar (g'.I1 r) g:=⟨h.1,h.2,h.3,h.4⟩
theorem Ar.Co (h:Ar g' g) (a:At) (r:Int):Ar (g'.Co a r) g:=by
 unfold GS.Co;split
 .exact h.AQ _
 .exact h
theorem Ar.KC (h:Ar g' g) (r:Int):Ar (g'.KC r) g:=
 ((((((((h.AQ _).AQ _).I1 _).AQ _).AQ _).AQ _).AQ _).I1 _)
theorem Ar.EN (h:Ar g' g) (f s:Int) (a:At):Ar (g'.EN f s a) g:=
 (((((((((h.Co a 0).AQ _).AQ _).AQ _).Ba _).AQ _).AQ _).AQ _).AQ _).Ba _ |>.AQ _
theorem Ar.SL (h:Ar g' g):Ar g'.SL g:=
 ((((((((((((h.AQ _).AQ _).AQ _).AQ _).Ba _).AQ _).KC _).AQ _).AQ _).AQ _).I1 _).AQ _).Ba _
theorem Ar.Oo (hf:∀i x y,Ar x y->Ar (f i x) y) (n:Nat) {g' g:GS} (h:Ar g' g):Ar (GS.Oo f n g') g:=by
 induction n with
 |zero=>exact h
 |succ n ih=>exact hf n _ _ ih
theorem Ar.P5 (i:Nat) (x y:GS) (h:Ar x y):Ar (GS.P5 i x) y:=
 (((((((((h.AQ _).AQ _).AQ _).KC _).AQ _).AQ _).I1 _).AQ _).AQ _).Ba _
theorem Ar.P4 (i:Nat) (x y:GS) (h:Ar x y):Ar (GS.P4 i x) y:=
 (((((((((h.AQ _).AQ _).AQ _).AQ _).AQ _).Ba _).AQ _).KC _).Ba _).Ba _
theorem Ar.YM (i:Nat) (x y:GS) (h:Ar x y):Ar (GS.YM i x) y:=((((h.AQ _).AQ _).AQ _).AQ _).Ba _
theorem Ar.Rx (i:Nat) (x y:GS) (h:Ar x y):Ar (GS.Rx i x) y:=(((h.AQ _).AQ _).AQ _).Ba _
theorem Ar.Ei (h:Ar g' g):Ar g'.Ei g:=
 Ar.Oo Ar.Rx _ (Ar.Oo Ar.YM _ (Ar.Oo Ar.P4 _ ((((Ar.Oo Ar.P5 _ h).AQ _).AQ _).AQ _)))
theorem Ar.Gf (h:Ar g' g):Ar g'.Gf g:=((((((((h.AQ _).AQ _).AQ _).AQ _).AQ _).AQ _).AQ _).AQ _).Ba _
theorem Ar.Pe (i:Nat) (x y:GS) (h:Ar x y):Ar (GS.Pe i x) y:=((((h.AQ _).AQ _).AQ _).AQ _).Ba _
theorem Ar.O8 (i:Nat) (x y:GS) (h:Ar x y):Ar (GS.O8 i x) y:=(h.AQ _).AQ _
theorem Ar.O6 (i:Nat) (x y:GS) (h:Ar x y):Ar (GS.O6 i x) y:=(h.AQ _).AQ _
theorem Ar.Kj (i:Nat) (x y:GS) (h:Ar x y):Ar (GS.Kj i x) y:=((h.AQ _).AQ _).AQ _
theorem Ar.Gb (h:Ar g' g) (C5:Nat):Ar (g'.Gb C5) g:=(Ar.Oo Ar.O8 _ (Ar.Oo Ar.Pe _ h)).AQ _
theorem Ar.tF (h:Ar g' g) (l:List Ii):Ar (l.foldl GS.Ba g') g:=by
 induction l generalizing g' with
 |nil=>exact h
 |cons a r ih=>exact ih (h.Ba a)
section
variable {w v v':World} {g:MG} {G O O':GS} {c c' a:SG} {AV:List Value} {F:List (Nat×Obj)} {P:List QB} {R:List Ob} {i:Option Bool} {k:Nat} {fn:Nat} {args:Array Value} {ret:Value}
theorem AbI.start:AbI i g G G g.a g.av (g.Ay G) w:=match i with
 |none=>⟨rfl,rfl⟩
 |some _=>λ_=>⟨[],[],[],(Jo _).symm,(Jo _).symm,AY.nil ..,.nil _ _ _,EQ⟩
theorem CI.begin {post:Ending->World->Prop} (F:List (Nat×Obj)) (P:List QB) (i:Option Bool) (h:Aq w (g.Ay G)) (kf:AY w (g.Ay G) F) (kp:AY w (g.Ay G) (P.map qob)) (hb:CF G.Ac) (ha:J g.av<=J G.Ab) (k:∀v,Hid (CI w g G G F P [] i v)->Calls prog fn args v post):Calls prog fn args w post:=
 k w ⟨g.c,g.a,g.av,Ai.refl h,kf,kp,.start,hb,ha⟩
theorem AbI.step (h:AbI i g G O a AV L v) (s:Ai v L v' L') (ha:O'.BM=O.BM) (hl:J O.Ab<=J O'.Ab):AbI i g G O' a AV L' v':=by
 cases i with
 |none=>exact h
 |some i=>
  intro hi;obtain⟨vs,ls,E,h1,h2,h3,h4,h5⟩:=h hi;exact⟨vs,ls,E,h1,ha.trans h2,h3.step s,h4.up (λ_ h=>h) hl,Y⟩
theorem CJ.step (h:CJ w g G O c a AV F P R i v) (s:Ai v (MG.Ay {g with c:=c,a:=a,av:=AV} O) v' (MG.Ay {g with c:=c',a:=a,av:=AV} O')) (ha:O'.BM=O.BM) (hb:O'.Ac=O.Ac) (hl:J O.Ab<=J O'.Ab):CJ w g G O' c' a AV F P R i v':=
 have s2:=Ai.frame h.st.Ak s
 ⟨h.st.trans s2,h.kf.step s2,h.kp.step s2,h.ab.step s2 ha hl,h.hb.eq hb,QA h.al hl⟩
theorem CJ.quiet (h:CJ w g G O c a AV F P R i v) (m:Az [] v v'):CJ w g G O c a AV F P R i v':=
 have s2:=Ai.quiet h.st.Ak m
 ⟨h.st.trans s2,h.kf.step s2,h.kp.step s2,h.ab.step s2 rfl (Jf _),h.hb,h.al⟩
theorem CI.quiet (h:CI w g G O F P R i v) (m:Az [] v v'):CI w g G O F P R i v':=let ⟨c,a,AV,h⟩:=h;⟨c,a,AV,h.quiet m⟩
theorem CI.pf (h:CI w g G O F P R i v):PF v P:=let ⟨_,_,_,h⟩:=h;h.kp.pf
theorem CI.Tf (h:CI w g G O F P R i v):v.cell? ⟨g.mb,1,Z⟩=U (iI O.Ac)/\v.cell? ⟨g.mb,2,Z⟩=U (iI O.cells)/\v.cell? ⟨g.mb,3,Z⟩=U (qB O.block)/\v.cell? ⟨g.mb,5,Z⟩=U (iI O.Af)/\(∀i:Nat,v.frozen? ⟨g.mb,i,Z⟩=I)/\g.mb<v.heap.size/\PF v P:=by
 obtain⟨c,a,AV,h⟩:=h;have m:=Dl (Ai.AJ h.st.Ak).Ak;exact⟨m.c 1,m.c 2,m.c 3,m.c 5,m.f,m.lt,h.kp.pf⟩
theorem CI.AcS (h:CI w g G O F P R i v):∃c:SG,v.cell? ⟨g.mb,0,Z⟩=U (m9 c.p (J O.Ab) c.c):=by
 obtain⟨c,a,AV,h⟩:=h;have m:=Dl (Ai.AJ h.st.Ak).Ak;exact⟨c,m.c 0⟩
theorem CI.new (h:CI w g G O F P R i v) (b:Nat) (v2:World) (cs:Array Value) (T:TypeId) (hb:b=v.heap.size) (hv:v2=v.alloc (qG cs T)):CI w g G O F ((b,cs,T)::P) R i v2:=by
 subst hb hv;obtain⟨c,a,AV,h⟩:=h;have q:=h.quiet ((Az.refl _ _).alloc (qG cs T));exact⟨c,a,AV,q.st,q.kf,h.kp.new h.st.Ak _,q.ab,q.hb,q.al⟩
theorem CI.Af (h:CI w g G O F P R i v) (d:Int) (v2:World) (hv:v2=v.setCell ⟨g.mb,5,Z⟩ (iI d)):CI w g G (O.dp d) F P R i v2:=by
 subst hv;obtain⟨c,a,AV,h⟩:=h;have s:=Aq.set (Ai.AJ h.st.Ak).Ak (i:=0) rfl 5 (iI d);exact⟨c,a,AV,h.step s rfl rfl (Jf _)⟩
theorem CI.Abv (h:CI w g G O F P R i v) (hp:(b,cs,T)∈P):CI w g G O F ((b,cs,T)::P) R i v:=
 let ⟨c,a,AV,h⟩:=h;⟨c,a,AV,h.st,h.kf,h.kp.sub λx hx=>(Jl.1 hx).elim (λe=>e▸Qf.2 ⟨_,hp,rfl⟩) id,h.ab,h.hb,h.al⟩
theorem CI.AlO {q:QB} (h:CI w g G O F (q::P) R i v):CI w g G O F P R i v:=
 let ⟨c,a,AV,h⟩:=h;⟨c,a,AV,h.st,h.kf,h.kp.sub λx hx=>Id _ hx,h.ab,h.hb,h.al⟩
theorem CI.sub (h:CI w g G O E S R i v) (hF:∀x,x∈F->x∈E) (hP:∀x,x∈P->x∈S):CI w g G O F P R i v:=
 let ⟨c,a,AV,h⟩:=h;⟨c,a,AV,h.st,h.kf.sub hF,h.kp.sub λx hx=>let ⟨y,hy,e⟩:=Qf.1 hx;Qf.2 ⟨y,hP y hy,e⟩,h.ab,h.hb,h.al⟩
theorem CI.AkP (h:CI w g G O F P R i v):CI w g G O F P [] i v:=
 let ⟨c,a,AV,h⟩:=h
 have s:=Ai.AJ h.st.Ak
 ⟨c,a,AV,h.st.trans s,h.kf.step s,h.kp.step s,h.ab.step s rfl (Jf _),h.hb,h.al⟩
def LR (f:Nat->GS->GS) (n:Int) (w:World) (g:MG) (G B:GS) (F:List (Nat×Obj)) (P:List QB) (R:List Ob) (i:Option Bool) (iv:Value) (v:World):Prop:=
 ∃k:Nat,iv= iI k/\(k:Int)<=n/\CI w g G (GS.Oo f k B) F P R i v
theorem LR.start {n:Int} (hn:0<=n) (h:CI w g G B F P R i v):LR f n w g G B F P R i (iI 0) v:=⟨0,rfl,hn,h⟩
theorem Li (hf:∀i x,(f i x).Ab.length=J x.Ab+m) (n:Nat) (g:GS):(GS.Oo f n g).Ab.length=J g.Ab+n*m:=by
 induction n with
 |zero=>simp[GS.Oo]
 |succ n ih=>simp only[GS.Oo,hf,ih,i5];omega
theorem LR.open {n:Int} {iv:Value} (h:LR f n w g G B F P R i iv v) (hl:∀i x,(f i x).Ab.length=J x.Ab+m) (hs:∀i x y,Ar x y->Ar (f i x) y):
  ∃(k:Nat) (O:GS),iv= iI k/\(k:Int)<=n/\J O.Ab=J B.Ab+k*m/\Hid (O=GS.Oo f k B)/\Hid (Ar O B)/\Hid (CI w g G O F P R i v):=by
 obtain⟨k,rfl,hk,h⟩:=h;exact⟨k,_,rfl,hk,Li hl k B,rfl,Ar.Oo hs k (Ar.refl B),h⟩
theorem LR.next {n:Int} {k:Nat} (hO:Hid (O=GS.Oo f k B)) (hk:(k:Int)<n) (h:CI w g G (f k O) E S R i v) (hF:∀x,x∈F->x∈E) (hP:∀x,x∈P->x∈S):LR f n w g G B F P R i (iI (k+1:Nat)) v:=
 ⟨k+1,rfl,Y,by rw[GS.Oo,<-hO.out];exact h.sub hF hP⟩
theorem CI.drew (h:CI w g G O F P R i v) (v2:World) (hv:v2=v.drew):CI w g G O F P R i v2:=hv▸h.quiet (Az.refl _ _).drew
theorem CI.mk (H:Hid (CI w g G O F P R i v)) (ha:O'.BM=O.BM) (hb:O'.Ac=O.Ac) (hl:J O.Ab<=J O'.Ab)
  (k:∀c a AV,Aq v (MG.Ay {g with c:=c,a:=a,av:=AV} O)->CF O.Ac->J AV<=J O.Ab->Calls prog fn args v (yB ret O' {g with c:=c,a:=a,av:=AV} O v)):
  Calls prog fn args v (λe v'=>e= qF ret/\Hid (CI w g G O' F P R i v')):=by
 obtain⟨c,a,AV,h⟩:=H.out;refine(k c a AV (Ai.AJ h.st.Ak).Ak h.hb h.al).mono ?_;rintro e v' ⟨rfl,c',s⟩;exact⟨rfl,⟨c',a,AV,h.step s ha hb hl⟩⟩
theorem CI.q (H:Hid (CI w g G O F P R i v)) (k:∀c a AV,Aq v (MG.Ay {g with c:=c,a:=a,av:=AV} O)->CF O.Ac->Calls prog fn args v (Kn ret v)):
  Calls prog fn args v (λe v'=>e= qF ret/\Hid (CI w g G O F P R i v')):=by
 obtain⟨c,a,AV,h⟩:=H.out;refine(k c a AV (Ai.AJ h.st.Ak).Ak h.hb).mono ?_;rintro e v' ⟨rfl,m⟩;exact⟨rfl,⟨c,a,AV,h.quiet m⟩⟩
theorem CI.ab {j:Bool} (H:Hid (CI w g G O F P [] (U j) v)) (hb:O'.Ac=O.Ac)
  (k:∀c a AV,Aq v (MG.Ay {g with c:=c,a:=a,av:=AV} O)->CF O.Ac->J AV<=J O.Ab->Calls prog fn args v (StS O' {g with c:=c,a:=a,av:=AV} O v)):
  Calls prog fn args v (λe v'=>e= qF (qC #[])/\Hid (CI w g G O' F P [] (U j) v')):=by
 obtain⟨c,a,AV,h⟩:=H.out;refine(k c a AV h.st.Ak h.hb h.al).mono ?_;exact maC
theorem CI.zs {kk:Nat} (H:Hid (CI w g G O F P R i v)) (ha:O'.BM=O.BM) (hb:O'.Ac=O.Ac) (hl:J O.Ab<=J O'.Ab)
  (k:∀c a AV,Aq v (MG.Ay {g with c:=c,a:=a,av:=AV} O)->CF O.Ac->AY v (MG.Ay {g with c:=c,a:=a,av:=AV} O) (P.map qob)->Calls prog fn args v (λe v'=>∃ba bm bk c',e= qF (.func (.func 154) #[] #[iJ ba,iJ bm,iJ bk])/\
    Ai v (MG.Ay {g with c:=c,a:=a,av:=AV} O) v' (MG.Ay {g with c:=c',a:=a,av:=AV} O')/\AY v' (MG.Ay {g with c:=c',a:=a,av:=AV} O') [F6 bk kk,Pf ba a0,F5 bm g.mb]/\(v.heap.size<=ba/\v.heap.size<=bm/\v.heap.size<=bk))):
  Calls prog fn args v (λe v'=>∃ba bm bk,e= qF (.func (.func 154) #[] #[iJ ba,iJ bm,iJ bk])/\Hid (CI w g G O' (F6 bk kk::Pf ba a0::F5 bm g.mb::F) P R i v')):=by
 obtain⟨c,a,AV,h⟩:=H.out;refine(k c a AV (Ai.AJ h.st.Ak).Ak h.hb h.kp.left).mono ?_;rintro e v' ⟨ba,bm,bk,c',rfl,s,kn,hf⟩;have q:=h.step s ha hb hl;exact⟨ba,bm,bk,rfl,⟨c',a,AV,q.st,q.kf.fP (AY.AmO kn h.st.Ak (Aio hf)),q.kp,q.ab,q.hb,q.al⟩⟩
end
theorem GS.Oj (g:GS) (f s:Int) (a:At):(g.EN f s a).Ab.length=(g.Co a 0).Ab.length+8:=by
 unfold GS.EN;simp only[GS.Lm,GS.Eh,GS.BQ,GS.Lv]
theorem Pw:(∀(g:GS) (i:GI),(g.AQ i).Ab.length=J g.Ab+1)/\(∀(g:GS) (n:ByteArray) (d:Int) (a b:Ag),(g.IB n d a b).Ab.length=J g.Ab+1)/\(∀(g:GS) (a:Ag),(g.CG a).Ab.length=J g.Ab+1)/\(∀(g:GS),(g.CW).Ab.length=J g.Ab+1)/\(∀(g:GS) (l:Ii),(g.Ba l).Ab.length=J g.Ab)/\(∀(g:GS) (r k:Int),(g.lo r k).Ab.length=J g.Ab+1)/\(∀(g:GS) (r t i:Int),(g.SE r t i).Ab.length=J g.Ab+1)/\(∀(g:GS) (r k:Int),(g.Pq r k).Ab.length=J g.Ab+1)/\(∀(g:GS) (k:Int) (a:Ag),(g.st k a).Ab.length=J g.Ab+1)/\(∀(g:GS) (t i:Int) (a:Ag),(g.IW t i a).Ab.length=J g.Ab+1)/\(∀(g:GS) (k:Int) (a:Ag),(g.Ut k a).Ab.length=J g.Ab+1)/\(∀(g:GS) (r:Int),(g.I1 r).Ab.length=J g.Ab+1)/\(∀(g:GS) (r:Int),(g.KC r).Ab.length=J g.Ab+8)/\(∀(g:GS),J g.SL.Ab=J g.Ab+18)/\(∀(g:GS),J g.Ac5.Ab=J g.Ab)/\(∀(g:GS),J g.eU.Ab=J g.Ab)/\(∀(g:GS) (f s:Int) (a:At),(g.EN f s a).Ab.length=(g.Co a 0).Ab.length+8)/\(∀(g:GS) (d:Int),(g.dp d).Ab.length=J g.Ab):=⟨GS.BQ,GS.Lm,GS.Lv,GS.FC,GS.Eh,GS.P6,GS.Zc,GS.kR,GS.LQ,GS.Us,GS.Aaf,GS.Oa,GS.cH,GS.lK,GS.ra,GS.nB,GS.Oj,λ_ _=>rfl⟩
theorem GS.D6 (g:GS) (a:At) (r:Int):J g.Ab<=(g.Co a r).Ab.length:=by
 unfold GS.Co;split
 .rw[GS.P6];omega
 .omega
theorem N2 (h:b=a+c):a<=b:=Y
theorem xN (k:Int)⦃w v:World⦄⦃g:MG⦄⦃G O:GS⦄⦃F:List (Nat×Obj)⦄⦃P:List QB⦄⦃R:List Ob⦄⦃i:Option Bool⦄(H:Hid (CI w g G O F P R i v)):
  Calls prog 139 #[iI k] v (λe v'=>e= qF (qD #[qB I,iI k])/\Hid (CI w g G (O) F P R i v')):=
 CI.q H λ_ _ _ _ _=>Zl k v
theorem xR (k:Int)⦃w v:World⦄⦃g:MG⦄⦃G O:GS⦄⦃F:List (Nat×Obj)⦄⦃P:List QB⦄⦃R:List Ob⦄⦃i:Option Bool⦄(H:Hid (CI w g G O F P R i v)):
  Calls prog 133 #[iI k] v (λe v'=>e= qF (qD #[qB V,iI k])/\Hid (CI w g G (O) F P R i v')):=
 CI.q H λ_ _ _ _ _=>U7 k v
theorem LH (k:Int)⦃w v:World⦄⦃g:MG⦄⦃G O:GS⦄⦃F:List (Nat×Obj)⦄⦃P:List QB⦄⦃R:List Ob⦄⦃i:Option Bool⦄(H:Hid (CI w g G O F P R i v)) (hk: -1000<=k/\k<=1000:=by omega):
  Calls prog 135 #[iJ g.mb,iI k] v (λe v'=>e= qF (qD #[qB I,iI (O.Ac+k),iI 0])/\Hid (CI w g G (O) F P R i v')):=
 CI.q H λc1 a1 A1 h hb=>kD k v {g with c:=c1,a:=a1,av:=A1} O h (eQ hb hk)
theorem xof (k r:Int)⦃w v:World⦄⦃g:MG⦄⦃G O:GS⦄⦃F:List (Nat×Obj)⦄⦃P:List QB⦄⦃R:List Ob⦄⦃i:Option Bool⦄(H:Hid (CI w g G O F P R i v)) (hk: -1000<=k/\k<=1000:=by omega):
  Calls prog 138 #[iJ g.mb,iI k,iI r] v (λe v'=>e= qF (qD #[qB V,iI r,iI (O.Ac+k)])/\Hid (CI w g G (O) F P R i v')):=
 CI.q H λc1 a1 A1 h hb=>AeL k r v {g with c:=c1,a:=a1,av:=A1} O h (eQ hb hk)
theorem aC (j:GI)⦃w v:World⦄⦃g:MG⦄⦃G O:GS⦄⦃F:List (Nat×Obj)⦄⦃P:List QB⦄⦃R:List Ob⦄⦃i:Option Bool⦄(H:Hid (CI w g G O F P R i v)) (hn:J O.Ab<=1000000:=by (try simp only[Pw]);omega):
  Calls prog 81 #[iJ g.mb,j.val] v (λe v'=>e= qF (qC #[])/\Hid (CI w g G (O.AQ j) F P R i v')):=
 CI.mk H rfl rfl (N2 (GS.BQ _ _)) λc1 a1 A1 h _ _=>L4 j v {g with c:=c1,a:=a1,av:=A1} O h hn
theorem r4 (r:Int) (a:Ag) (k:Int)⦃w v:World⦄⦃g:MG⦄⦃G O:GS⦄⦃F:List (Nat×Obj)⦄⦃P:List QB⦄⦃R:List Ob⦄⦃i:Option Bool⦄(H:Hid (CI w g G O F P R i v)) (hn:J O.Ab<=1000000:=by (try simp only[Pw]);omega):
  Calls prog 140 #[iJ g.mb,iI r,qD #[qB (a).Dd,iI (a).v,iI (k)]] v (λe v'=>e= qF (qC #[])/\Hid (CI w g G (O.AQ (.load r a k)) F P R i v')):=
 CI.mk H rfl rfl (N2 (GS.BQ _ _)) λc1 a1 A1 h _ _=>NR r (a) (k) v {g with c:=c1,a:=a1,av:=A1} O h hn
theorem xlo (r k:Int)⦃w v:World⦄⦃g:MG⦄⦃G O:GS⦄⦃F:List (Nat×Obj)⦄⦃P:List QB⦄⦃R:List Ob⦄⦃i:Option Bool⦄(H:Hid (CI w g G O F P R i v)) (hn:J O.Ab<=1000000:=by (try simp only[Pw]);omega):
  Calls prog 140 #[iJ g.mb,iI r,qD #[qB I,iI ((O.Ac+k)),iI (0)]] v (λe v'=>e= qF (qC #[])/\Hid (CI w g G (O.lo r k) F P R i v')):=
 CI.mk H rfl rfl (N2 (GS.BQ _ _)) λc1 a1 A1 h _ _=>NR r (Ag.n (O.Ac+k)) (0) v {g with c:=c1,a:=a1,av:=A1} O h hn
theorem zm (r t j:Int)⦃w v:World⦄⦃g:MG⦄⦃G O:GS⦄⦃F:List (Nat×Obj)⦄⦃P:List QB⦄⦃R:List Ob⦄⦃i:Option Bool⦄(H:Hid (CI w g G O F P R i v)) (hn:J O.Ab<=1000000:=by (try simp only[Pw]);omega):
  Calls prog 140 #[iJ g.mb,iI r,qD #[qB V,iI (j),iI (O.Ac+t)]] v (λe v'=>e= qF (qC #[])/\Hid (CI w g G (O.SE r t j) F P R i v')):=
 CI.mk H rfl rfl (N2 (GS.BQ _ _)) λc1 a1 A1 h _ _=>NR r (Ag.r j) (O.Ac+t) v {g with c:=c1,a:=a1,av:=A1} O h hn
theorem zn (r k:Int)⦃w v:World⦄⦃g:MG⦄⦃G O:GS⦄⦃F:List (Nat×Obj)⦄⦃P:List QB⦄⦃R:List Ob⦄⦃i:Option Bool⦄(H:Hid (CI w g G O F P R i v)) (hn:J O.Ab<=1000000:=by (try simp only[Pw]);omega):
  Calls prog 140 #[iJ g.mb,iI r,qD #[qB I,iI (k),iI (0)]] v (λe v'=>e= qF (qC #[])/\Hid (CI w g G (O.Pq r k) F P R i v')):=
 CI.mk H rfl rfl (N2 (GS.BQ _ _)) λc1 a1 A1 h _ _=>NR r (Ag.n k) (0) v {g with c:=c1,a:=a1,av:=A1} O h hn
theorem za (a:Ag) (k:Int) (b:Ag)⦃w v:World⦄⦃g:MG⦄⦃G O:GS⦄⦃F:List (Nat×Obj)⦄⦃P:List QB⦄⦃R:List Ob⦄⦃i:Option Bool⦄(H:Hid (CI w g G O F P R i v)) (hn:J O.Ab<=1000000:=by (try simp only[Pw]);omega):
  Calls prog 134 #[iJ g.mb,qD #[qB (a).Dd,iI (a).v,iI (k)],qD #[qB (b).Dd,iI (b).v]] v (λe v'=>e= qF (qC #[])/\Hid (CI w g G (O.AQ (.store a k b)) F P R i v')):=
 CI.mk H rfl rfl (N2 (GS.BQ _ _)) λc1 a1 A1 h _ _=>OM (a) (k) b v {g with c:=c1,a:=a1,av:=A1} O h hn
theorem rZ (k:Int) (b:Ag)⦃w v:World⦄⦃g:MG⦄⦃G O:GS⦄⦃F:List (Nat×Obj)⦄⦃P:List QB⦄⦃R:List Ob⦄⦃i:Option Bool⦄(H:Hid (CI w g G O F P R i v)) (hn:J O.Ab<=1000000:=by (try simp only[Pw]);omega):
  Calls prog 134 #[iJ g.mb,qD #[qB I,iI ((O.Ac+k)),iI (0)],qD #[qB b.Dd,iI b.v]] v (λe v'=>e= qF (qC #[])/\Hid (CI w g G (O.st k b) F P R i v')):=
 CI.mk H rfl rfl (N2 (GS.BQ _ _)) λc1 a1 A1 h _ _=>OM (Ag.n (O.Ac+k)) (0) b v {g with c:=c1,a:=a1,av:=A1} O h hn
theorem zg (t j:Int) (b:Ag)⦃w v:World⦄⦃g:MG⦄⦃G O:GS⦄⦃F:List (Nat×Obj)⦄⦃P:List QB⦄⦃R:List Ob⦄⦃i:Option Bool⦄(H:Hid (CI w g G O F P R i v)) (hn:J O.Ab<=1000000:=by (try simp only[Pw]);omega):
  Calls prog 134 #[iJ g.mb,qD #[qB V,iI (j),iI (O.Ac+t)],qD #[qB b.Dd,iI b.v]] v (λe v'=>e= qF (qC #[])/\Hid (CI w g G (O.IW t j b) F P R i v')):=
 CI.mk H rfl rfl (N2 (GS.BQ _ _)) λc1 a1 A1 h _ _=>OM (Ag.r j) (O.Ac+t) b v {g with c:=c1,a:=a1,av:=A1} O h hn
theorem zh (k:Int) (b:Ag)⦃w v:World⦄⦃g:MG⦄⦃G O:GS⦄⦃F:List (Nat×Obj)⦄⦃P:List QB⦄⦃R:List Ob⦄⦃i:Option Bool⦄(H:Hid (CI w g G O F P R i v)) (hn:J O.Ab<=1000000:=by (try simp only[Pw]);omega):
  Calls prog 134 #[iJ g.mb,qD #[qB I,iI (k),iI (0)],qD #[qB b.Dd,iI b.v]] v (λe v'=>e= qF (qC #[])/\Hid (CI w g G (O.Ut k b) F P R i v')):=
 CI.mk H rfl rfl (N2 (GS.BQ _ _)) λc1 a1 A1 h _ _=>OM (Ag.n k) (0) b v {g with c:=c1,a:=a1,av:=A1} O h hn
theorem gQ (n:ByteArray) (d:Int) (a b:Ag)⦃w v:World⦄⦃g:MG⦄⦃G O:GS⦄⦃F:List (Nat×Obj)⦄⦃P:List QB⦄⦃R:List Ob⦄⦃i:Option Bool⦄(H:Hid (CI w g G O F P R i v)) (hn:J O.Ab<=1000000:=by (try simp only[Pw]);omega):
  Calls prog 132 #[iJ g.mb,qA n,iI d,qD #[qB a.Dd,iI a.v],qD #[qB b.Dd,iI b.v]] v (λe v'=>e= qF (qC #[])/\Hid (CI w g G (O.IB n d a b) F P R i v')):=
 CI.mk H rfl rfl (N2 (GS.BQ _ _)) λc1 a1 A1 h _ _=>AeJ n d a b v {g with c:=c1,a:=a1,av:=A1} O h hn
theorem PJ (a:At) (r:Int)⦃w v:World⦄⦃g:MG⦄⦃G O:GS⦄⦃F:List (Nat×Obj)⦄⦃P:List QB⦄⦃R:List Ob⦄⦃i:Option Bool⦄(H:Hid (CI w g G O F P R i v)) (hok:DO a:=by assumption) (hn:J O.Ab<=1000000:=by (try simp only[Pw]);omega):
  Calls prog 131 #[iJ g.mb,qD #[qB a.AX,iI a.v],iI r] v (λe v'=>e= qF (qD #[qB (GS.BD a r).Dd,iI (GS.BD a r).v])/\Hid (CI w g G (O.Co a r) F P R i v')):=
 CI.mk H (GS.LL _ _ _) (GS.bP _ _ _) (GS.D6 _ _ _) λc1 a1 A1 h hb _=>oF a r v {g with c:=c1,a:=a1,av:=A1} O h hn hb hok
theorem eM (r:Int)⦃w v:World⦄⦃g:MG⦄⦃G O:GS⦄⦃F:List (Nat×Obj)⦄⦃P:List QB⦄⦃i:Bool⦄(H:Hid (CI w g G O F P [] (U i) v)) (hn:J O.Ab<=1000000:=by (try simp only[Pw]);omega):
  Calls prog 153 #[iJ g.mb,iI r] v (λe v'=>e= qF (qC #[])/\Hid (CI w g G (O.I1 r) F P [] (U i) v')):=
 CI.ab H rfl λc1 a1 A1 h _ ha=>oO r v {g with c:=c1,a:=a1,av:=A1} O h hn ha
theorem WG (a:Ag)⦃w v:World⦄⦃g:MG⦄⦃G O:GS⦄⦃F:List (Nat×Obj)⦄⦃P:List QB⦄⦃R:List Ob⦄⦃i:Option Bool⦄(H:Hid (CI w g G O F P R i v)) (hn:J O.Ab<=1000000:=by (try simp only[Pw]);omega):
  Calls prog 141 #[iJ g.mb,qD #[qB a.Dd,iI a.v]] v (λe v'=>∃ba bm bk,e= qF (.func (.func 154) #[] #[iJ ba,iJ bm,iJ bk])/\Hid (CI w g G (O.CG a) (F6 bk (J O.Ab)::Pf ba (a)::F5 bm g.mb::F) P R i v')):=
 CI.zs H rfl rfl (N2 (GS.BQ _ _)) λc1 a1 A1 h _ _=>cT a v {g with c:=c1,a:=a1,av:=A1} O h hn
theorem r6⦃w v:World⦄⦃g:MG⦄⦃G O:GS⦄⦃F:List (Nat×Obj)⦄⦃P:List QB⦄⦃i:Option Bool⦄(H:Hid (CI w g G O F P [] i v)) (hn:J O.Ab<=1000000:=by (try simp only[Pw]);omega):
  Calls prog 151 #[iJ g.mb] v (λe v'=>∃bm bk,e= qF (.func (.func 174) #[] #[iJ bm,iJ bk])/\Hid (CI w g G O.CW (F6 bk (J O.Ab)::F5 bm g.mb::F) P [] i v')):=by
 obtain⟨c,a,AV,h⟩:=H.out;refine(vX v {g with c:=c,a:=a,av:=AV} O h.st.Ak hn).mono ?_;rintro e v' ⟨bm,bk,c',rfl,s,kn⟩;have q:=h.step s rfl rfl (N2 (GS.BQ _ _));exact⟨bm,bk,rfl,⟨c',a,AV,q.st,q.kf.fP kn,q.kp,q.ab,q.hb,q.al⟩⟩
theorem CI.mkF {g:MG} {i:Option Bool} {O':GS} {fn:Nat} {args:Array Value} (H:Hid (CI w g G O F P R i v)) (ha:O'.BM=O.BM) (hb:O'.Ac=O.Ac) (hl:J O'.Ab=J O.Ab)
  (k:∀c a AV,Aq v (MG.Ay {g with c:=c,a:=a,av:=AV} O)->AY v (MG.Ay {g with c:=c,a:=a,av:=AV} O) F->Calls prog fn args v (yB (qC #[]) O' {g with c:=c,a:=a,av:=AV} O v)):
  Calls prog fn args v (λe v'=>e= qF (qC #[])/\Hid (CI w g G (O') F P R i v')):=by
 obtain⟨c,a,AV,h⟩:=H.out;refine(k c a AV (Ai.AJ h.st.Ak).Ak h.kf.left).mono ?_;rintro e v' ⟨rfl,c',s⟩;exact⟨rfl,⟨c',a,AV,h.step s ha hb (Nat.le_of_eq hl.symm)⟩⟩
theorem KV (a:Ag) (ba bm bk k:Nat)⦃w v:World⦄⦃g:MG⦄⦃G O:GS⦄⦃F:List (Nat×Obj)⦄⦃P:List QB⦄⦃R:List Ob⦄⦃i:Option Bool⦄(H:Hid (CI w g G O F P R i v)) (h1:F6 bk k∈F:=by repeat (first|exact List.Mem.head _|apply List.Mem.tail)) (h2:Pf ba a∈F:=by repeat (first|exact List.Mem.head _|apply List.Mem.tail)) (h3:F5 bm g.mb∈F:=by repeat (first|exact List.Mem.head _|apply List.Mem.tail)) (hn:J O.Ab<=1000000:=by (try simp only[Pw]);omega) (hk:k<J O.Ab:=by (try simp only[Pw]);omega):
  Calls prog 154 #[iJ ba,iJ bm,iJ bk] v (λe v'=>e= qF (qC #[])/\Hid (CI w g G (O.Ba ⟨k,U a⟩) F P R i v')):=
 CI.mkF H rfl rfl (GS.Eh _ _) λc1 a1 A1 h K=>TC a ba bm bk k v {g with c:=c1,a:=a1,av:=A1} O F h K h1 h2 h3 hn hk
theorem zq (bm bk k:Nat)⦃w v:World⦄⦃g:MG⦄⦃G O:GS⦄⦃F:List (Nat×Obj)⦄⦃P:List QB⦄⦃R:List Ob⦄⦃i:Option Bool⦄(H:Hid (CI w g G O F P R i v)) (h1:F6 bk k∈F:=by repeat (first|exact List.Mem.head _|apply List.Mem.tail)) (h3:F5 bm g.mb∈F:=by repeat (first|exact List.Mem.head _|apply List.Mem.tail)) (hn:J O.Ab<=1000000:=by (try simp only[Pw]);omega) (hk:k<J O.Ab:=by (try simp only[Pw]);omega):
  Calls prog 174 #[iJ bm,iJ bk] v (λe v'=>e= qF (qC #[])/\Hid (CI w g G (O.Ba ⟨k,Z⟩) F P R i v')):=
 CI.mkF H rfl rfl (GS.Eh _ _) λc1 a1 A1 h K=>VZ bm bk k v {g with c:=c1,a:=a1,av:=A1} O F h K h1 h3 hn hk
theorem CI.Dh {g:MG} (h:CI w g G O F P [] (U V) v):StS O g G w (qF (qC #[])) v:=by
 obtain⟨c,a,AV,h⟩:=h;obtain⟨vs,ls,E,rfl,h2,h3,h4,h5⟩:=h.ab rfl;exact⟨rfl,c,a,vs,ls,E,h2,h.st,h3,h4,h5⟩
theorem CI.mks {g:MG} {ret:Value} (h:CI w g G O F P [] Z v):yB ret O g G w (qF ret) v:=by
 obtain⟨c,a,AV,h⟩:=h;obtain⟨rfl,rfl⟩:=h.ab;exact⟨rfl,c,h.st⟩
def AgC (p:Prop):Prop:=p
theorem AgR (h:p):AgC p:=h
theorem Ur {Pg:Program} {id:Nat} {a:Act} (h:AgC ((Code.region id Bf V).wp Pg Q a w)):(Code.region id Bf V).wp Pg Q a w:=h
def LN (_:List (Nat×Bool)) (_:Nat):Prop:=True
theorem AlE {id:Nat} {a:Act} {l:List (Nat×Bool)} (_:LN l n) (hS:PF w.drew P) (h:∀v,v=w.drew->BN prog Bf Q (λW=>PF W P) l a v)
  (hm:prog.follows .mixedOrders=V:=by kernel_rfl) (hlen:J l=Bf.size:=by kernel_rfl) (hsn:WU .any Bf n=V:=by kernel_rfl) (hsel:Region.noSelect Bf=V:=by kernel_rfl)
  (hk:SW .any Bf n l (Array.replicate Bf.size I)=V:=by kernel_rfl) (hQ:∀c a d v w,Q (.panic c) (Act.put a d v) w->Q (.panic c) a w:=by (intro c a d v w h;cases d<;>exact h)):(Code.region id Bf V).wp prog Q a w:=
 Cf _ n hS (h _ rfl) hm hlen hsn hsel hk hQ
theorem uK (n:Int) (k:Nat) (hn:0<=n/\n<=100) (hk:k<=100):wrap64 (n+(k:Int))=n+k:=IntWalk.wrap64_in _ Y
theorem Ae3 (n:Int) (k:Nat) (hn:0<=n/\n<=100) (hk:k<=100):IntKind.i64.wrap (n+(k:Int))=n+k:=IntWalk.i64_in _ Y
theorem AjJ (k:Nat) (hk:k<=100):wrap64 ((k:Int)+1)=k+1:=IntWalk.wrap64_in _ Y
theorem Af7 (k:Nat) (hk:k<=100):wrap64 (0+(k:Int))=k/\wrap64 (k:Int)=k:=⟨by rw[IntWalk.wrap64_in _ Y];omega,IntWalk.wrap64_in _ Y⟩
theorem wrs (k:Nat) (hk:k<=100):(True->wrap64 (0+(k:Int))=k)/\(True->wrap64 (k:Int)=k)/\(True->wrap64 (4+(k:Int))=4+k)/\(True->wrap64 (8+(k:Int))=8+k)/\(True->wrap64 (14+(k:Int))=14+k)/\(True->wrap64 (20+(k:Int))=20+k)/\(True->wrap64 (26+(k:Int))=26+k)/\(True->wrap64 (32+(k:Int))=32+k)/\
  (True->IntKind.i64.wrap (8+(k:Int))=8+k)/\(True->IntKind.i64.wrap (14+(k:Int))=14+k)/\(True->IntKind.i64.wrap (26+(k:Int))=26+k)/\(True->IntKind.i64.wrap (32+(k:Int))=32+k)/\(True->wrap64 ((k:Int)+1)=(k+1:Nat)):=
 ⟨λ_=>(Af7 k hk).1,λ_=>(Af7 k hk).2,λ_=>uK 4 k Do hk,λ_=>uK 8 k Do hk,λ_=>uK 14 k Do hk,λ_=>uK 20 k Do hk,λ_=>uK 26 k Do hk,λ_=>uK 32 k Do hk,λ_=>Ae3 8 k Do hk,λ_=>Ae3 14 k Do hk,λ_=>Ae3 26 k Do hk,λ_=>Ae3 32 k Do hk,λ_=>AjJ k hk⟩
def DeT (_:Int):Prop:=True
def CeT (_:Array Value) (_:TypeId):Prop:=True
theorem Afs (h:p:=by
  obtain⟨_,_,_,_,_,_,zp⟩:=H.out.Tf;repeat (obtain⟨_,_,zp⟩:=zp)
  unhygienic (go_wp2_with (with_reducible refine Ur ?_))
  (try revert K_3);(try revert K_2);(try revert K_1);(try revert K);(try revert Q'_1);(try revert Q')
  exact zk.out v H):p:=h
theorem AkJ (h:p:=by
  (try revert K_3);(try revert K_2);(try revert K_1);(try revert K);(try revert Q'_1);(try revert Q')
  exact zk.out v2 H2):p:=h
section
variable {P' R':Prop} {w:World} {g:MG} {G O:GS} {F:List (Nat×Obj)} {P:List QB} {R:List Ob} {i:Option Bool}
theorem MW (k:(∀v,Hid (CI w g G O F P R i v)->X v)) (h:Hid (∀v,Hid (CI w g G O F P R i v)->X v)->P':=by
  intro zk v H
  unhygienic intros
  exact Afs):P':=h k
theorem MWL {X:SG->World->Prop} (k:(∀c v,Hid (CI w g G O F P R i v)->X c v)) (h:Hid (∀c v,Hid (CI w g G O F P R i v)->X c v)->P':=by
  intro zk v H
  unhygienic intros
  obtain⟨_,_,_,_,_,_,zp⟩:=H.out.Tf;obtain⟨zC,_⟩:=H.out.AcS;repeat (obtain⟨_,_,zp⟩:=zp)
  unhygienic (go_wp2_with (with_reducible refine Ur ?_))
  (try revert K_3);(try revert K_2);(try revert K_1);(try revert K);(try revert Q'_1);(try revert Q')
  exact zk.out zC v H):P':=h k
theorem MK (t:R') (k:(∀v,Hid (CI w g G O F P R i v)->X v)) (h:R'->Hid (∀v,Hid (CI w g G O F P R i v)->X v)->P':=by
  intro zt zk v H
  unhygienic intros
  refine(zt H).mono ?_;clear zt H;rintro e v ⟨rfl,H⟩;exact Afs):P':=h t k
theorem MKL {X:SG->World->Prop} (t:R') (k:(∀c v,Hid (CI w g G O F P R i v)->X c v)) (h:R'->Hid (∀c v,Hid (CI w g G O F P R i v)->X c v)->P':=by
  intro zt zk v H
  unhygienic intros
  refine(zt H).mono ?_;clear zt H;rintro e v ⟨rfl,H⟩;obtain⟨_,_,_,_,_,_,zp⟩:=H.out.Tf;obtain⟨zC,_⟩:=H.out.AcS;repeat (obtain⟨_,_,zp⟩:=zp)
  unhygienic (go_wp2_with (with_reducible refine Ur ?_))
  (try revert K_3);(try revert K_2);(try revert K_1);(try revert K);(try revert Q'_1);(try revert Q')
  exact zk.out zC v H):P':=h t k
theorem MZ {X:Nat->Nat->Nat->World->Prop} (t:R') (k:(∀ba bm bk v,Hid (CI w g G O (F6 bk n::Pf ba a0::F5 bm g.mb::F) P R i v)->X ba bm bk v)) (h:R'->Hid (∀ba bm bk v,Hid (CI w g G O (F6 bk n::Pf ba a0::F5 bm g.mb::F) P R i v)->X ba bm bk v)->P':=by
  intro zt zk v H
  unhygienic intros
  refine(zt H).mono ?_;clear zt H;rintro e v ⟨ba,bm,bk,rfl,H⟩;obtain⟨_,_,_,_,_,_,zp⟩:=H.out.Tf;repeat (obtain⟨_,_,zp⟩:=zp)
  unhygienic (go_wp2_with (with_reducible refine Ur ?_))
  (try revert K_3);(try revert K_2);(try revert K_1);(try revert K);(try revert Q'_1);(try revert Q')
  exact zk.out ba bm bk v H):P':=h t k
theorem MJJ {X:Nat->Nat->World->Prop} (t:R') (k:(∀bm bk v,Hid (CI w g G O (F6 bk n::F5 bm g.mb::F) P R i v)->X bm bk v)) (h:R'->Hid (∀bm bk v,Hid (CI w g G O (F6 bk n::F5 bm g.mb::F) P R i v)->X bm bk v)->P':=by
  intro zt zk v H
  unhygienic intros
  refine(zt H).mono ?_;clear zt H;rintro e v ⟨bm,bk,rfl,H⟩;obtain⟨_,_,_,_,_,_,zp⟩:=H.out.Tf;repeat (obtain⟨_,_,zp⟩:=zp)
  unhygienic (go_wp2_with (with_reducible refine Ur ?_))
  (try revert K_3);(try revert K_2);(try revert K_1);(try revert K);(try revert Q'_1);(try revert Q')
  exact zk.out bm bk v H):P':=h t k
theorem CI.fJ (_:CeT cs T) (h:CI w g G O F P R i v):∃b v2,b=v.heap.size/\v2=v.alloc (qG cs T)/\(b≠g.mb/\w.heap.size<=b)/\Hid (CI w g G O F ((b,cs,T)::P) R i v2):=by
 have m:=h.Tf.2.2.2.2.2.1;exact⟨_,_,rfl,rfl,⟨Y,by obtain⟨_,_,_,q⟩:=h;exact q.st.mod.size⟩,h.new _ _ _ _ rfl rfl⟩
theorem MA {X:Nat->World->Prop} (cs:Array Value) (T:TypeId) (k:(∀b,b≠g.mb/\w.heap.size<=b->∀v,Hid (CI w g G O F ((b,cs,T)::P) R i v)->X b v)) (h:CeT cs T->Hid (∀b,b≠g.mb/\w.heap.size<=b->∀v,Hid (CI w g G O F ((b,cs,T)::P) R i v)->X b v)->P':=by
  intro zz zk v H
  unhygienic intros
  obtain⟨b,v2,hb,hv,hn,H2⟩:=CI.fJ zz H.out
  (try simp only[<-hb]);rw[<-hv]
  clear zz H hb hv
  (try revert K_3);(try revert K_2);(try revert K_1);(try revert K);(try revert Q'_1);(try revert Q')
  exact zk.out b hn v2 H2):P':=h trivial k
theorem CI.AkQ {d:Int} (_:DeT d) (h:CI w g G O F P R i v):∃v2,v2=v.setCell ⟨g.mb,5,Z⟩ (iI d)/\Hid (CI w g G (O.dp d) F P R i v2):=⟨_,rfl,h.Af _ _ rfl⟩
theorem MD (d:Int) (k:(∀v,Hid (CI w g G (O.dp d) F P R i v)->X v)) (h:DeT d->Hid (∀v,Hid (CI w g G (O.dp d) F P R i v)->X v)->P':=by
  intro zz zk v H
  unhygienic intros
  obtain⟨v2,hv,H2⟩:=CI.AkQ zz H.out;rw[<-hv];clear zz H hv;exact AkJ):P':=h trivial k
theorem MR (l:List (Nat×Bool)) (n:Nat) (k:(∀v,Hid (CI w g G O F P R i v)->X v)) (h:LN l n->Hid (∀v,Hid (CI w g G O F P R i v)->X v)->P':=by
  intro zz zk v H
  unhygienic intros
  refine AgR (AlE zz (H.out.drew _ rfl).pf ?_);intro v2 hv;have H2:=D (H.out.drew v2 hv);clear zz H hv;refine Od ?_;exact AkJ):P':=h trivial k
theorem ME (t:R') (k:(∀v,Hid (CI w g G O F P R i v)->X v)) (h:R'->Hid (∀v,Hid (CI w g G O F P R i v)->X v)->P':=by
  intro zt zk v H
  unhygienic intros
  refine AI rfl (λzK hK=>?_);go_simp;refine(zt H).mono ?_;clear zt H;rintro e v ⟨rfl,H⟩;refine hK _ _ (λ_=>H.out.pf) ?_;clear hK zK;refine Od ?_
  (try revert K_3);(try revert K_2);(try revert K_1);(try revert K);(try revert Q'_1);(try revert Q')
  exact zk.out v H):P':=h t k
theorem MEZ {X:Nat->Nat->Nat->World->Prop} (t:R') (k:(∀ba bm bk v,Hid (CI w g G O (F6 bk n::Pf ba a0::F5 bm g.mb::F) P R i v)->X ba bm bk v)) (h:R'->Hid (∀ba bm bk v,Hid (CI w g G O (F6 bk n::Pf ba a0::F5 bm g.mb::F) P R i v)->X ba bm bk v)->P':=by
  intro zt zk v H
  unhygienic intros
  refine AI rfl (λzK hK=>?_);go_simp;refine(zt H).mono ?_;clear zt H;rintro e v ⟨ba,bm,bk,rfl,H⟩;refine hK _ _ (λ_=>H.out.pf) ?_;clear hK zK;refine Od ?_
  (try revert K_3);(try revert K_2);(try revert K_1);(try revert K);(try revert Q'_1);(try revert Q')
  exact zk.out ba bm bk v H):P':=h t k
theorem ML (t:R') (k:(∀v,Hid (CI w g G O F P R i v)->X v)) (h:R'->Hid (∀v,Hid (CI w g G O F P R i v)->X v)->P':=by
  intro zt zk v H
  unhygienic intros
  refine AI rfl (λzK hK=>?_);go_simp;refine(zt H).mono ?_;clear zt H;rintro e v ⟨rfl,H⟩;refine hK _ _ (λh=>Jk rfl h) ?_;clear hK zK;simp only[BN];exact Afs):P':=h t k
theorem MLL {X:SG->World->Prop} (t:R') (k:(∀c v,Hid (CI w g G O F P R i v)->X c v)) (h:R'->Hid (∀c v,Hid (CI w g G O F P R i v)->X c v)->P':=by
  intro zt zk v H
  unhygienic intros
  refine AI rfl (λzK hK=>?_);go_simp;refine(zt H).mono ?_;clear zt H;rintro e v ⟨rfl,H⟩;refine hK _ _ (λh=>Jk rfl h) ?_;clear hK zK;simp only[BN];obtain⟨_,_,_,_,_,_,zp⟩:=H.out.Tf;obtain⟨zC,_⟩:=H.out.AcS;repeat (obtain⟨_,_,zp⟩:=zp)
  unhygienic (go_wp2_with (with_reducible refine Ur ?_))
  (try revert K_3);(try revert K_2);(try revert K_1);(try revert K);(try revert Q'_1);(try revert Q')
  exact zk.out zC v H):P':=h t k
theorem MLp (k:(∀v,Hid (CI w g G O F P R i v)->X v)) (h:Hid (∀v,Hid (CI w g G O F P R i v)->X v)->P':=by
  intro zk v H
  unhygienic intros
  refine AI rfl (λzK hK=>?_);go_simp;refine hK _ _ (λh=>Jk rfl h) ?_;clear hK zK;simp only[BN];exact Afs):P':=h k
end
theorem GS.rC (g:GS) (f s:Int) (a:At):(g.EN f s a).Ac=g.Ac:=(Ar.EN (Ar.refl g) f s a).Ac
theorem GS.mh (g:GS) (f s:Int) (a:At):(g.EN f s a).BM=g.BM:=by
 unfold GS.EN;simp only[GS.cI,GS.pL,GS.p5,GS.iq,GS.LL]
theorem oH (w:World) (g:MG) (G:GS) (h:Aq w (g.Ay G)) (hn:J G.Ab<=999900) (ha:J g.av<=J G.Ab) (Fo:CF G.Ac):
  Calls prog 157 #[iJ g.mb] w (yB (qC #[]) G.Gf g G w):=by
 refine CI.begin [] [] Z h (AY.nil _ _) (AY.nil _ _) Fo ha ?_;clear h Fo;intro v H;go_enter func157,ntmps157
 revert v H
 refine MW ?_;refine MK (xN 0) ?_;refine MKL (aC (.Y4 1 (.n 0))) ?_;intro cc;refine MK (LH 39) ?_;refine MK (xlo 2 39) ?_;refine MK (xR 1) ?_;refine MK (xR 2) ?_;refine MK (gQ cR 2 (.r 1) (.r 2)) ?_;refine MK (xR 2) ?_;refine MZ (WG (.r 2)) ?_;intro bad bmd bkd;refine MK (xof 40 1) ?_;refine MK (zm 2 40 1) ?_;refine MK (xR 2) ?_;refine MK (aC (.out (.r 2))) ?_;refine MK (xR 1) ?_;refine MK (xN 1) ?_;refine MK (gQ KG 1 (.r 1) (.n 1)) ?_;refine MK (aC (.GF _)) ?_;refine MK (KV (.r 2) bad bmd bkd _) ?_;intro v H
 go_end0
 exact H.out.mks
theorem oK (r:Int) (w:World) (g:MG) (G:GS) (h:Aq w (g.Ay G)) (hn:J G.Ab<=999950) (ha:J g.av<=J G.Ab) (Fo:CF G.Ac):
  Calls prog 152 #[iJ g.mb,iI r] w (StS (G.KC r) g G w):=by
 refine CI.begin [] [] (U V) h (AY.nil _ _) (AY.nil _ _) Fo ha ?_;clear h Fo;intro v H;go_enter func152,ntmps152
 revert v H
 refine MW ?_;refine MK (xR r) ?_;refine MK (xN 1) ?_;refine MK (gQ aS 3 (.r r) (.n 1)) ?_;refine MK (xR 3) ?_;refine MK (xN 0) ?_;refine MK (gQ cS 3 (.r 3) (.n 0)) ?_;refine MK (eM 3) ?_;refine MK (xR r) ?_;refine MK (xN 1) ?_;refine MK (gQ Y1 3 (.r r) (.n 1)) ?_;refine MK (LH 38) ?_;refine MK (xlo 4 38) ?_;refine MK (xR 4) ?_;refine MK (xR 3) ?_;refine MK (gQ cR 3 (.r 4) (.r 3)) ?_;refine MK (xR 3) ?_;refine MK (xN 0) ?_;refine MK (gQ cS 3 (.r 3) (.n 0)) ?_;refine MK (eM 3) ?_;intro v H
 go_end0
 exact H.out.Dh
theorem zj (r:Int)⦃w v:World⦄⦃g:MG⦄⦃G O:GS⦄⦃F:List (Nat×Obj)⦄⦃P:List QB⦄⦃i:Bool⦄(H:Hid (CI w g G O F P [] (U i) v)) (hn:J O.Ab<=999950:=by (try simp only[Pw]);omega):
  Calls prog 152 #[iJ g.mb,iI r] v (λe v'=>e= qF (qC #[])/\Hid (CI w g G (O.KC r) F P [] (U i) v')):=
 CI.ab H (GS.YT _ _) λc1 a1 A1 h hb ha=>oK r v {g with c:=c1,a:=a1,av:=A1} O h hn ha hb
theorem vZ (w:World) (g:MG) (G:GS) (h:Aq w (g.Ay G)) (hn:J G.Ab<=999900) (ha:J g.av<=J G.Ab) (Fo:CF G.Ac):
  Calls prog 137 #[iJ g.mb] w (StS (G.SL) g G w):=by
 refine CI.begin [] [] (U V) h (AY.nil _ _) (AY.nil _ _) Fo ha ?_;clear h Fo;intro v H;go_enter func137,ntmps137
 revert v H
 refine MW ?_;refine MK (xof 8 0) ?_;refine MK (zm 1 8 0) ?_;refine MK (xR 1) ?_;refine MZ (WG (.r 1)) ?_;intro baf bmf bkf;refine MK (xof 14 0) ?_;refine MK (zm 1 14 0) ?_;refine MJJ r6 ?_;intro bmd bkd;refine MK (KV (.r 1) baf bmf bkf _) ?_;refine MK (xR 0) ?_;refine MA #[qB V,iI 0,iI 8] 270 ?_;intro p hp;refine MK (r4 2 (.r 0) 8) ?_;refine MK (zj 2) ?_;refine MK (xR 0) ?_;refine MK (r4 1 (.r 0) 0) ?_;refine MK (r4 3 (.r 0) 8) ?_;refine MK (xR 3) ?_;refine MK (xR 2) ?_;refine MK (gQ cS 3 (.r 3) (.r 2)) ?_;refine MK (eM 3) ?_;refine MK (xof 20 0) ?_;refine MK (xN 1) ?_;refine MK (zg 20 0 (.n 1)) ?_;refine MK (zq bmd bkd _) ?_;intro v H
 go_end0
 exact H.out.Dh
theorem oP (f s:Int) (a:At) (w:World) (g:MG) (G:GS) (h:Aq w (g.Ay G)) (hn:J G.Ab<=999900) (ha:J g.av<=J G.Ab) (Fo:CF G.Ac) (hok:DO a):
  Calls prog 136 #[iJ g.mb,qD #[iI f,iI s,qB a.AX,iI a.v]] w (yB (qC #[]) (G.EN f s a) g G w):=by
 refine CI.begin [] [] Z h (AY.nil _ _) (AY.nil _ _) Fo ha ?_;clear h Fo;intro v H;go_enter func136,ntmps136
 revert v H
 have FD:=GS.Dz G a 0;refine MW ?_;refine MA #[iI f,iI s,qB a.AX,iI a.v] 241 ?_;intro b hb;refine MK (PJ a 0) ?_;refine MA #[qB (GS.BD a 0).Dd,iI (GS.BD a 0).v] 264 ?_;intro b2 VI;refine MR (sq [2] 0 3) 3 ?_;refine ME (xN 0) ?_;refine ML (gQ cR 3 (GS.BD a 0) (.n 0)) ?_;refine MK (xR 3) ?_;refine MZ (WG (.r 3)) ?_;intro balow bmlow bklow;refine MK (aC (.CR 2)) ?_;refine MK (KV (.r 3) balow bmlow bklow _) ?_;refine MR (sq [4] 0 5) 5 ?_;refine ME (xN s) ?_;refine ML (gQ cR 3 (GS.BD a 0) (.n s)) ?_;refine MK (xR 3) ?_;refine MK (xN 0) ?_;refine MK (gQ cS 3 (.r 3) (.n 0)) ?_;refine MK (xR 3) ?_;refine MZ (WG (.r 3)) ?_;intro bahigh bmhigh bkhigh;refine MK (aC (.CR 2)) ?_;refine MK (KV (.r 3) bahigh bmhigh bkhigh _) ?_;refine MR (sq [4] 0 5) 5 ?_;refine ME (xN f) ?_;refine ML (gQ KG 0 (GS.BD a 0) (.n f)) ?_;intro v H
 go_end0
 exact H.out.mks
theorem ir (c tb:Int) (bs:Nat)⦃w v:World⦄⦃g:MG⦄⦃G O:GS⦄⦃F:List (Nat×Obj)⦄⦃P:List QB⦄⦃R:List Ob⦄⦃i:Option Bool⦄(H:Hid (CI w g G O F P R i v)) (hn:J O.Ab<=999900:=by (try simp only[Pw]);omega) (hp:(bs,#[iJ g.mb],166)∈P:=by simp) (hc:0<=c/\c<=100:=by omega) (ht:0<=tb/\tb<=100:=by omega):
  Calls prog 175 #[iI c,iI tb,iJ bs] v (λe v'=>∃ba bm bk,e= qF (.func (.func 154) #[] #[iJ ba,iJ bm,iJ bk])/\Hid (CI w g G ((O.lo 1 (tb+c)).CG (.r 1)) (F6 bk (O.lo 1 (tb+c)).Ab.length::Pf ba (.r 1)::F5 bm g.mb::F) P R i v')):=by
 have hw:wrap64 (tb+c)=tb+c:=IntWalk.wrap64_in _ Y;have KT:IntKind.i64.wrap (tb+c)=tb+c:=by rw[IntWalk.i64_left];exact hw
 replace H:=D (H.Abv hp);clear hp;go_enter func175,ntmps175
 revert v H
 refine MW ?_;refine MR (sq [5] 0 6) 6 ?_;refine ME (LH (tb+c)) ?_;refine ML (xlo 1 (tb+c)) ?_;refine MR (sq [1,2] 0 3) 3 ?_;refine ME (xR 1) ?_;refine MEZ (WG (.r 1)) ?_;intro ba bm bk;refine MLp ?_;intro v H;go_ret;exact⟨ba,bm,bk,rfl,D H.AlO⟩
theorem GS.ej (i:Nat) (g:GS):(GS.Pe i g).Ab.length=J g.Ab+4:=by unfold GS.Pe;simp only[Pw]
theorem GS.dj (i:Nat) (g:GS):(GS.O8 i g).Ab.length=J g.Ab+2:=by unfold GS.O8;simp only[Pw]
theorem oQ (C5:Nat) (w:World) (g:MG) (G:GS) (h:Aq w (g.Ay G)) (hn:J G.Ab<=999000) (ha:J g.av<=J G.Ab) (Fo:CF G.Ac) (B8:0<=G.cells/\G.cells<=100):
  Calls prog 158 #[iJ g.mb,iI (C5:Int)] w (yB (qC #[]) (G.Gb C5) g G w):=by
 refine CI.begin [] [] Z h (AY.nil _ _) (AY.nil _ _) Fo ha ?_;clear h Fo;intro v H;go_enter func158,ntmps158
 revert v H
 refine MW ?_;intro v H
 intros
 go_loopw [11] (λiv wr=>LR GS.Pe G.cells w g G G [] [] [] Z iv wr) (λiv _=>(G.cells:Int).toNat-(intOf iv).toNat);case atStart=>exact LR.start B8.1 H.out
 case round=>
  clear H;obtain⟨k,Gk,rfl,VE,hl,HG,HC,H⟩:=LR.open hrel GS.ej (Ar.Pe);clear hrel;by_cases hk:(k:Int)<G.cells
  .have Vh:J Gk.Ab<=999500:=Y
   have ax:k<=100:=Y
   obtain⟨z0,z1,z2,z3,z4,z5,z6,z7,y0,y1,y2,y3,zi⟩:=wrs k ax;clear hl
   revert wr H
   refine MW ?_;refine MK (LH (26+k)) ?_;refine MK (xlo 1 (26+k)) ?_;refine MK (xR 1) ?_;refine MZ (WG (.r 1)) ?_;intro bas bms bks;refine MK (LH (32+k)) ?_;refine MK (xlo 2 (32+k)) ?_;refine MK (xN (8+k)) ?_;refine MK (xR 2) ?_;refine MK (zh (8+k) (.r 2)) ?_;refine MK (KV (.r 1) bas bms bks _) ?_;exact mbv
  .have Pt:k=G.cells.toNat:=Y
   rw[Pt] at HG;have Vh:J Gk.Ab<=999500:=Y
   replace hk:=JJ hk;clear hl VE Pt;obtain⟨G1,hG1⟩:∃z,z=Gk:=⟨_,rfl⟩;rw[<-hG1] at HG HC H Vh;have HG1:=HG;clear hG1 HG HC
   revert wr H
   refine MW ?_;intro v H
   intros
   go_loopw [39] (λiv wr=>LR GS.O8 4 w g G G1 [] [] [] Z iv wr) (λiv _=>(4:Int).toNat-(intOf iv).toNat);case atStart=>exact LR.start Do H.out
   case round=>
    clear H;obtain⟨k,Gk,rfl,VE,hl,HG,HC,H⟩:=LR.open hrel GS.dj (Ar.O8);clear hrel;by_cases hk:(k:Int)<4
    .have Vh:J Gk.Ab<=999900:=Y
     have ax:k<=100:=Y
     clear hl
     revert wr H
     refine MW ?_;refine MK (LH (4+k)) ?_;refine MK (xlo 1 (4+k)) ?_;refine MK (LH k) ?_;refine MK (xR 1) ?_;refine MK (rZ k (.r 1)) ?_;exact mbv
    .have Pt:k=(4:Int).toNat:=Y
     rw[Pt] at HG;have Vh:J Gk.Ab<=999900:=Y
     replace hk:=JJ hk;clear hl VE Pt;obtain⟨G2,hG2⟩:∃z,z=Gk:=⟨_,rfl⟩;rw[<-hG2] at HG HC H Vh;have HG2:=HG;clear hG2 HG HC
     revert wr H
     refine MW ?_;refine MK (aC (.GF C5)) ?_;intro v H
     intros
     go_end0
     have e:G.Gb C5=G2.AQ (.GF C5):=by rw[HG2.out,HG1.out];rfl
     rw[e];exact H.out.mks
def Ky (op:Option Addr) (n oc:Nat) (cs:List SG) (l:List (List GI)):List Ob:=.row (m9 op n oc) 158 1 n (BF cs l)::List.zipWith DR cs l
theorem Aji {α:Type} (b c a o:α) (R:List α):([b,c,a]++o::R).Perm ((o::(R++[c]))++[b,a]):=by
 refine J4.trans ?_;have:(o::R)++[c,b,a]=(o::(R++[c]))++[b,a]:=EQ
 rw[<-this];exact Qn _ (List.Perm.swap _ _ _)
theorem Agz:(prog.info? 157).map (λi=>i.size)=U 2:=Fd
theorem mu (b:Nat) (w:World) (h0:w.cell? ⟨b,0,Z⟩=U (iJ b)):
  Calls prog 103 #[iJ b] w λe w'=>e= qF (qC #[])/\w'=w:=by
 obtain⟨j,hj,_⟩:=Jj.1 Agz;go_enter func103,ntmps103;go_wp2;rw[Lib.run_neq_ptr_same w _ underlying154 hj];go_wp2
 go_end0
 exact⟨rfl,rfl⟩
theorem gC (b:Nat) (w:World) (h0:w.cell? ⟨b,0,Z⟩=U (qE Z)) (GU:w.shape? b=U (157,2)) (hfz:w.frozen? ⟨b,0,Z⟩=I):
  Calls prog 103 #[iJ b] w λe w'=>e= qF (qC #[])/\w'=w.setCell ⟨b,0,Z⟩ (iJ b):=by
 obtain⟨j,hj,hjs⟩:=Jj.1 Agz;go_enter func103,ntmps103;go_wp2;rw[Lib.run_to_unsafe w ⟨b,0,Z⟩ underlying154 underlying174 hj (by rw[hjs];decide) GU (Nat.zero_lt_succ 1)];simp only[Result.andThen];rw[Oper.upon_value];go_wp2;rw[run_callFunc_extern func130 Fd Fd Fd (e:=Extern.AbiNoEscape.same) Fd];rw[Lib.run_noEscape];simp only[Result.andThen];rw[Oper.upon_value];go_wp2;rw[Lib.run_from_unsafe w ⟨b,0,Z⟩ underlying174 underlying154 hj GU Fd];simp only[Result.andThen];rw[Oper.upon_value];go_wp2
 go_end0
 exact⟨rfl,rfl⟩
theorem Adn (B b:Nat) (bs:List Value) (w:World) (h:Lib.IsBuilder 157 5 B b bs w):
  Calls prog 103 #[iJ b] w λe w'=>e= qF (qC #[])/\(Lib.BuilderAt 157 5 B b (iJ b) bs w'/\Below B w w'):=by
 rcases h with h|h
 .refine(gC b w h.cell0 h.shape h.frozen0).mono ?_;rintro e w' ⟨rfl,rfl⟩;exact⟨rfl,h.used _,(Below.refl B w).setCell h.1 _⟩
 .refine(mu b w h.cell0).mono ?_;rintro e w' ⟨rfl,rfl⟩;exact⟨rfl,h,Below.refl B _⟩
theorem td:(prog.info? 5).map (λi=>(i.zero,i.size,i.bytes))=U (U (.int .u8 0),1,1):=Fd
theorem AkX (B b:Nat) (bs:List Value) (c:Int) (w:World) (h:Lib.IsBuilder 157 5 B b bs w) (hlen:J bs+1<=140737488355328) (hBw:B<=w.heap.size):
  Calls prog 78 #[iJ b,.int .u8 c] w λe w'=>e= qF .nilIface/\(Lib.BuilderAt 157 5 B b (iJ b) (bs++[.int .u8 c]) w'/\Below B w w'):=by
 obtain⟨i0,hi,Lc,Lb,Mm⟩:=info_parts td;go_enter func78,ntmps78;go_wp2_with fail;refine(Adn B b bs _ h).mono ?_;rintro e w1 ⟨rfl,h1,Is⟩;obtain⟨hB,v,Xx,Cp,hne⟩:=h1;have c0:w1.cell? ⟨b,0,Z⟩=U (iJ b):=by rw[Lib.cell_of_heap Xx];rfl
 have c1:w1.cell? ⟨b,1,Z⟩=U v:=by rw[Lib.cell_of_heap Xx];rfl
 go_wp2_with (at_builtin;refine wpList_append_own _ rfl _ _ 155 rfl B 5 i0 (.int .u8 0) 1 1 underlying155 hi Lc Lb Mm rfl Do _ _ _ rfl (Cp.alloc _) ⟨w1.heap.size,0,Z⟩ 1 1 [.int .u8 c] rfl rfl ?c1 ?c2 ?c3 ?c4 ?c5 ?_);case c1=>
  intro j u hj
  match j,hj with
  |0,hj=>simp at hj;subst hj;simp[Addr.add]
 case c2=>intro u hu;simp at hu;subst hu;rfl
 case c3=>unfold maxLen;omega
 case c4=>omega
 case c5=>have:=Is.size;simp;omega
 intro v' w2 lu EH _;have hlt:b<w1.heap.size:=by
  exact mby
 have VI:w2.heap[b]?=U (qG #[iJ b,v] 157 (0,0)):=by
  rw[EH.block b (by simp;omega) (λe=>hne e.symm),Lib.alloc_old w1 _ b hlt];exact Xx
 have d1:w2.cell? ⟨b,1,Z⟩=U v:=by rw[Lib.cell_of_heap VI];rfl
 have f1:=Lib.frozen_of_heap VI 1;obtain⟨g,cap,rfl⟩:∃g cap,v'= m9 (U ⟨g,0,Z⟩) (J bs+1) cap:=by
  rcases lu.2 with⟨_,h0⟩|⟨g,cap,Ic,hv,_⟩
  .omega
  .exact⟨g,cap,hv⟩
 go_wp2;go_ret;refine⟨rfl,?_,?_⟩
 .exact Lib.BuilderAt.put (T:=157) (e:=5) hB VI (bs':=bs++[.int .u8 c]) (by simpa using lu) Do
 .exact((Is.alloc (by have:=Is.size;omega) _).grown EH (by have:=Is.size;simp;omega) (λk hk=>(Cp.lt k hk).1)).setCell (p:=⟨b,1,Z⟩) hB _
theorem AfQ (B b:Nat) (bs:List Value) (s:ByteArray) (w:World) (h:Lib.IsBuilder 157 5 B b bs w) (hlen:J bs+s.size<=140737488355328) (hBw:B<=w.heap.size):
  Calls prog 77 #[iJ b,qA s] w λe w'=>e= qF (qC #[iI s.size,.nilIface])/\(Lib.BuilderAt 157 5 B b (iJ b) (bs++Lib.strCells s) w'/\Below B w w'):=by
 obtain⟨i0,hi,Lc,Lb,Mm⟩:=info_parts td;go_enter func77,ntmps77;go_wp2_with fail;refine(Adn B b bs _ h).mono ?_;rintro e w1 ⟨rfl,h1,Is⟩;obtain⟨hB,v,Xx,Cp,hne⟩:=h1;have c0:w1.cell? ⟨b,0,Z⟩=U (iJ b):=by rw[Lib.cell_of_heap Xx];rfl
 have c1:w1.cell? ⟨b,1,Z⟩=U v:=by rw[Lib.cell_of_heap Xx];rfl
 go_wp2_with (at_builtin;refine Lib.wpList_append_own_string _ rfl _ _ 155 9 rfl B 5 i0 underlying155 underlying9 hi Lc Lb Mm _ _ _ rfl Cp s rfl ?c3 ?c4 ?c5 ?_);case c3=>unfold maxLen;omega
 case c4=>omega
 case c5=>have:=Is.size;omega
 intro v' w2 lu EH _;have hlt:b<w1.heap.size:=by
  exact mby
 have VI:w2.heap[b]?=U (qG #[iJ b,v] 157 (0,0)):=by
  rw[EH.block b hlt (λe=>hne e.symm)];exact Xx
 have d1:w2.cell? ⟨b,1,Z⟩=U v:=by rw[Lib.cell_of_heap VI];rfl
 have f1:=Lib.frozen_of_heap VI 1;obtain⟨ao,n',cap,rfl⟩:∃ao n' cap,v'= m9 ao n' cap:=by
  rcases lu.2 with⟨hv,_⟩|⟨g,cap,Ic,hv,_⟩
  .exact⟨_,_,_,hv⟩
  .exact⟨_,_,_,hv⟩
 go_wp2;go_ret2;refine⟨rfl,?_,?_⟩
 .exact Lib.BuilderAt.put (T:=157) (e:=5) hB VI (bs':=bs++Lib.strCells s) (by simpa[Lib.strCells_length] using lu) Do
 .exact(Is.grown EH (by have:=Is.size;omega) (λk hk=>(Cp.lt k hk).1)).setCell (p:=⟨b,1,Z⟩) hB _
