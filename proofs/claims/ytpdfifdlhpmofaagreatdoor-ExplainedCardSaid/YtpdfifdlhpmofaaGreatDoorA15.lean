/- Part 15 of the proof. -/
import Derived.Test.YtpdfifdlhpmofaaGreatDoorA04
import Derived.Test.YtpdfifdlhpmofaaGreatDoorShelf
set_option linter.unusedVariables false
set_option linter.unusedSimpArgs false
set_option maxHeartbeats 0
set_option maxRecDepth 99999
namespace Go.Proofs.YtpdfifdlhpmofaaGreatDoor
open Go.RowKit Tryz
open Value renaming slice->qD,string->qE,bool->qF,tuple->qG,agg->qH,pointer->qI
open Ending renaming returned->qJ
open Obj renaming cells->qK
open Option renaming none->Z,some->U
open Bool renaming true->V,false->I
open Go.Lib renaming hid->D
open List renaming length->J
theorem mbz {p:Prop} (h:p:=by
 intro v H;go_roundw;case rel=>exact LR.next HG hk H.out EQ EQ
 case measure=>simp[intOf];omega):p:=h
theorem mbC {p:Prop} (h:p:=by
 rcases jR b w1.heap.size with h'|h'
 .exact h'
 .simp[Array.getElem?_eq_none h'] at eG):p:=h
variable {w v:World} {L L' R:List Ob} {E F:List (Nat×Obj)} {B g' g G O:GS} {n a b c m:Nat} {f:Nat->GS->GS} {cs:Array Value} {T:TypeId} {a0:Ag} {p:Prop} {Q:Exit->Act->World->Prop} {Bh:Array Oper} {X:World->Prop}
set_option linter.unusedVariables false
theorem AY.Ank {w':World} (kn:AY w' L' E) (hR:Aq w (L++R)) (hf:∀b o,(b,o)∈E->w.heap.size<=b):AY w' (L'++R) E:=
 ⟨kn.heap,λb o hb hl=>by
   rw[Bo,Jq] at hl;rcases hl with hl|hl
   · exact kn.out b o hb hl
   · have:=hR.lt b (by rw[Bo];exact Jc _ hl);have:=hf b o hb;omega⟩
theorem AY.left {A B:List Ob} (h:AY w (A++B) F):AY w A F:=
 ⟨h.heap,λb o hb hl=>h.out b o hb (by rw[Bo];exact IR _ hl)⟩
theorem AiK {x y z:Obj} (h:n<=a/\n<=b/\n<=c):∀q o,(q,o)∈[(c,x),(a,y),(b,z)]->n<=q:=by
 intro q o hq;simp only[Jl,Prod.mk.injEq,Qr,or_false] at hq;omega
abbrev QB:=Nat×Array Value×TypeId
variable {S P:List QB}
def qob (p:QB):Nat×Obj:=(p.1,qK p.2.1 p.2.2 (0,0))
def PF (w:World):List QB->Prop
 |[]=>True
 |p::r=>(∀i:Nat,w.cell? ⟨p.1,i,Z⟩=p.2.1[i]?)/\p.1<w.heap.size/\PF w r
theorem AY.pf:∀{P:List QB},AY w L (P.map qob)->PF w P
 |[],_=>trivial
 |(b,c,T)::r,h=>⟨h.cell (Je ..),h.lt (Je ..),AY.pf (h.sub λ_ hx=>Id _ hx)⟩
def AbI (i:Option Bool) (g:MG) (G O:GS) (a:SG) (AV:List Value) (L:List Ob) (v:World):Prop:=match i with
 |none=>a=g.a/\AV=g.av
 |some i=>i=V->∃vs ls E,AV=g.av++vs/\O.BN=G.BN++ls/\AY v L E/\VV E g.mb (J O.Ab) vs ls/\J vs+J G.Ab<=J O.Ab
structure CJ (w:World) (g:MG) (G O:GS) (c a:SG) (AV:List Value) (F:List (Nat×Obj)) (P:List QB) (R:List Ob) (i:Option Bool) (v:World):Prop where
 st:Af w (g.Az G) v (MG.Az {g with c:=c,a:=a,av:=AV} O++R)
 kf:AY v (MG.Az {g with c:=c,a:=a,av:=AV} O++R) F
 kp:AY v (MG.Az {g with c:=c,a:=a,av:=AV} O++R) (P.map qob)
 ab:AbI i g G O a AV (MG.Az {g with c:=c,a:=a,av:=AV} O++R) v
 hb:CK O.Ac
 al:J AV<=J O.Ab
def CI (w:World) (g:MG) (G O:GS) (F:List (Nat×Obj)) (P:List QB) (R:List Ob) (i:Option Bool) (v:World):Prop:=∃c a AV,CJ w g G O c a AV F P R i v
def GS.dp (g:GS) (d:Int):GS:={g with Ah:=d}
structure Ar (g' g:GS):Prop where
 Ac:g'.Ac=g.Ac
 cells:g'.cells=g.cells
 block:g'.block=g.block
 Ah:g'.Ah=g.Ah
theorem Ar.refl (g:GS):Ar g g:=⟨rfl,rfl,rfl,rfl⟩
theorem Ar.trans {a b c:GS} (h:Ar a b) (k:Ar b c):Ar a c:=⟨h.1.trans k.1,h.2.trans k.2,h.3.trans k.3,h.4.trans k.4⟩
theorem Ar.AP (h:Ar g' g) (i:GI):Ar (g'.AP i) g:=⟨h.1,h.2,h.3,h.4⟩
theorem Ar.Bd (h:Ar g' g) (l:Io):Ar (g'.Bd l) g:=⟨h.1,h.2,h.3,h.4⟩
theorem Ar.Kd (h:Ar g' g) (r:Int):Ar (g'.Kd r) g:=⟨h.1,h.2,h.3,h.4⟩
theorem Ar.Cn (h:Ar g' g) (a:At) (r:Int):Ar (g'.Cn a r) g:=by
 unfold GS.Cn;split
 .exact h.AP _
 .exact h
theorem Ar.KJ (h:Ar g' g) (r:Int):Ar (g'.KJ r) g:=
 ((((((((h.AP _).AP _).Kd _).AP _).AP _).AP _).AP _).Kd _)
theorem Ar.EP (h:Ar g' g) (f s:Int) (a:At):Ar (g'.EP f s a) g:=
 (((((((((h.Cn a 0).AP _).AP _).AP _).Bd _).AP _).AP _).AP _).AP _).Bd _ |>.AP _
theorem Ar.SR (h:Ar g' g):Ar g'.SR g:=
 ((((((((((((h.AP _).AP _).AP _).AP _).Bd _).AP _).KJ _).AP _).AP _).AP _).Kd _).AP _).Bd _
theorem Ar.OF (hf:∀i x y,Ar x y->Ar (f i x) y) (n:Nat) {g' g:GS} (h:Ar g' g):Ar (GS.OF f n g') g:=by
 induction n with
 |zero=>exact h
 |succ n ih=>exact hf n _ _ ih
theorem Ar.Re (i:Nat) (x y:GS) (h:Ar x y):Ar (GS.Re i x) y:=
 (((((((((h.AP _).AP _).AP _).KJ _).AP _).AP _).Kd _).AP _).AP _).Bd _
theorem Ar.Rc (i:Nat) (x y:GS) (h:Ar x y):Ar (GS.Rc i x) y:=
 (((((((((h.AP _).AP _).AP _).AP _).AP _).Bd _).AP _).KJ _).Bd _).Bd _
theorem Ar.Ze (i:Nat) (x y:GS) (h:Ar x y):Ar (GS.Ze i x) y:=((((h.AP _).AP _).AP _).AP _).Bd _
theorem Ar.Rx (i:Nat) (x y:GS) (h:Ar x y):Ar (GS.Rx i x) y:=(((h.AP _).AP _).AP _).Bd _
theorem Ar.Eh (h:Ar g' g):Ar g'.Eh g:=
 Ar.OF Ar.Rx _ (Ar.OF Ar.Ze _ (Ar.OF Ar.Rc _ ((((Ar.OF Ar.Re _ h).AP _).AP _).AP _)))
theorem Ar.GR (h:Ar g' g):Ar g'.GR g:=((((((((h.AP _).AP _).AP _).AP _).AP _).AP _).AP _).AP _).Bd _
theorem Ar.Pq (i:Nat) (x y:GS) (h:Ar x y):Ar (GS.Pq i x) y:=((((h.AP _).AP _).AP _).AP _).Bd _
theorem Ar.Pl (i:Nat) (x y:GS) (h:Ar x y):Ar (GS.Pl i x) y:=(h.AP _).AP _
theorem Ar.Pj (i:Nat) (x y:GS) (h:Ar x y):Ar (GS.Pj i x) y:=(h.AP _).AP _
theorem Ar.Kr (i:Nat) (x y:GS) (h:Ar x y):Ar (GS.Kr i x) y:=((h.AP _).AP _).AP _
theorem Ar.GB (h:Ar g' g) (C4:Nat):Ar (g'.GB C4) g:=(Ar.OF Ar.Pl _ (Ar.OF Ar.Pq _ h)).AP _
theorem Ar.uH (h:Ar g' g) (l:List Io):Ar (l.foldl GS.Bd g') g:=by
 induction l generalizing g' with
 |nil=>exact h
 |cons a r ih=>exact ih (h.Bd a)
section
variable {w v v':World} {g:MG} {G O O':GS} {c c' a:SG} {AV:List Value} {F:List (Nat×Obj)} {P:List QB} {R:List Ob} {i:Option Bool} {k:Nat} {fn:Nat} {args:Array Value} {ret:Value}
theorem AbI.start:AbI i g G G g.a g.av (g.Az G) w:=match i with
 |none=>⟨rfl,rfl⟩
 |some _=>λ_=>⟨[],[],[],(Jr _).symm,(Jr _).symm,AY.nil ..,.nil _ _ _,EQ⟩
theorem CI.begin {post:Ending->World->Prop} (F:List (Nat×Obj)) (P:List QB) (i:Option Bool) (h:Aq w (g.Az G)) (kf:AY w (g.Az G) F) (kp:AY w (g.Az G) (P.map qob)) (hb:CK G.Ac) (ha:J g.av<=J G.Ab) (k:∀v,Hid (CI w g G G F P [] i v)->Calls prog fn args v post):Calls prog fn args w post:=
 k w ⟨g.c,g.a,g.av,Af.refl h,kf,kp,.start,hb,ha⟩
theorem AbI.step (h:AbI i g G O a AV L v) (s:Af v L v' L') (ha:O'.BN=O.BN) (hl:J O.Ab<=J O'.Ab):AbI i g G O' a AV L' v':=by
 cases i with
 |none=>exact h
 |some i=>
  intro hi;obtain⟨vs,ls,E,h1,h2,h3,h4,h5⟩:=h hi;exact⟨vs,ls,E,h1,ha.trans h2,h3.step s,h4.up (λ_ h=>h) hl,Y⟩
theorem CJ.step (h:CJ w g G O c a AV F P R i v) (s:Af v (MG.Az {g with c:=c,a:=a,av:=AV} O) v' (MG.Az {g with c:=c',a:=a,av:=AV} O')) (ha:O'.BN=O.BN) (hb:O'.Ac=O.Ac) (hl:J O.Ab<=J O'.Ab):CJ w g G O' c' a AV F P R i v':=
 have s2:=Af.frame h.st.Ak s
 ⟨h.st.trans s2,h.kf.step s2,h.kp.step s2,h.ab.step s2 ha hl,h.hb.eq hb,Qb h.al hl⟩
theorem CJ.quiet (h:CJ w g G O c a AV F P R i v) (m:Aw [] v v'):CJ w g G O c a AV F P R i v':=
 have s2:=Af.quiet h.st.Ak m
 ⟨h.st.trans s2,h.kf.step s2,h.kp.step s2,h.ab.step s2 rfl (Jf _),h.hb,h.al⟩
theorem CI.quiet (h:CI w g G O F P R i v) (m:Aw [] v v'):CI w g G O F P R i v':=let ⟨c,a,AV,h⟩:=h;⟨c,a,AV,h.quiet m⟩
theorem CI.pf (h:CI w g G O F P R i v):PF v P:=let ⟨_,_,_,h⟩:=h;h.kp.pf
theorem CI.Tp (h:CI w g G O F P R i v):v.cell? ⟨g.mb,1,Z⟩=U (iI O.Ac)/\v.cell? ⟨g.mb,2,Z⟩=U (iI O.cells)/\v.cell? ⟨g.mb,3,Z⟩=U (qF O.block)/\v.cell? ⟨g.mb,5,Z⟩=U (iI O.Ah)/\(∀i:Nat,v.frozen? ⟨g.mb,i,Z⟩=I)/\g.mb<v.heap.size/\PF v P:=by
 obtain⟨c,a,AV,h⟩:=h;have m:=Dj (Af.AK h.st.Ak).Ak;exact⟨m.c 1,m.c 2,m.c 3,m.c 5,m.f,m.lt,h.kp.pf⟩
theorem CI.Adm (h:CI w g G O F P R i v):∃c:SG,v.cell? ⟨g.mb,0,Z⟩=U (qD c.p (J O.Ab) c.c):=by
 obtain⟨c,a,AV,h⟩:=h;have m:=Dj (Af.AK h.st.Ak).Ak;exact⟨c,m.c 0⟩
theorem CI.new (h:CI w g G O F P R i v) (b:Nat) (v2:World) (cs:Array Value) (T:TypeId) (hb:b=v.heap.size) (hv:v2=v.alloc (qK cs T)):CI w g G O F ((b,cs,T)::P) R i v2:=by
 subst hb hv;obtain⟨c,a,AV,h⟩:=h;have q:=h.quiet ((Aw.refl _ _).alloc (qK cs T));exact⟨c,a,AV,q.st,q.kf,h.kp.new h.st.Ak _,q.ab,q.hb,q.al⟩
theorem CI.Ah (h:CI w g G O F P R i v) (d:Int) (v2:World) (hv:v2=v.setCell ⟨g.mb,5,Z⟩ (iI d)):CI w g G (O.dp d) F P R i v2:=by
 subst hv;obtain⟨c,a,AV,h⟩:=h;have s:=Aq.set (Af.AK h.st.Ak).Ak (i:=0) rfl 5 (iI d);exact⟨c,a,AV,h.step s rfl rfl (Jf _)⟩
theorem CI.lO (h:CI w g G O F P R i v) (hp:(b,cs,T)∈P):CI w g G O F ((b,cs,T)::P) R i v:=
 let ⟨c,a,AV,h⟩:=h;⟨c,a,AV,h.st,h.kf,h.kp.sub λx hx=>(Jl.1 hx).elim (λe=>e▸Qe.2 ⟨_,hp,rfl⟩) id,h.ab,h.hb,h.al⟩
theorem CI.Amg {q:QB} (h:CI w g G O F (q::P) R i v):CI w g G O F P R i v:=
 let ⟨c,a,AV,h⟩:=h;⟨c,a,AV,h.st,h.kf,h.kp.sub λx hx=>Id _ hx,h.ab,h.hb,h.al⟩
theorem CI.sub (h:CI w g G O E S R i v) (hF:∀x,x∈F->x∈E) (hP:∀x,x∈P->x∈S):CI w g G O F P R i v:=
 let ⟨c,a,AV,h⟩:=h;⟨c,a,AV,h.st,h.kf.sub hF,h.kp.sub λx hx=>let ⟨y,hy,e⟩:=Qe.1 hx;Qe.2 ⟨y,hP y hy,e⟩,h.ab,h.hb,h.al⟩
theorem CI.Alh (h:CI w g G O F P R i v):CI w g G O F P [] i v:=
 let ⟨c,a,AV,h⟩:=h
 have s:=Af.AK h.st.Ak
 ⟨c,a,AV,h.st.trans s,h.kf.step s,h.kp.step s,h.ab.step s rfl (Jf _),h.hb,h.al⟩
def LR (f:Nat->GS->GS) (n:Int) (w:World) (g:MG) (G B:GS) (F:List (Nat×Obj)) (P:List QB) (R:List Ob) (i:Option Bool) (iv:Value) (v:World):Prop:=
 ∃k:Nat,iv= iI k/\(k:Int)<=n/\CI w g G (GS.OF f k B) F P R i v
theorem LR.start {n:Int} (hn:0<=n) (h:CI w g G B F P R i v):LR f n w g G B F P R i (iI 0) v:=⟨0,rfl,hn,h⟩
theorem Lt (hf:∀i x,(f i x).Ab.length=J x.Ab+m) (n:Nat) (g:GS):(GS.OF f n g).Ab.length=J g.Ab+n*m:=by
 induction n with
 |zero=>simp[GS.OF]
 |succ n ih=>simp only[GS.OF,hf,ih,jC];omega
theorem LR.open {n:Int} {iv:Value} (h:LR f n w g G B F P R i iv v) (hl:∀i x,(f i x).Ab.length=J x.Ab+m) (hs:∀i x y,Ar x y->Ar (f i x) y):
  ∃(k:Nat) (O:GS),iv= iI k/\(k:Int)<=n/\J O.Ab=J B.Ab+k*m/\Hid (O=GS.OF f k B)/\Hid (Ar O B)/\Hid (CI w g G O F P R i v):=by
 obtain⟨k,rfl,hk,h⟩:=h;exact⟨k,_,rfl,hk,Lt hl k B,rfl,Ar.OF hs k (Ar.refl B),h⟩
theorem LR.next {n:Int} {k:Nat} (hO:Hid (O=GS.OF f k B)) (hk:(k:Int)<n) (h:CI w g G (f k O) E S R i v) (hF:∀x,x∈F->x∈E) (hP:∀x,x∈P->x∈S):LR f n w g G B F P R i (iI (k+1:Nat)) v:=
 ⟨k+1,rfl,Y,by rw[GS.OF,<-hO.out];exact h.sub hF hP⟩
theorem CI.drew (h:CI w g G O F P R i v) (v2:World) (hv:v2=v.drew):CI w g G O F P R i v2:=hv▸h.quiet (Aw.refl _ _).drew
theorem CI.mk (H:Hid (CI w g G O F P R i v)) (ha:O'.BN=O.BN) (hb:O'.Ac=O.Ac) (hl:J O.Ab<=J O'.Ab)
  (k:∀c a AV,Aq v (MG.Az {g with c:=c,a:=a,av:=AV} O)->CK O.Ac->J AV<=J O.Ab->Calls prog fn args v (zS ret O' {g with c:=c,a:=a,av:=AV} O v)):
  Calls prog fn args v (λe v'=>e= qJ ret/\Hid (CI w g G O' F P R i v')):=by
 obtain⟨c,a,AV,h⟩:=H.out;refine(k c a AV (Af.AK h.st.Ak).Ak h.hb h.al).mono ?_;rintro e v' ⟨rfl,c',s⟩;exact⟨rfl,⟨c',a,AV,h.step s ha hb hl⟩⟩
theorem CI.q (H:Hid (CI w g G O F P R i v)) (k:∀c a AV,Aq v (MG.Az {g with c:=c,a:=a,av:=AV} O)->CK O.Ac->Calls prog fn args v (Kv ret v)):
  Calls prog fn args v (λe v'=>e= qJ ret/\Hid (CI w g G O F P R i v')):=by
 obtain⟨c,a,AV,h⟩:=H.out;refine(k c a AV (Af.AK h.st.Ak).Ak h.hb).mono ?_;rintro e v' ⟨rfl,m⟩;exact⟨rfl,⟨c,a,AV,h.quiet m⟩⟩
theorem CI.ab {j:Bool} (H:Hid (CI w g G O F P [] (U j) v)) (hb:O'.Ac=O.Ac)
  (k:∀c a AV,Aq v (MG.Az {g with c:=c,a:=a,av:=AV} O)->CK O.Ac->J AV<=J O.Ab->Calls prog fn args v (StS O' {g with c:=c,a:=a,av:=AV} O v)):
  Calls prog fn args v (λe v'=>e= qJ (qG #[])/\Hid (CI w g G O' F P [] (U j) v')):=by
 obtain⟨c,a,AV,h⟩:=H.out;refine(k c a AV h.st.Ak h.hb h.al).mono ?_;exact maD
theorem CI.zs {kk:Nat} (H:Hid (CI w g G O F P R i v)) (ha:O'.BN=O.BN) (hb:O'.Ac=O.Ac) (hl:J O.Ab<=J O'.Ab)
  (k:∀c a AV,Aq v (MG.Az {g with c:=c,a:=a,av:=AV} O)->CK O.Ac->AY v (MG.Az {g with c:=c,a:=a,av:=AV} O) (P.map qob)->Calls prog fn args v (λe v'=>∃ba bm bk c',e= qJ (.func (.func 154) #[] #[iJ ba,iJ bm,iJ bk])/\
    Af v (MG.Az {g with c:=c,a:=a,av:=AV} O) v' (MG.Az {g with c:=c',a:=a,av:=AV} O')/\AY v' (MG.Az {g with c:=c',a:=a,av:=AV} O') [Gf bk kk,Pr ba a0,Ge bm g.mb]/\(v.heap.size<=ba/\v.heap.size<=bm/\v.heap.size<=bk))):
  Calls prog fn args v (λe v'=>∃ba bm bk,e= qJ (.func (.func 154) #[] #[iJ ba,iJ bm,iJ bk])/\Hid (CI w g G O' (Gf bk kk::Pr ba a0::Ge bm g.mb::F) P R i v')):=by
 obtain⟨c,a,AV,h⟩:=H.out;refine(k c a AV (Af.AK h.st.Ak).Ak h.hb h.kp.left).mono ?_;rintro e v' ⟨ba,bm,bk,c',rfl,s,kn,hf⟩;have q:=h.step s ha hb hl;exact⟨ba,bm,bk,rfl,⟨c',a,AV,q.st,q.kf.gJ (AY.Ank kn h.st.Ak (AiK hf)),q.kp,q.ab,q.hb,q.al⟩⟩
end
theorem GS.OB (g:GS) (f s:Int) (a:At):(g.EP f s a).Ab.length=(g.Cn a 0).Ab.length+8:=by
 unfold GS.EP;simp only[GS.Lx,GS.Eg,GS.BS,GS.LH]
theorem PC:(∀(g:GS) (i:GI),(g.AP i).Ab.length=J g.Ab+1)/\(∀(g:GS) (n:ByteArray) (d:Int) (a b:Ag),(g.II n d a b).Ab.length=J g.Ab+1)/\(∀(g:GS) (a:Ag),(g.CL a).Ab.length=J g.Ab+1)/\(∀(g:GS),(g.CW).Ab.length=J g.Ab+1)/\(∀(g:GS) (l:Io),(g.Bd l).Ab.length=J g.Ab)/\(∀(g:GS) (r k:Int),(g.lo r k).Ab.length=J g.Ab+1)/\(∀(g:GS) (r t i:Int),(g.SL r t i).Ab.length=J g.Ab+1)/\(∀(g:GS) (r k:Int),(g.Pw r k).Ab.length=J g.Ab+1)/\(∀(g:GS) (k:Int) (a:Ag),(g.st k a).Ab.length=J g.Ab+1)/\(∀(g:GS) (t i:Int) (a:Ag),(g.I8 t i a).Ab.length=J g.Ab+1)/\(∀(g:GS) (k:Int) (a:Ag),(g.UP k a).Ab.length=J g.Ab+1)/\(∀(g:GS) (r:Int),(g.Kd r).Ab.length=J g.Ab+1)/\(∀(g:GS) (r:Int),(g.KJ r).Ab.length=J g.Ab+8)/\(∀(g:GS),J g.SR.Ab=J g.Ab+18)/\(∀(g:GS),J g.Ady.Ab=J g.Ab)/\(∀(g:GS),J g.fQ.Ab=J g.Ab)/\(∀(g:GS) (f s:Int) (a:At),(g.EP f s a).Ab.length=(g.Cn a 0).Ab.length+8)/\(∀(g:GS) (d:Int),(g.dp d).Ab.length=J g.Ab):=⟨GS.BS,GS.Lx,GS.LH,GS.FJ,GS.Eg,GS.Rf,GS.ZD,GS.l7,GS.L8,GS.UO,GS.AaO,GS.Ov,GS.dD,GS.mT,GS.sA,GS.oK,GS.OB,λ_ _=>rfl⟩
theorem GS.D6 (g:GS) (a:At) (r:Int):J g.Ab<=(g.Cn a r).Ab.length:=by
 unfold GS.Cn;split
 .rw[GS.Rf];omega
 .omega
theorem Oo (h:b=a+c):a<=b:=Y
theorem xN (k:Int)⦃w v:World⦄⦃g:MG⦄⦃G O:GS⦄⦃F:List (Nat×Obj)⦄⦃P:List QB⦄⦃R:List Ob⦄⦃i:Option Bool⦄(H:Hid (CI w g G O F P R i v)):
  Calls prog 139 #[iI k] v (λe v'=>e= qJ (qH #[qF I,iI k])/\Hid (CI w g G (O) F P R i v')):=
 CI.q H λ_ _ _ _ _=>ZO k v
theorem xR (k:Int)⦃w v:World⦄⦃g:MG⦄⦃G O:GS⦄⦃F:List (Nat×Obj)⦄⦃P:List QB⦄⦃R:List Ob⦄⦃i:Option Bool⦄(H:Hid (CI w g G O F P R i v)):
  Calls prog 133 #[iI k] v (λe v'=>e= qJ (qH #[qF V,iI k])/\Hid (CI w g G (O) F P R i v')):=
 CI.q H λ_ _ _ _ _=>Vt k v
theorem L2 (k:Int)⦃w v:World⦄⦃g:MG⦄⦃G O:GS⦄⦃F:List (Nat×Obj)⦄⦃P:List QB⦄⦃R:List Ob⦄⦃i:Option Bool⦄(H:Hid (CI w g G O F P R i v)) (hk: -1000<=k/\k<=1000:=by omega):
  Calls prog 135 #[iJ g.mb,iI k] v (λe v'=>e= qJ (qH #[qF I,iI (O.Ac+k),iI 0])/\Hid (CI w g G (O) F P R i v')):=
 CI.q H λc1 a1 A1 h hb=>lN k v {g with c:=c1,a:=a1,av:=A1} O h (fM hb hk)
theorem xof (k r:Int)⦃w v:World⦄⦃g:MG⦄⦃G O:GS⦄⦃F:List (Nat×Obj)⦄⦃P:List QB⦄⦃R:List Ob⦄⦃i:Option Bool⦄(H:Hid (CI w g G O F P R i v)) (hk: -1000<=k/\k<=1000:=by omega):
  Calls prog 138 #[iJ g.mb,iI k,iI r] v (λe v'=>e= qJ (qH #[qF V,iI r,iI (O.Ac+k)])/\Hid (CI w g G (O) F P R i v')):=
 CI.q H λc1 a1 A1 h hb=>Ae6 k r v {g with c:=c1,a:=a1,av:=A1} O h (fM hb hk)
theorem bA (j:GI)⦃w v:World⦄⦃g:MG⦄⦃G O:GS⦄⦃F:List (Nat×Obj)⦄⦃P:List QB⦄⦃R:List Ob⦄⦃i:Option Bool⦄(H:Hid (CI w g G O F P R i v)) (hn:J O.Ab<=1000000:=by (try simp only[PC]);omega):
  Calls prog 81 #[iJ g.mb,j.val] v (λe v'=>e= qJ (qG #[])/\Hid (CI w g G (O.AP j) F P R i v')):=
 CI.mk H rfl rfl (Oo (GS.BS _ _)) λc1 a1 A1 h _ _=>Mi j v {g with c:=c1,a:=a1,av:=A1} O h hn
theorem tC (r:Int) (a:Ag) (k:Int)⦃w v:World⦄⦃g:MG⦄⦃G O:GS⦄⦃F:List (Nat×Obj)⦄⦃P:List QB⦄⦃R:List Ob⦄⦃i:Option Bool⦄(H:Hid (CI w g G O F P R i v)) (hn:J O.Ab<=1000000:=by (try simp only[PC]);omega):
  Calls prog 140 #[iJ g.mb,iI r,qH #[qF (a).Dd,iI (a).v,iI (k)]] v (λe v'=>e= qJ (qG #[])/\Hid (CI w g G (O.AP (.load r a k)) F P R i v')):=
 CI.mk H rfl rfl (Oo (GS.BS _ _)) λc1 a1 A1 h _ _=>Od r (a) (k) v {g with c:=c1,a:=a1,av:=A1} O h hn
theorem xlo (r k:Int)⦃w v:World⦄⦃g:MG⦄⦃G O:GS⦄⦃F:List (Nat×Obj)⦄⦃P:List QB⦄⦃R:List Ob⦄⦃i:Option Bool⦄(H:Hid (CI w g G O F P R i v)) (hn:J O.Ab<=1000000:=by (try simp only[PC]);omega):
  Calls prog 140 #[iJ g.mb,iI r,qH #[qF I,iI ((O.Ac+k)),iI (0)]] v (λe v'=>e= qJ (qG #[])/\Hid (CI w g G (O.lo r k) F P R i v')):=
 CI.mk H rfl rfl (Oo (GS.BS _ _)) λc1 a1 A1 h _ _=>Od r (Ag.n (O.Ac+k)) (0) v {g with c:=c1,a:=a1,av:=A1} O h hn
theorem Aah (r t j:Int)⦃w v:World⦄⦃g:MG⦄⦃G O:GS⦄⦃F:List (Nat×Obj)⦄⦃P:List QB⦄⦃R:List Ob⦄⦃i:Option Bool⦄(H:Hid (CI w g G O F P R i v)) (hn:J O.Ab<=1000000:=by (try simp only[PC]);omega):
  Calls prog 140 #[iJ g.mb,iI r,qH #[qF V,iI (j),iI (O.Ac+t)]] v (λe v'=>e= qJ (qG #[])/\Hid (CI w g G (O.SL r t j) F P R i v')):=
 CI.mk H rfl rfl (Oo (GS.BS _ _)) λc1 a1 A1 h _ _=>Od r (Ag.r j) (O.Ac+t) v {g with c:=c1,a:=a1,av:=A1} O h hn
theorem Aai (r k:Int)⦃w v:World⦄⦃g:MG⦄⦃G O:GS⦄⦃F:List (Nat×Obj)⦄⦃P:List QB⦄⦃R:List Ob⦄⦃i:Option Bool⦄(H:Hid (CI w g G O F P R i v)) (hn:J O.Ab<=1000000:=by (try simp only[PC]);omega):
  Calls prog 140 #[iJ g.mb,iI r,qH #[qF I,iI (k),iI (0)]] v (λe v'=>e= qJ (qG #[])/\Hid (CI w g G (O.Pw r k) F P R i v')):=
 CI.mk H rfl rfl (Oo (GS.BS _ _)) λc1 a1 A1 h _ _=>Od r (Ag.n k) (0) v {g with c:=c1,a:=a1,av:=A1} O h hn
theorem Aad (a:Ag) (k:Int) (b:Ag)⦃w v:World⦄⦃g:MG⦄⦃G O:GS⦄⦃F:List (Nat×Obj)⦄⦃P:List QB⦄⦃R:List Ob⦄⦃i:Option Bool⦄(H:Hid (CI w g G O F P R i v)) (hn:J O.Ab<=1000000:=by (try simp only[PC]);omega):
  Calls prog 134 #[iJ g.mb,qH #[qF (a).Dd,iI (a).v,iI (k)],qH #[qF (b).Dd,iI (b).v]] v (λe v'=>e= qJ (qG #[])/\Hid (CI w g G (O.AP (.store a k b)) F P R i v')):=
 CI.mk H rfl rfl (Oo (GS.BS _ _)) λc1 a1 A1 h _ _=>OW (a) (k) b v {g with c:=c1,a:=a1,av:=A1} O h hn
theorem tB (k:Int) (b:Ag)⦃w v:World⦄⦃g:MG⦄⦃G O:GS⦄⦃F:List (Nat×Obj)⦄⦃P:List QB⦄⦃R:List Ob⦄⦃i:Option Bool⦄(H:Hid (CI w g G O F P R i v)) (hn:J O.Ab<=1000000:=by (try simp only[PC]);omega):
  Calls prog 134 #[iJ g.mb,qH #[qF I,iI ((O.Ac+k)),iI (0)],qH #[qF b.Dd,iI b.v]] v (λe v'=>e= qJ (qG #[])/\Hid (CI w g G (O.st k b) F P R i v')):=
 CI.mk H rfl rfl (Oo (GS.BS _ _)) λc1 a1 A1 h _ _=>OW (Ag.n (O.Ac+k)) (0) b v {g with c:=c1,a:=a1,av:=A1} O h hn
theorem Aae (t j:Int) (b:Ag)⦃w v:World⦄⦃g:MG⦄⦃G O:GS⦄⦃F:List (Nat×Obj)⦄⦃P:List QB⦄⦃R:List Ob⦄⦃i:Option Bool⦄(H:Hid (CI w g G O F P R i v)) (hn:J O.Ab<=1000000:=by (try simp only[PC]);omega):
  Calls prog 134 #[iJ g.mb,qH #[qF V,iI (j),iI (O.Ac+t)],qH #[qF b.Dd,iI b.v]] v (λe v'=>e= qJ (qG #[])/\Hid (CI w g G (O.I8 t j b) F P R i v')):=
 CI.mk H rfl rfl (Oo (GS.BS _ _)) λc1 a1 A1 h _ _=>OW (Ag.r j) (O.Ac+t) b v {g with c:=c1,a:=a1,av:=A1} O h hn
theorem Aaf (k:Int) (b:Ag)⦃w v:World⦄⦃g:MG⦄⦃G O:GS⦄⦃F:List (Nat×Obj)⦄⦃P:List QB⦄⦃R:List Ob⦄⦃i:Option Bool⦄(H:Hid (CI w g G O F P R i v)) (hn:J O.Ab<=1000000:=by (try simp only[PC]);omega):
  Calls prog 134 #[iJ g.mb,qH #[qF I,iI (k),iI (0)],qH #[qF b.Dd,iI b.v]] v (λe v'=>e= qJ (qG #[])/\Hid (CI w g G (O.UP k b) F P R i v')):=
 CI.mk H rfl rfl (Oo (GS.BS _ _)) λc1 a1 A1 h _ _=>OW (Ag.n k) (0) b v {g with c:=c1,a:=a1,av:=A1} O h hn
theorem iS (n:ByteArray) (d:Int) (a b:Ag)⦃w v:World⦄⦃g:MG⦄⦃G O:GS⦄⦃F:List (Nat×Obj)⦄⦃P:List QB⦄⦃R:List Ob⦄⦃i:Option Bool⦄(H:Hid (CI w g G O F P R i v)) (hn:J O.Ab<=1000000:=by (try simp only[PC]);omega):
  Calls prog 132 #[iJ g.mb,qE n,iI d,qH #[qF a.Dd,iI a.v],qH #[qF b.Dd,iI b.v]] v (λe v'=>e= qJ (qG #[])/\Hid (CI w g G (O.II n d a b) F P R i v')):=
 CI.mk H rfl rfl (Oo (GS.BS _ _)) λc1 a1 A1 h _ _=>Ae4 n d a b v {g with c:=c1,a:=a1,av:=A1} O h hn
theorem PO (a:At) (r:Int)⦃w v:World⦄⦃g:MG⦄⦃G O:GS⦄⦃F:List (Nat×Obj)⦄⦃P:List QB⦄⦃R:List Ob⦄⦃i:Option Bool⦄(H:Hid (CI w g G O F P R i v)) (hok:DP a:=by assumption) (hn:J O.Ab<=1000000:=by (try simp only[PC]);omega):
  Calls prog 131 #[iJ g.mb,qH #[qF a.AX,iI a.v],iI r] v (λe v'=>e= qJ (qH #[qF (GS.BF a r).Dd,iI (GS.BF a r).v])/\Hid (CI w g G (O.Cn a r) F P R i v')):=
 CI.mk H (GS.L4 _ _ _) (GS.cN _ _ _) (GS.D6 _ _ _) λc1 a1 A1 h hb _=>pV a r v {g with c:=c1,a:=a1,av:=A1} O h hn hb hok
theorem fI (r:Int)⦃w v:World⦄⦃g:MG⦄⦃G O:GS⦄⦃F:List (Nat×Obj)⦄⦃P:List QB⦄⦃i:Bool⦄(H:Hid (CI w g G O F P [] (U i) v)) (hn:J O.Ab<=1000000:=by (try simp only[PC]);omega):
  Calls prog 153 #[iJ g.mb,iI r] v (λe v'=>e= qJ (qG #[])/\Hid (CI w g G (O.Kd r) F P [] (U i) v')):=
 CI.ab H rfl λc1 a1 A1 h _ ha=>p9 r v {g with c:=c1,a:=a1,av:=A1} O h hn ha
theorem W2 (a:Ag)⦃w v:World⦄⦃g:MG⦄⦃G O:GS⦄⦃F:List (Nat×Obj)⦄⦃P:List QB⦄⦃R:List Ob⦄⦃i:Option Bool⦄(H:Hid (CI w g G O F P R i v)) (hn:J O.Ab<=1000000:=by (try simp only[PC]);omega):
  Calls prog 141 #[iJ g.mb,qH #[qF a.Dd,iI a.v]] v (λe v'=>∃ba bm bk,e= qJ (.func (.func 154) #[] #[iJ ba,iJ bm,iJ bk])/\Hid (CI w g G (O.CL a) (Gf bk (J O.Ab)::Pr ba (a)::Ge bm g.mb::F) P R i v')):=
 CI.zs H rfl rfl (Oo (GS.BS _ _)) λc1 a1 A1 h _ _=>dP a v {g with c:=c1,a:=a1,av:=A1} O h hn
theorem tD⦃w v:World⦄⦃g:MG⦄⦃G O:GS⦄⦃F:List (Nat×Obj)⦄⦃P:List QB⦄⦃i:Option Bool⦄(H:Hid (CI w g G O F P [] i v)) (hn:J O.Ab<=1000000:=by (try simp only[PC]);omega):
  Calls prog 151 #[iJ g.mb] v (λe v'=>∃bm bk,e= qJ (.func (.func 174) #[] #[iJ bm,iJ bk])/\Hid (CI w g G O.CW (Gf bk (J O.Ab)::Ge bm g.mb::F) P [] i v')):=by
 obtain⟨c,a,AV,h⟩:=H.out;refine(xG v {g with c:=c,a:=a,av:=AV} O h.st.Ak hn).mono ?_;rintro e v' ⟨bm,bk,c',rfl,s,kn⟩;have q:=h.step s rfl rfl (Oo (GS.BS _ _));exact⟨bm,bk,rfl,⟨c',a,AV,q.st,q.kf.gJ kn,q.kp,q.ab,q.hb,q.al⟩⟩
theorem CI.mkF {g:MG} {i:Option Bool} {O':GS} {fn:Nat} {args:Array Value} (H:Hid (CI w g G O F P R i v)) (ha:O'.BN=O.BN) (hb:O'.Ac=O.Ac) (hl:J O'.Ab=J O.Ab)
  (k:∀c a AV,Aq v (MG.Az {g with c:=c,a:=a,av:=AV} O)->AY v (MG.Az {g with c:=c,a:=a,av:=AV} O) F->Calls prog fn args v (zS (qG #[]) O' {g with c:=c,a:=a,av:=AV} O v)):
  Calls prog fn args v (λe v'=>e= qJ (qG #[])/\Hid (CI w g G (O') F P R i v')):=by
 obtain⟨c,a,AV,h⟩:=H.out;refine(k c a AV (Af.AK h.st.Ak).Ak h.kf.left).mono ?_;rintro e v' ⟨rfl,c',s⟩;exact⟨rfl,⟨c',a,AV,h.step s ha hb (Nat.le_of_eq hl.symm)⟩⟩
theorem Lc (a:Ag) (ba bm bk k:Nat)⦃w v:World⦄⦃g:MG⦄⦃G O:GS⦄⦃F:List (Nat×Obj)⦄⦃P:List QB⦄⦃R:List Ob⦄⦃i:Option Bool⦄(H:Hid (CI w g G O F P R i v)) (h1:Gf bk k∈F:=by repeat (first|exact List.Mem.head _|apply List.Mem.tail)) (h2:Pr ba a∈F:=by repeat (first|exact List.Mem.head _|apply List.Mem.tail)) (h3:Ge bm g.mb∈F:=by repeat (first|exact List.Mem.head _|apply List.Mem.tail)) (hn:J O.Ab<=1000000:=by (try simp only[PC]);omega) (hk:k<J O.Ab:=by (try simp only[PC]);omega):
  Calls prog 154 #[iJ ba,iJ bm,iJ bk] v (λe v'=>e= qJ (qG #[])/\Hid (CI w g G (O.Bd ⟨k,U a⟩) F P R i v')):=
 CI.mkF H rfl rfl (GS.Eg _ _) λc1 a1 A1 h K=>T2 a ba bm bk k v {g with c:=c1,a:=a1,av:=A1} O F h K h1 h2 h3 hn hk
theorem Aak (bm bk k:Nat)⦃w v:World⦄⦃g:MG⦄⦃G O:GS⦄⦃F:List (Nat×Obj)⦄⦃P:List QB⦄⦃R:List Ob⦄⦃i:Option Bool⦄(H:Hid (CI w g G O F P R i v)) (h1:Gf bk k∈F:=by repeat (first|exact List.Mem.head _|apply List.Mem.tail)) (h3:Ge bm g.mb∈F:=by repeat (first|exact List.Mem.head _|apply List.Mem.tail)) (hn:J O.Ab<=1000000:=by (try simp only[PC]);omega) (hk:k<J O.Ab:=by (try simp only[PC]);omega):
  Calls prog 174 #[iJ bm,iJ bk] v (λe v'=>e= qJ (qG #[])/\Hid (CI w g G (O.Bd ⟨k,Z⟩) F P R i v')):=
 CI.mkF H rfl rfl (GS.Eg _ _) λc1 a1 A1 h K=>Wi bm bk k v {g with c:=c1,a:=a1,av:=A1} O F h K h1 h3 hn hk
theorem CI.Dg {g:MG} (h:CI w g G O F P [] (U V) v):StS O g G w (qJ (qG #[])) v:=by
 obtain⟨c,a,AV,h⟩:=h;obtain⟨vs,ls,E,rfl,h2,h3,h4,h5⟩:=h.ab rfl;exact⟨rfl,c,a,vs,ls,E,h2,h.st,h3,h4,h5⟩
theorem CI.mks {g:MG} {ret:Value} (h:CI w g G O F P [] Z v):zS ret O g G w (qJ ret) v:=by
 obtain⟨c,a,AV,h⟩:=h;obtain⟨rfl,rfl⟩:=h.ab;exact⟨rfl,c,h.st⟩
def AgY (p:Prop):Prop:=p
theorem Ahf (h:p):AgY p:=h
theorem UL {Pg:Program} {id:Nat} {a:Act} (h:AgY ((Code.region id Bh V).wp Pg Q a w)):(Code.region id Bh V).wp Pg Q a w:=h
def LN (_:List (Nat×Bool)) (_:Nat):Prop:=True
theorem Al6 {id:Nat} {a:Act} {l:List (Nat×Bool)} (_:LN l n) (hS:PF w.drew P) (h:∀v,v=w.drew->BO prog Bh Q (λW=>PF W P) l a v)
  (hm:prog.follows .mixedOrders=V:=by kernel_rfl) (hlen:J l=Bh.size:=by kernel_rfl) (hsn:Xe .any Bh n=V:=by kernel_rfl) (hsel:Region.noSelect Bh=V:=by kernel_rfl)
  (hk:Td .any Bh n l (Array.replicate Bh.size I)=V:=by kernel_rfl) (hQ:∀c a d v w,Q (.panic c) (Act.put a d v) w->Q (.panic c) a w:=by (intro c a d v w h;cases d<;>exact h)):(Code.region id Bh V).wp prog Q a w:=
 Cg _ n hS (h _ rfl) hm hlen hsn hsel hk hQ
theorem vO (n:Int) (k:Nat) (hn:0<=n/\n<=100) (hk:k<=100):wrap64 (n+(k:Int))=n+k:=IntWalk.wrap64_in _ Y
theorem Afq (n:Int) (k:Nat) (hn:0<=n/\n<=100) (hk:k<=100):IntKind.i64.wrap (n+(k:Int))=n+k:=IntWalk.i64_in _ Y
theorem Aj8 (k:Nat) (hk:k<=100):wrap64 ((k:Int)+1)=k+1:=IntWalk.wrap64_in _ Y
theorem Agw (k:Nat) (hk:k<=100):wrap64 (0+(k:Int))=k/\wrap64 (k:Int)=k:=⟨by rw[IntWalk.wrap64_in _ Y];omega,IntWalk.wrap64_in _ Y⟩
theorem wrs (k:Nat) (hk:k<=100):(True->wrap64 (0+(k:Int))=k)/\(True->wrap64 (k:Int)=k)/\(True->wrap64 (4+(k:Int))=4+k)/\(True->wrap64 (8+(k:Int))=8+k)/\(True->wrap64 (14+(k:Int))=14+k)/\(True->wrap64 (20+(k:Int))=20+k)/\(True->wrap64 (26+(k:Int))=26+k)/\(True->wrap64 (32+(k:Int))=32+k)/\
  (True->IntKind.i64.wrap (8+(k:Int))=8+k)/\(True->IntKind.i64.wrap (14+(k:Int))=14+k)/\(True->IntKind.i64.wrap (26+(k:Int))=26+k)/\(True->IntKind.i64.wrap (32+(k:Int))=32+k)/\(True->wrap64 ((k:Int)+1)=(k+1:Nat)):=
 ⟨λ_=>(Agw k hk).1,λ_=>(Agw k hk).2,λ_=>vO 4 k Do hk,λ_=>vO 8 k Do hk,λ_=>vO 14 k Do hk,λ_=>vO 20 k Do hk,λ_=>vO 26 k Do hk,λ_=>vO 32 k Do hk,λ_=>Afq 8 k Do hk,λ_=>Afq 14 k Do hk,λ_=>Afq 26 k Do hk,λ_=>Afq 32 k Do hk,λ_=>Aj8 k hk⟩
def DeT (_:Int):Prop:=True
def CeT (_:Array Value) (_:TypeId):Prop:=True
theorem AfQ (h:p:=by
  obtain⟨_,_,_,_,_,_,zp⟩:=H.out.Tp;repeat (obtain⟨_,_,zp⟩:=zp)
  unhygienic (go_wp2_with (with_reducible refine UL ?_))
  (try revert K_3);(try revert K_2);(try revert K_1);(try revert K);(try revert Q'_1);(try revert Q')
  exact zk.out v H):p:=h
theorem Alb (h:p:=by
  (try revert K_3);(try revert K_2);(try revert K_1);(try revert K);(try revert Q'_1);(try revert Q')
  exact zk.out v2 H2):p:=h
section
variable {P' R':Prop} {w:World} {g:MG} {G O:GS} {F:List (Nat×Obj)} {P:List QB} {R:List Ob} {i:Option Bool}
theorem MW (k:(∀v,Hid (CI w g G O F P R i v)->X v)) (h:Hid (∀v,Hid (CI w g G O F P R i v)->X v)->P':=by
  intro zk v H
  unhygienic intros
  exact AfQ):P':=h k
theorem MWL {X:SG->World->Prop} (k:(∀c v,Hid (CI w g G O F P R i v)->X c v)) (h:Hid (∀c v,Hid (CI w g G O F P R i v)->X c v)->P':=by
  intro zk v H
  unhygienic intros
  obtain⟨_,_,_,_,_,_,zp⟩:=H.out.Tp;obtain⟨zC,_⟩:=H.out.Adm;repeat (obtain⟨_,_,zp⟩:=zp)
  unhygienic (go_wp2_with (with_reducible refine UL ?_))
  (try revert K_3);(try revert K_2);(try revert K_1);(try revert K);(try revert Q'_1);(try revert Q')
  exact zk.out zC v H):P':=h k
theorem MK (t:R') (k:(∀v,Hid (CI w g G O F P R i v)->X v)) (h:R'->Hid (∀v,Hid (CI w g G O F P R i v)->X v)->P':=by
  intro zt zk v H
  unhygienic intros
  refine(zt H).mono ?_;clear zt H;rintro e v ⟨rfl,H⟩;exact AfQ):P':=h t k
theorem MKL {X:SG->World->Prop} (t:R') (k:(∀c v,Hid (CI w g G O F P R i v)->X c v)) (h:R'->Hid (∀c v,Hid (CI w g G O F P R i v)->X c v)->P':=by
  intro zt zk v H
  unhygienic intros
  refine(zt H).mono ?_;clear zt H;rintro e v ⟨rfl,H⟩;obtain⟨_,_,_,_,_,_,zp⟩:=H.out.Tp;obtain⟨zC,_⟩:=H.out.Adm;repeat (obtain⟨_,_,zp⟩:=zp)
  unhygienic (go_wp2_with (with_reducible refine UL ?_))
  (try revert K_3);(try revert K_2);(try revert K_1);(try revert K);(try revert Q'_1);(try revert Q')
  exact zk.out zC v H):P':=h t k
theorem MZ {X:Nat->Nat->Nat->World->Prop} (t:R') (k:(∀ba bm bk v,Hid (CI w g G O (Gf bk n::Pr ba a0::Ge bm g.mb::F) P R i v)->X ba bm bk v)) (h:R'->Hid (∀ba bm bk v,Hid (CI w g G O (Gf bk n::Pr ba a0::Ge bm g.mb::F) P R i v)->X ba bm bk v)->P':=by
  intro zt zk v H
  unhygienic intros
  refine(zt H).mono ?_;clear zt H;rintro e v ⟨ba,bm,bk,rfl,H⟩;obtain⟨_,_,_,_,_,_,zp⟩:=H.out.Tp;repeat (obtain⟨_,_,zp⟩:=zp)
  unhygienic (go_wp2_with (with_reducible refine UL ?_))
  (try revert K_3);(try revert K_2);(try revert K_1);(try revert K);(try revert Q'_1);(try revert Q')
  exact zk.out ba bm bk v H):P':=h t k
theorem MJJ {X:Nat->Nat->World->Prop} (t:R') (k:(∀bm bk v,Hid (CI w g G O (Gf bk n::Ge bm g.mb::F) P R i v)->X bm bk v)) (h:R'->Hid (∀bm bk v,Hid (CI w g G O (Gf bk n::Ge bm g.mb::F) P R i v)->X bm bk v)->P':=by
  intro zt zk v H
  unhygienic intros
  refine(zt H).mono ?_;clear zt H;rintro e v ⟨bm,bk,rfl,H⟩;obtain⟨_,_,_,_,_,_,zp⟩:=H.out.Tp;repeat (obtain⟨_,_,zp⟩:=zp)
  unhygienic (go_wp2_with (with_reducible refine UL ?_))
  (try revert K_3);(try revert K_2);(try revert K_1);(try revert K);(try revert Q'_1);(try revert Q')
  exact zk.out bm bk v H):P':=h t k
theorem CI.gF (_:CeT cs T) (h:CI w g G O F P R i v):∃b v2,b=v.heap.size/\v2=v.alloc (qK cs T)/\(b≠g.mb/\w.heap.size<=b)/\Hid (CI w g G O F ((b,cs,T)::P) R i v2):=by
 have m:=h.Tp.2.2.2.2.2.1;exact⟨_,_,rfl,rfl,⟨Y,by obtain⟨_,_,_,q⟩:=h;exact q.st.mod.size⟩,h.new _ _ _ _ rfl rfl⟩
theorem MA {X:Nat->World->Prop} (cs:Array Value) (T:TypeId) (k:(∀b,b≠g.mb/\w.heap.size<=b->∀v,Hid (CI w g G O F ((b,cs,T)::P) R i v)->X b v)) (h:CeT cs T->Hid (∀b,b≠g.mb/\w.heap.size<=b->∀v,Hid (CI w g G O F ((b,cs,T)::P) R i v)->X b v)->P':=by
  intro zz zk v H
  unhygienic intros
  obtain⟨b,v2,hb,hv,hn,H2⟩:=CI.gF zz H.out
  (try simp only[<-hb]);rw[<-hv]
  clear zz H hb hv
  (try revert K_3);(try revert K_2);(try revert K_1);(try revert K);(try revert Q'_1);(try revert Q')
  exact zk.out b hn v2 H2):P':=h trivial k
theorem CI.Ali {d:Int} (_:DeT d) (h:CI w g G O F P R i v):∃v2,v2=v.setCell ⟨g.mb,5,Z⟩ (iI d)/\Hid (CI w g G (O.dp d) F P R i v2):=⟨_,rfl,h.Ah _ _ rfl⟩
theorem MD (d:Int) (k:(∀v,Hid (CI w g G (O.dp d) F P R i v)->X v)) (h:DeT d->Hid (∀v,Hid (CI w g G (O.dp d) F P R i v)->X v)->P':=by
  intro zz zk v H
  unhygienic intros
  obtain⟨v2,hv,H2⟩:=CI.Ali zz H.out;rw[<-hv];clear zz H hv;exact Alb):P':=h trivial k
theorem MR (l:List (Nat×Bool)) (n:Nat) (k:(∀v,Hid (CI w g G O F P R i v)->X v)) (h:LN l n->Hid (∀v,Hid (CI w g G O F P R i v)->X v)->P':=by
  intro zz zk v H
  unhygienic intros
  refine Ahf (Al6 zz (H.out.drew _ rfl).pf ?_);intro v2 hv;have H2:=D (H.out.drew v2 hv);clear zz H hv;refine Ox ?_;exact Alb):P':=h trivial k
theorem ME (t:R') (k:(∀v,Hid (CI w g G O F P R i v)->X v)) (h:R'->Hid (∀v,Hid (CI w g G O F P R i v)->X v)->P':=by
  intro zt zk v H
  unhygienic intros
  refine AJ rfl (λzK hK=>?_);go_simp;refine(zt H).mono ?_;clear zt H;rintro e v ⟨rfl,H⟩;refine hK _ _ (λ_=>H.out.pf) ?_;clear hK zK;refine Ox ?_
  (try revert K_3);(try revert K_2);(try revert K_1);(try revert K);(try revert Q'_1);(try revert Q')
  exact zk.out v H):P':=h t k
theorem MEZ {X:Nat->Nat->Nat->World->Prop} (t:R') (k:(∀ba bm bk v,Hid (CI w g G O (Gf bk n::Pr ba a0::Ge bm g.mb::F) P R i v)->X ba bm bk v)) (h:R'->Hid (∀ba bm bk v,Hid (CI w g G O (Gf bk n::Pr ba a0::Ge bm g.mb::F) P R i v)->X ba bm bk v)->P':=by
  intro zt zk v H
  unhygienic intros
  refine AJ rfl (λzK hK=>?_);go_simp;refine(zt H).mono ?_;clear zt H;rintro e v ⟨ba,bm,bk,rfl,H⟩;refine hK _ _ (λ_=>H.out.pf) ?_;clear hK zK;refine Ox ?_
  (try revert K_3);(try revert K_2);(try revert K_1);(try revert K);(try revert Q'_1);(try revert Q')
  exact zk.out ba bm bk v H):P':=h t k
theorem ML (t:R') (k:(∀v,Hid (CI w g G O F P R i v)->X v)) (h:R'->Hid (∀v,Hid (CI w g G O F P R i v)->X v)->P':=by
  intro zt zk v H
  unhygienic intros
  refine AJ rfl (λzK hK=>?_);go_simp;refine(zt H).mono ?_;clear zt H;rintro e v ⟨rfl,H⟩;refine hK _ _ (λh=>Jk rfl h) ?_;clear hK zK;simp only[BO];exact AfQ):P':=h t k
theorem MLL {X:SG->World->Prop} (t:R') (k:(∀c v,Hid (CI w g G O F P R i v)->X c v)) (h:R'->Hid (∀c v,Hid (CI w g G O F P R i v)->X c v)->P':=by
  intro zt zk v H
  unhygienic intros
  refine AJ rfl (λzK hK=>?_);go_simp;refine(zt H).mono ?_;clear zt H;rintro e v ⟨rfl,H⟩;refine hK _ _ (λh=>Jk rfl h) ?_;clear hK zK;simp only[BO];obtain⟨_,_,_,_,_,_,zp⟩:=H.out.Tp;obtain⟨zC,_⟩:=H.out.Adm;repeat (obtain⟨_,_,zp⟩:=zp)
  unhygienic (go_wp2_with (with_reducible refine UL ?_))
  (try revert K_3);(try revert K_2);(try revert K_1);(try revert K);(try revert Q'_1);(try revert Q')
  exact zk.out zC v H):P':=h t k
theorem MLp (k:(∀v,Hid (CI w g G O F P R i v)->X v)) (h:Hid (∀v,Hid (CI w g G O F P R i v)->X v)->P':=by
  intro zk v H
  unhygienic intros
  refine AJ rfl (λzK hK=>?_);go_simp;refine hK _ _ (λh=>Jk rfl h) ?_;clear hK zK;simp only[BO];exact AfQ):P':=h k
end
theorem GS.sM (g:GS) (f s:Int) (a:At):(g.EP f s a).Ac=g.Ac:=(Ar.EP (Ar.refl g) f s a).Ac
theorem GS.nG (g:GS) (f s:Int) (a:At):(g.EP f s a).BN=g.BN:=by
 unfold GS.EP;simp only[GS.dE,GS.rY,GS.ss,GS.kx,GS.L4]
theorem pX (w:World) (g:MG) (G:GS) (h:Aq w (g.Az G)) (hn:J G.Ab<=999900) (ha:J g.av<=J G.Ab) (Fu:CK G.Ac):
  Calls prog 157 #[iJ g.mb] w (zS (qG #[]) G.GR g G w):=by
 refine CI.begin [] [] Z h (AY.nil _ _) (AY.nil _ _) Fu ha ?_;clear h Fu;intro v H;go_enter func157,ntmps157
 revert v H
 refine MW ?_;refine MK (xN 0) ?_;refine MKL (bA (.Zv 1 (.n 0))) ?_;intro cc;refine MK (L2 39) ?_;refine MK (xlo 2 39) ?_;refine MK (xR 1) ?_;refine MK (xR 2) ?_;refine MK (iS dN 2 (.r 1) (.r 2)) ?_;refine MK (xR 2) ?_;refine MZ (W2 (.r 2)) ?_;intro bad bmd bkd;refine MK (xof 40 1) ?_;refine MK (Aah 2 40 1) ?_;refine MK (xR 2) ?_;refine MK (bA (.out (.r 2))) ?_;refine MK (xR 1) ?_;refine MK (xN 1) ?_;refine MK (iS KO 1 (.r 1) (.n 1)) ?_;refine MK (bA (.GN _)) ?_;refine MK (Lc (.r 2) bad bmd bkd _) ?_;intro v H
 go_end0
 exact H.out.mks
theorem p5 (r:Int) (w:World) (g:MG) (G:GS) (h:Aq w (g.Az G)) (hn:J G.Ab<=999950) (ha:J g.av<=J G.Ab) (Fu:CK G.Ac):
  Calls prog 152 #[iJ g.mb,iI r] w (StS (G.KJ r) g G w):=by
 refine CI.begin [] [] (U V) h (AY.nil _ _) (AY.nil _ _) Fu ha ?_;clear h Fu;intro v H;go_enter func152,ntmps152
 revert v H
 refine MW ?_;refine MK (xR r) ?_;refine MK (xN 1) ?_;refine MK (iS bO 3 (.r r) (.n 1)) ?_;refine MK (xR 3) ?_;refine MK (xN 0) ?_;refine MK (iS dO 3 (.r 3) (.n 0)) ?_;refine MK (fI 3) ?_;refine MK (xR r) ?_;refine MK (xN 1) ?_;refine MK (iS Zs 3 (.r r) (.n 1)) ?_;refine MK (L2 38) ?_;refine MK (xlo 4 38) ?_;refine MK (xR 4) ?_;refine MK (xR 3) ?_;refine MK (iS dN 3 (.r 4) (.r 3)) ?_;refine MK (xR 3) ?_;refine MK (xN 0) ?_;refine MK (iS dO 3 (.r 3) (.n 0)) ?_;refine MK (fI 3) ?_;intro v H
 go_end0
 exact H.out.Dg
theorem Aag (r:Int)⦃w v:World⦄⦃g:MG⦄⦃G O:GS⦄⦃F:List (Nat×Obj)⦄⦃P:List QB⦄⦃i:Bool⦄(H:Hid (CI w g G O F P [] (U i) v)) (hn:J O.Ab<=999950:=by (try simp only[PC]);omega):
  Calls prog 152 #[iJ g.mb,iI r] v (λe v'=>e= qJ (qG #[])/\Hid (CI w g G (O.KJ r) F P [] (U i) v')):=
 CI.ab H (GS.Zk _ _) λc1 a1 A1 h hb ha=>p5 r v {g with c:=c1,a:=a1,av:=A1} O h hn ha hb
theorem xI (w:World) (g:MG) (G:GS) (h:Aq w (g.Az G)) (hn:J G.Ab<=999900) (ha:J g.av<=J G.Ab) (Fu:CK G.Ac):
  Calls prog 137 #[iJ g.mb] w (StS (G.SR) g G w):=by
 refine CI.begin [] [] (U V) h (AY.nil _ _) (AY.nil _ _) Fu ha ?_;clear h Fu;intro v H;go_enter func137,ntmps137
 revert v H
 refine MW ?_;refine MK (xof 8 0) ?_;refine MK (Aah 1 8 0) ?_;refine MK (xR 1) ?_;refine MZ (W2 (.r 1)) ?_;intro baf bmf bkf;refine MK (xof 14 0) ?_;refine MK (Aah 1 14 0) ?_;refine MJJ tD ?_;intro bmd bkd;refine MK (Lc (.r 1) baf bmf bkf _) ?_;refine MK (xR 0) ?_;refine MA #[qF V,iI 0,iI 8] 270 ?_;intro p hp;refine MK (tC 2 (.r 0) 8) ?_;refine MK (Aag 2) ?_;refine MK (xR 0) ?_;refine MK (tC 1 (.r 0) 0) ?_;refine MK (tC 3 (.r 0) 8) ?_;refine MK (xR 3) ?_;refine MK (xR 2) ?_;refine MK (iS dO 3 (.r 3) (.r 2)) ?_;refine MK (fI 3) ?_;refine MK (xof 20 0) ?_;refine MK (xN 1) ?_;refine MK (Aae 20 0 (.n 1)) ?_;refine MK (Aak bmd bkd _) ?_;intro v H
 go_end0
 exact H.out.Dg
theorem ra (f s:Int) (a:At) (w:World) (g:MG) (G:GS) (h:Aq w (g.Az G)) (hn:J G.Ab<=999900) (ha:J g.av<=J G.Ab) (Fu:CK G.Ac) (hok:DP a):
  Calls prog 136 #[iJ g.mb,qH #[iI f,iI s,qF a.AX,iI a.v]] w (zS (qG #[]) (G.EP f s a) g G w):=by
 refine CI.begin [] [] Z h (AY.nil _ _) (AY.nil _ _) Fu ha ?_;clear h Fu;intro v H;go_enter func136,ntmps136
 revert v H
 have FK:=GS.Dw G a 0;refine MW ?_;refine MA #[iI f,iI s,qF a.AX,iI a.v] 241 ?_;intro b hb;refine MK (PO a 0) ?_;refine MA #[qF (GS.BF a 0).Dd,iI (GS.BF a 0).v] 264 ?_;intro b2 VZ;refine MR (sq [2] 0 3) 3 ?_;refine ME (xN 0) ?_;refine ML (iS dN 3 (GS.BF a 0) (.n 0)) ?_;refine MK (xR 3) ?_;refine MZ (W2 (.r 3)) ?_;intro balow bmlow bklow;refine MK (bA (.CS 2)) ?_;refine MK (Lc (.r 3) balow bmlow bklow _) ?_;refine MR (sq [4] 0 5) 5 ?_;refine ME (xN s) ?_;refine ML (iS dN 3 (GS.BF a 0) (.n s)) ?_;refine MK (xR 3) ?_;refine MK (xN 0) ?_;refine MK (iS dO 3 (.r 3) (.n 0)) ?_;refine MK (xR 3) ?_;refine MZ (W2 (.r 3)) ?_;intro bahigh bmhigh bkhigh;refine MK (bA (.CS 2)) ?_;refine MK (Lc (.r 3) bahigh bmhigh bkhigh _) ?_;refine MR (sq [4] 0 5) 5 ?_;refine ME (xN f) ?_;refine ML (iS KO 0 (GS.BF a 0) (.n f)) ?_;intro v H
 go_end0
 exact H.out.mks
theorem ky (c tb:Int) (bs:Nat)⦃w v:World⦄⦃g:MG⦄⦃G O:GS⦄⦃F:List (Nat×Obj)⦄⦃P:List QB⦄⦃R:List Ob⦄⦃i:Option Bool⦄(H:Hid (CI w g G O F P R i v)) (hn:J O.Ab<=999900:=by (try simp only[PC]);omega) (hp:(bs,#[iJ g.mb],166)∈P:=by simp) (hc:0<=c/\c<=100:=by omega) (ht:0<=tb/\tb<=100:=by omega):
  Calls prog 175 #[iI c,iI tb,iJ bs] v (λe v'=>∃ba bm bk,e= qJ (.func (.func 154) #[] #[iJ ba,iJ bm,iJ bk])/\Hid (CI w g G ((O.lo 1 (tb+c)).CL (.r 1)) (Gf bk (O.lo 1 (tb+c)).Ab.length::Pr ba (.r 1)::Ge bm g.mb::F) P R i v')):=by
 have hw:wrap64 (tb+c)=tb+c:=IntWalk.wrap64_in _ Y;have K7:IntKind.i64.wrap (tb+c)=tb+c:=by rw[IntWalk.i64_left];exact hw
 replace H:=D (H.lO hp);clear hp;go_enter func175,ntmps175
 revert v H
 refine MW ?_;refine MR (sq [5] 0 6) 6 ?_;refine ME (L2 (tb+c)) ?_;refine ML (xlo 1 (tb+c)) ?_;refine MR (sq [1,2] 0 3) 3 ?_;refine ME (xR 1) ?_;refine MEZ (W2 (.r 1)) ?_;intro ba bm bk;refine MLp ?_;intro v H;go_ret;exact⟨ba,bm,bk,rfl,D H.Amg⟩
theorem GS.fu (i:Nat) (g:GS):(GS.Pq i g).Ab.length=J g.Ab+4:=by unfold GS.Pq;simp only[PC]
theorem GS.dZ (i:Nat) (g:GS):(GS.Pl i g).Ab.length=J g.Ab+2:=by unfold GS.Pl;simp only[PC]
theorem rh (C4:Nat) (w:World) (g:MG) (G:GS) (h:Aq w (g.Az G)) (hn:J G.Ab<=999000) (ha:J g.av<=J G.Ab) (Fu:CK G.Ac) (Cs:0<=G.cells/\G.cells<=100):
  Calls prog 158 #[iJ g.mb,iI (C4:Int)] w (zS (qG #[]) (G.GB C4) g G w):=by
 refine CI.begin [] [] Z h (AY.nil _ _) (AY.nil _ _) Fu ha ?_;clear h Fu;intro v H;go_enter func158,ntmps158
 revert v H
 refine MW ?_;intro v H
 intros
 go_loopw [11] (λiv wr=>LR GS.Pq G.cells w g G G [] [] [] Z iv wr) (λiv _=>(G.cells:Int).toNat-(intOf iv).toNat);case atStart=>exact LR.start Cs.1 H.out
 case round=>
  clear H;obtain⟨k,Gk,rfl,VX,hl,HG,HC,H⟩:=LR.open hrel GS.fu (Ar.Pq);clear hrel;by_cases hk:(k:Int)<G.cells
  .have Xw:J Gk.Ab<=999500:=Y
   have bw:k<=100:=Y
   obtain⟨z0,z1,z2,z3,z4,z5,z6,z7,y0,y1,y2,y3,zi⟩:=wrs k bw;clear hl
   revert wr H
   refine MW ?_;refine MK (L2 (26+k)) ?_;refine MK (xlo 1 (26+k)) ?_;refine MK (xR 1) ?_;refine MZ (W2 (.r 1)) ?_;intro bas bms bks;refine MK (L2 (32+k)) ?_;refine MK (xlo 2 (32+k)) ?_;refine MK (xN (8+k)) ?_;refine MK (xR 2) ?_;refine MK (Aaf (8+k) (.r 2)) ?_;refine MK (Lc (.r 1) bas bms bks _) ?_;exact mbz
  .have Pz:k=G.cells.toNat:=Y
   rw[Pz] at HG;have Xw:J Gk.Ab<=999500:=Y
   replace hk:=Ju hk;clear hl VX Pz;obtain⟨G1,hG1⟩:∃z,z=Gk:=⟨_,rfl⟩;rw[<-hG1] at HG HC H Xw;have HG1:=HG;clear hG1 HG HC
   revert wr H
   refine MW ?_;intro v H
   intros
   go_loopw [39] (λiv wr=>LR GS.Pl 4 w g G G1 [] [] [] Z iv wr) (λiv _=>(4:Int).toNat-(intOf iv).toNat);case atStart=>exact LR.start Do H.out
   case round=>
    clear H;obtain⟨k,Gk,rfl,VX,hl,HG,HC,H⟩:=LR.open hrel GS.dZ (Ar.Pl);clear hrel;by_cases hk:(k:Int)<4
    .have Xw:J Gk.Ab<=999900:=Y
     have bw:k<=100:=Y
     clear hl
     revert wr H
     refine MW ?_;refine MK (L2 (4+k)) ?_;refine MK (xlo 1 (4+k)) ?_;refine MK (L2 k) ?_;refine MK (xR 1) ?_;refine MK (tB k (.r 1)) ?_;exact mbz
    .have Pz:k=(4:Int).toNat:=Y
     rw[Pz] at HG;have Xw:J Gk.Ab<=999900:=Y
     replace hk:=Ju hk;clear hl VX Pz;obtain⟨G2,hG2⟩:∃z,z=Gk:=⟨_,rfl⟩;rw[<-hG2] at HG HC H Xw;have HG2:=HG;clear hG2 HG HC
     revert wr H
     refine MW ?_;refine MK (bA (.GN C4)) ?_;intro v H
     intros
     go_end0
     have e:G.GB C4=G2.AP (.GN C4):=by rw[HG2.out,HG1.out];rfl
     rw[e];exact H.out.mks
def KF (op:Option Addr) (n oc:Nat) (cs:List SG) (l:List (List GI)):List Ob:=.row (qD op n oc) 158 1 n (A4 cs l)::List.zipWith DS cs l
theorem AjI {α:Type} (b c a o:α) (R:List α):([b,c,a]++o::R).Perm ((o::(R++[c]))++[b,a]):=by
 refine Qh.trans ?_;have:(o::R)++[c,b,a]=(o::(R++[c]))++[b,a]:=EQ
 rw[<-this];exact Qi _ (List.Perm.swap _ _ _)
theorem AgV:(prog.info? 157).map (λi=>i.size)=U 2:=Fd
theorem nL (b:Nat) (w:World) (h0:w.cell? ⟨b,0,Z⟩=U (iJ b)):
  Calls prog 103 #[iJ b] w λe w'=>e= qJ (qG #[])/\w'=w:=by
 obtain⟨j,hj,_⟩:=Ji.1 AgV;go_enter func103,ntmps103;go_wp2;rw[Lib.run_neq_ptr_same w _ underlying154 hj];go_wp2
 go_end0
 exact⟨rfl,rfl⟩
theorem iC (b:Nat) (w:World) (h0:w.cell? ⟨b,0,Z⟩=U (qI Z)) (IK:w.shape? b=U (157,2)) (hfz:w.frozen? ⟨b,0,Z⟩=I):
  Calls prog 103 #[iJ b] w λe w'=>e= qJ (qG #[])/\w'=w.setCell ⟨b,0,Z⟩ (iJ b):=by
 obtain⟨j,hj,hjs⟩:=Ji.1 AgV;go_enter func103,ntmps103;go_wp2;rw[Lib.run_to_unsafe w ⟨b,0,Z⟩ underlying154 underlying174 hj (by rw[hjs];decide) IK (Nat.zero_lt_succ 1)];simp only[Result.andThen];rw[Oper.upon_value];go_wp2;rw[run_callFunc_extern func130 Fd Fd Fd (e:=Extern.AbiNoEscape.same) Fd];rw[Lib.run_noEscape];simp only[Result.andThen];rw[Oper.upon_value];go_wp2;rw[Lib.run_from_unsafe w ⟨b,0,Z⟩ underlying174 underlying154 hj IK Fd];simp only[Result.andThen];rw[Oper.upon_value];go_wp2
 go_end0
 exact⟨rfl,rfl⟩
theorem AdO (B b:Nat) (bs:List Value) (w:World) (h:Lib.IsBuilder 157 5 B b bs w):
  Calls prog 103 #[iJ b] w λe w'=>e= qJ (qG #[])/\(Lib.BuilderAt 157 5 B b (iJ b) bs w'/\Below B w w'):=by
 rcases h with h|h
 .refine(iC b w h.cell0 h.shape h.frozen0).mono ?_;rintro e w' ⟨rfl,rfl⟩;exact⟨rfl,h.used _,(Below.refl B w).setCell h.1 _⟩
 .refine(nL b w h.cell0).mono ?_;rintro e w' ⟨rfl,rfl⟩;exact⟨rfl,h,Below.refl B _⟩
theorem uz:(prog.info? 5).map (λi=>(i.zero,i.size,i.bytes))=U (U (.int .u8 0),1,1):=Fd
theorem Alq (B b:Nat) (bs:List Value) (c:Int) (w:World) (h:Lib.IsBuilder 157 5 B b bs w) (hlen:J bs+1<=140737488355328) (hBw:B<=w.heap.size):
  Calls prog 78 #[iJ b,.int .u8 c] w λe w'=>e= qJ .nilIface/\(Lib.BuilderAt 157 5 B b (iJ b) (bs++[.int .u8 c]) w'/\Below B w w'):=by
 obtain⟨i0,hi,LP,KZ,MH⟩:=info_parts uz;go_enter func78,ntmps78;go_wp2_with fail;refine(AdO B b bs _ h).mono ?_;rintro e w1 ⟨rfl,h1,Ix⟩;obtain⟨hB,v,eG,Co,hne⟩:=h1;have c0:w1.cell? ⟨b,0,Z⟩=U (iJ b):=by rw[Lib.cell_of_heap eG];rfl
 have c1:w1.cell? ⟨b,1,Z⟩=U v:=by rw[Lib.cell_of_heap eG];rfl
 go_wp2_with (at_builtin;refine wpList_append_own _ rfl _ _ 155 rfl B 5 i0 (.int .u8 0) 1 1 underlying155 hi LP KZ MH rfl Do _ _ _ rfl (Co.alloc _) ⟨w1.heap.size,0,Z⟩ 1 1 [.int .u8 c] rfl rfl ?c1 ?c2 ?c3 ?c4 ?c5 ?_);case c1=>
  intro j u hj
  match j,hj with
  |0,hj=>simp at hj;subst hj;simp[Addr.add]
 case c2=>intro u hu;simp at hu;subst hu;rfl
 case c3=>unfold maxLen;omega
 case c4=>omega
 case c5=>have:=Ix.size;simp;omega
 intro v' w2 mB EH _;have hlt:b<w1.heap.size:=by
  exact mbC
 have VZ:w2.heap[b]?=U (qK #[iJ b,v] 157 (0,0)):=by
  rw[EH.block b (by simp;omega) (λe=>hne e.symm),Lib.alloc_old w1 _ b hlt];exact eG
 have d1:w2.cell? ⟨b,1,Z⟩=U v:=by rw[Lib.cell_of_heap VZ];rfl
 have f1:=Lib.frozen_of_heap VZ 1;obtain⟨g,cap,rfl⟩:∃g cap,v'= qD (U ⟨g,0,Z⟩) (J bs+1) cap:=by
  rcases mB.2 with⟨_,h0⟩|⟨g,cap,IZ,hv,_⟩
  .omega
  .exact⟨g,cap,hv⟩
 go_wp2;go_ret;refine⟨rfl,?_,?_⟩
 .exact Lib.BuilderAt.put (T:=157) (e:=5) hB VZ (bs':=bs++[.int .u8 c]) (by simpa using mB) Do
 .exact((Ix.alloc (by have:=Ix.size;omega) _).grown EH (by have:=Ix.size;simp;omega) (λk hk=>(Co.lt k hk).1)).setCell (p:=⟨b,1,Z⟩) hB _
theorem Agd (B b:Nat) (bs:List Value) (s:ByteArray) (w:World) (h:Lib.IsBuilder 157 5 B b bs w) (hlen:J bs+s.size<=140737488355328) (hBw:B<=w.heap.size):
  Calls prog 77 #[iJ b,qE s] w λe w'=>e= qJ (qG #[iI s.size,.nilIface])/\(Lib.BuilderAt 157 5 B b (iJ b) (bs++Lib.strCells s) w'/\Below B w w'):=by
 obtain⟨i0,hi,LP,KZ,MH⟩:=info_parts uz;go_enter func77,ntmps77;go_wp2_with fail;refine(AdO B b bs _ h).mono ?_;rintro e w1 ⟨rfl,h1,Ix⟩;obtain⟨hB,v,eG,Co,hne⟩:=h1;have c0:w1.cell? ⟨b,0,Z⟩=U (iJ b):=by rw[Lib.cell_of_heap eG];rfl
 have c1:w1.cell? ⟨b,1,Z⟩=U v:=by rw[Lib.cell_of_heap eG];rfl
 go_wp2_with (at_builtin;refine Lib.wpList_append_own_string _ rfl _ _ 155 9 rfl B 5 i0 underlying155 underlying9 hi LP KZ MH _ _ _ rfl Co s rfl ?c3 ?c4 ?c5 ?_);case c3=>unfold maxLen;omega
 case c4=>omega
 case c5=>have:=Ix.size;omega
 intro v' w2 mB EH _;have hlt:b<w1.heap.size:=by
  exact mbC
 have VZ:w2.heap[b]?=U (qK #[iJ b,v] 157 (0,0)):=by
  rw[EH.block b hlt (λe=>hne e.symm)];exact eG
 have d1:w2.cell? ⟨b,1,Z⟩=U v:=by rw[Lib.cell_of_heap VZ];rfl
 have f1:=Lib.frozen_of_heap VZ 1;obtain⟨ao,n',cap,rfl⟩:∃ao n' cap,v'= qD ao n' cap:=by
  rcases mB.2 with⟨hv,_⟩|⟨g,cap,IZ,hv,_⟩
  .exact⟨_,_,_,hv⟩
  .exact⟨_,_,_,hv⟩
 go_wp2;go_ret2;refine⟨rfl,?_,?_⟩
 .exact Lib.BuilderAt.put (T:=157) (e:=5) hB VZ (bs':=bs++Lib.strCells s) (by simpa[Lib.strCells_length] using mB) Do
 .exact(Ix.grown EH (by have:=Ix.size;omega) (λk hk=>(Co.lt k hk).1)).setCell (p:=⟨b,1,Z⟩) hB _
