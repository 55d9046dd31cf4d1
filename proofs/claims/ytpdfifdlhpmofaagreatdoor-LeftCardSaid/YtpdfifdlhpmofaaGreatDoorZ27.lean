/-
  Part 27 of the proof.
-/
import Derived.Test.YtpdfifdlhpmofaaGreatDoorZ12
set_option linter.unusedVariables false
set_option linter.unusedSimpArgs false
set_option maxHeartbeats 3200000
set_option maxRecDepth 100000
namespace Go.Proofs.YtpdfifdlhpmofaaGreatDoor
open Go.RowKit Tryz
open Go.Lib (hid)
theorem mbW {p:Prop} (h:p:=by
 intro v H;go_roundw;case rel=>exact LR.next HG hk H.out EQ EQ
 case measure=>simp[intOf];omega):p:=h
variable {w v:World} {L L' R:List Ob} {E F:List (Nat×Obj)} {B g' g G O:GS} {n a b c m:Nat} {f:Nat->GS->GS} {cs:Array Value} {T:TypeId} {a0:Ag} {p:Prop} {Q:Exit->Act->World->Prop} {Bh:Array Oper} {X:World->Prop}
set_option linter.unusedVariables false
theorem A5.AfT {w':World} (kn:A5 w' L' E) (hR:Az w (L++R)) (hf:∀b o,(b,o)∈E->w.heap.size<=b):A5 w' (L'++R) E:=
 ⟨kn.heap,fun b o hb hl=>by
   rw[A4,Nm] at hl;rcases hl with hl | hl
   · exact kn.out b o hb hl
   · have:=hR.lt b (by rw[A4];exact GT _ hl);have:=hf b o hb;omega⟩
theorem A5.left {A B:List Ob} (h:A5 w (A++B) F):A5 w A F:=
 ⟨h.heap,fun b o hb hl=>h.out b o hb (by rw[A4];exact D _ hl)⟩
theorem Acl {x y z:Obj} (h:n<=a/\n<=b/\n<=c):∀q o,(q,o)∈[(c,x),(a,y),(b,z)]->n<=q:=by
 intro q o hq;simp only[Pi,Prod.mk.injEq,Qap,or_false] at hq;omega
abbrev QB:=Nat×Array Value×TypeId
variable {S P:List QB}
def qob (p:QB):Nat×Obj:=(p.1,.cells p.2.1 p.2.2 (0,0))
def PF (w:World):List QB->Prop
 | []=>True
 | p::r=>(∀i:Nat,w.cell? ⟨p.1,i,none⟩=p.2.1[i]?)/\p.1 < w.heap.size/\PF w r
theorem A5.pf:∀{P:List QB},A5 w L (P.map qob)->PF w P
 | [],_=>trivial
 | (b,c,T)::r,h=>⟨h.cell (J ..),h.lt (J ..),A5.pf (h.sub fun _ hx=>U _ hx)⟩
def AbI (i:Option Bool) (g:MG) (G O:GS) (a:SG) (AV:List Value) (L:List Ob) (v:World):Prop:=match i with
 | none=>a=g.a/\AV=g.av
 | some i=>i=true->∃vs ls E,AV=g.av++vs/\O.BL=G.BL++ls/\A5 v L E/\So E g.mb O.Ab.length vs ls/\vs.length+G.Ab.length<=O.Ab.length
structure CJ (w:World) (g:MG) (G O:GS) (c a:SG) (AV:List Value) (F:List (Nat×Obj)) (P:List QB) (R:List Ob) (i:Option Bool) (v:World):Prop where
 st:Ak w (g.Ar G) v (MG.Ar {g with c:=c,a:=a,av:=AV} O++R)
 kf:A5 v (MG.Ar {g with c:=c,a:=a,av:=AV} O++R) F
 kp:A5 v (MG.Ar {g with c:=c,a:=a,av:=AV} O++R) (P.map qob)
 ab:AbI i g G O a AV (MG.Ar {g with c:=c,a:=a,av:=AV} O++R) v
 hb:C2 O.Ac
 al:AV.length<=O.Ab.length
def CI (w:World) (g:MG) (G O:GS) (F:List (Nat×Obj)) (P:List QB) (R:List Ob) (i:Option Bool) (v:World):Prop:=∃c a AV,CJ w g G O c a AV F P R i v
def GS.dp (g:GS) (d:Int):GS:={g with Aj:=d}
structure Aw (g' g:GS):Prop where
 Ac:g'.Ac=g.Ac
 cells:g'.cells=g.cells
 block:g'.block=g.block
 Aj:g'.Aj=g.Aj
theorem Aw.refl (g:GS):Aw g g:=⟨rfl,rfl,rfl,rfl⟩
theorem Aw.trans {a b c:GS} (h:Aw a b) (k:Aw b c):Aw a c:=⟨h.1.trans k.1,h.2.trans k.2,h.3.trans k.3,h.4.trans k.4⟩
theorem Aw.AP (h:Aw g' g) (i:GI):Aw (g'.AP i) g:=⟨h.1,h.2,h.3,h.4⟩
theorem Aw.Bd (h:Aw g' g) (l:Ij):Aw (g'.Bd l) g:=⟨h.1,h.2,h.3,h.4⟩
theorem Aw.IW (h:Aw g' g) (r:Int):Aw (g'.IW r) g:=⟨h.1,h.2,h.3,h.4⟩
theorem Aw.Cz (h:Aw g' g) (a:At) (r:Int):Aw (g'.Cz a r) g:=by
 unfold GS.Cz;split
 ·exact h.AP _
 ·exact h
theorem Aw.Jw (h:Aw g' g) (r:Int):Aw (g'.Jw r) g:=
 ((((((((h.AP _).AP _).IW _).AP _).AP _).AP _).AP _).IW _)
theorem Aw.E7 (h:Aw g' g) (f s:Int) (a:At):Aw (g'.E7 f s a) g:=
 (((((((((h.Cz a 0).AP _).AP _).AP _).Bd _).AP _).AP _).AP _).AP _).Bd _ |>.AP _
theorem Aw.PK (h:Aw g' g):Aw g'.PK g:=
 ((((((((((((h.AP _).AP _).AP _).AP _).Bd _).AP _).Jw _).AP _).AP _).AP _).IW _).AP _).Bd _
theorem Aw.LW (hf:∀i x y,Aw x y->Aw (f i x) y) (n:Nat) {g' g:GS} (h:Aw g' g):Aw (GS.LW f n g') g:=by
 induction n with
 | zero=>exact h
 | succ n ih=>exact hf n _ _ ih
theorem Aw.Om (i:Nat) (x y:GS) (h:Aw x y):Aw (GS.Om i x) y:=
 (((((((((h.AP _).AP _).AP _).Jw _).AP _).AP _).IW _).AP _).AP _).Bd _
theorem Aw.Ol (i:Nat) (x y:GS) (h:Aw x y):Aw (GS.Ol i x) y:=
 (((((((((h.AP _).AP _).AP _).AP _).AP _).Bd _).AP _).Jw _).Bd _).Bd _
theorem Aw.Uw (i:Nat) (x y:GS) (h:Aw x y):Aw (GS.Uw i x) y:=((((h.AP _).AP _).AP _).AP _).Bd _
theorem Aw.OH (i:Nat) (x y:GS) (h:Aw x y):Aw (GS.OH i x) y:=(((h.AP _).AP _).AP _).Bd _
theorem Aw.Eu (h:Aw g' g):Aw g'.Eu g:=
 Aw.LW Aw.OH _ (Aw.LW Aw.Uw _ (Aw.LW Aw.Ol _ ((((Aw.LW Aw.Om _ h).AP _).AP _).AP _)))
theorem Aw.GD (h:Aw g' g):Aw g'.GD g:=((((((((h.AP _).AP _).AP _).AP _).AP _).AP _).AP _).AP _).Bd _
theorem Aw.NL (i:Nat) (x y:GS) (h:Aw x y):Aw (GS.NL i x) y:=((((h.AP _).AP _).AP _).AP _).Bd _
theorem Aw.NF (i:Nat) (x y:GS) (h:Aw x y):Aw (GS.NF i x) y:=(h.AP _).AP _
theorem Aw.NC (i:Nat) (x y:GS) (h:Aw x y):Aw (GS.NC i x) y:=(h.AP _).AP _
theorem Aw.Jg (i:Nat) (x y:GS) (h:Aw x y):Aw (GS.Jg i x) y:=((h.AP _).AP _).AP _
theorem Aw.Gg (h:Aw g' g) (Dw:Nat):Aw (g'.Gg Dw) g:=(Aw.LW Aw.NF _ (Aw.LW Aw.NL _ h)).AP _
theorem Aw.kQ (h:Aw g' g) (l:List Ij):Aw (l.foldl GS.Bd g') g:=by
 induction l generalizing g' with
 | nil=>exact h
 | cons a r ih=>exact ih (h.Bd a)
section
variable {w v v':World} {g:MG} {G O O':GS} {c c' a:SG} {AV:List Value} {F:List (Nat×Obj)} {P:List QB} {R:List Ob} {i:Option Bool} {k:Nat} {fn:Nat} {args:Array Value} {ret:Value}
theorem AbI.start:AbI i g G G g.a g.av (g.Ar G) w:=match i with
 | none=>⟨rfl,rfl⟩
 | some _=>fun _=>⟨[],[],[],(i7 _).symm,(i7 _).symm,A5.nil ..,.nil _ _ _,EQ⟩
theorem CI.begin {post:Ending->World->Prop} (F:List (Nat×Obj)) (P:List QB) (i:Option Bool) (h:Az w (g.Ar G)) (kf:A5 w (g.Ar G) F) (kp:A5 w (g.Ar G) (P.map qob)) (hb:C2 G.Ac) (ha:g.av.length<=G.Ab.length) (k:∀v,Hid (CI w g G G F P [] i v)->Calls prog fn args v post):Calls prog fn args w post:=
 k w ⟨g.c,g.a,g.av,Ak.refl h,kf,kp,.start,hb,ha⟩
theorem AbI.step (h:AbI i g G O a AV L v) (s:Ak v L v' L') (ha:O'.BL=O.BL) (hl:O.Ab.length<=O'.Ab.length):AbI i g G O' a AV L' v':=by
 cases i with
 | none=>exact h
 | some i=>
  intro hi;obtain⟨vs,ls,E,h1,h2,h3,h4,h5⟩:=h hi;exact⟨vs,ls,E,h1,ha.trans h2,h3.step s,h4.up (fun _ h=>h) hl,Y⟩
theorem CJ.step (h:CJ w g G O c a AV F P R i v) (s:Ak v (MG.Ar {g with c:=c,a:=a,av:=AV} O) v' (MG.Ar {g with c:=c',a:=a,av:=AV} O')) (ha:O'.BL=O.BL) (hb:O'.Ac=O.Ac) (hl:O.Ab.length<=O'.Ab.length):CJ w g G O' c' a AV F P R i v':=
 have s2:=Ak.frame h.st.Am s
 ⟨h.st.trans s2,h.kf.step s2,h.kp.step s2,h.ab.step s2 ha hl,h.hb.eq hb,Qb6 h.al hl⟩
theorem CJ.quiet (h:CJ w g G O c a AV F P R i v) (m:Av [] v v'):CJ w g G O c a AV F P R i v':=
 have s2:=Ak.quiet h.st.Am m
 ⟨h.st.trans s2,h.kf.step s2,h.kp.step s2,h.ab.step s2 rfl (LE _),h.hb,h.al⟩
theorem CI.quiet (h:CI w g G O F P R i v) (m:Av [] v v'):CI w g G O F P R i v':=let ⟨c,a,AV,h⟩:=h;⟨c,a,AV,h.quiet m⟩
theorem CI.pf (h:CI w g G O F P R i v):PF v P:=let ⟨_,_,_,h⟩:=h;h.kp.pf
theorem CI.Mf (h:CI w g G O F P R i v):v.cell? ⟨g.mb,1,none⟩=some (i5 O.Ac)/\v.cell? ⟨g.mb,2,none⟩=some (i5 O.cells)/\v.cell? ⟨g.mb,3,none⟩=some (.bool O.block)/\v.cell? ⟨g.mb,5,none⟩=some (i5 O.Aj)/\(∀i:Nat,v.frozen? ⟨g.mb,i,none⟩=false)/\g.mb < v.heap.size/\PF v P:=by
 obtain⟨c,a,AV,h⟩:=h;have m:=Dm (g:={g with c:=c,a:=a,av:=AV}) (Ak.AN h.st.Am).Am;exact⟨m.c 1,m.c 2,m.c 3,m.c 5,m.f,m.lt,h.kp.pf⟩
theorem CI.vv (h:CI w g G O F P R i v):∃c:SG,v.cell? ⟨g.mb,0,none⟩=some (.slice c.p O.Ab.length c.c):=by
 obtain⟨c,a,AV,h⟩:=h;have m:=Dm (g:={g with c:=c,a:=a,av:=AV}) (Ak.AN h.st.Am).Am;exact⟨c,m.c 0⟩
theorem CI.new (h:CI w g G O F P R i v) (b:Nat) (v2:World) (cs:Array Value) (T:TypeId) (hb:b=v.heap.size) (hv:v2=v.alloc (.cells cs T)):CI w g G O F ((b,cs,T)::P) R i v2:=by
 subst hb hv;obtain⟨c,a,AV,h⟩:=h;have q:=h.quiet ((Av.refl _ _).alloc (.cells cs T));exact⟨c,a,AV,q.st,q.kf,h.kp.new h.st.Am _,q.ab,q.hb,q.al⟩
theorem CI.Aj (h:CI w g G O F P R i v) (d:Int) (v2:World) (hv:v2=v.setCell ⟨g.mb,5,none⟩ (i5 d)):CI w g G (O.dp d) F P R i v2:=by
 subst hv;obtain⟨c,a,AV,h⟩:=h;have s:=Az.set (Ak.AN h.st.Am).Am (i:=0) rfl 5 (i5 d);exact⟨c,a,AV,h.step s rfl rfl (LE _)⟩
theorem CI.dC (h:CI w g G O F P R i v) (hp:(b,cs,T)∈P):CI w g G O F ((b,cs,T)::P) R i v:=
 let ⟨c,a,AV,h⟩:=h;⟨c,a,AV,h.st,h.kf,h.kp.sub fun x hx=>(Pi.1 hx).elim (fun e=>e▸Qbg.2 ⟨_,hp,rfl⟩) id,h.ab,h.hb,h.al⟩
theorem CI.AeZ {q:QB} (h:CI w g G O F (q::P) R i v):CI w g G O F P R i v:=
 let ⟨c,a,AV,h⟩:=h;⟨c,a,AV,h.st,h.kf,h.kp.sub fun x hx=>U _ hx,h.ab,h.hb,h.al⟩
theorem CI.sub (h:CI w g G O E S R i v) (hF:∀x,x∈F->x∈E) (hP:∀x,x∈P->x∈S):CI w g G O F P R i v:=
 let ⟨c,a,AV,h⟩:=h;⟨c,a,AV,h.st,h.kf.sub hF,h.kp.sub fun x hx=>let ⟨y,hy,e⟩:=Qbg.1 hx;Qbg.2 ⟨y,hP y hy,e⟩,h.ab,h.hb,h.al⟩
theorem CI.Aek (h:CI w g G O F P R i v):CI w g G O F P [] i v:=
 let ⟨c,a,AV,h⟩:=h
 have s:=Ak.AN h.st.Am
 ⟨c,a,AV,h.st.trans s,h.kf.step s,h.kp.step s,h.ab.step s rfl (LE _),h.hb,h.al⟩
def LR (f:Nat->GS->GS) (n:Int) (w:World) (g:MG) (G B:GS) (F:List (Nat×Obj)) (P:List QB) (R:List Ob) (i:Option Bool) (iv:Value) (v:World):Prop:=
 ∃k:Nat,iv= i5 k/\(k:Int)<=n/\CI w g G (GS.LW f k B) F P R i v
theorem LR.start {n:Int} (hn:0<=n) (h:CI w g G B F P R i v):LR f n w g G B F P R i (i5 0) v:=⟨0,rfl,hn,h⟩
theorem J7 (hf:∀i x,(f i x).Ab.length=x.Ab.length+m) (n:Nat) (g:GS):(GS.LW f n g).Ab.length=g.Ab.length+n*m:=by
 induction n with
 | zero=>simp[GS.LW]
 | succ n ih=>simp only[GS.LW,hf,ih,Nat.succ_mul];omega
theorem LR.open {n:Int} {iv:Value} (h:LR f n w g G B F P R i iv v) (hl:∀i x,(f i x).Ab.length=x.Ab.length+m) (hs:∀i x y,Aw x y->Aw (f i x) y):
  ∃(k:Nat) (O:GS),iv= i5 k/\(k:Int)<=n/\O.Ab.length=B.Ab.length+k*m/\Hid (O=GS.LW f k B)/\Hid (Aw O B)/\Hid (CI w g G O F P R i v):=by
 obtain⟨k,rfl,hk,h⟩:=h;exact⟨k,_,rfl,hk,J7 hl k B,rfl,Aw.LW hs k (Aw.refl B),h⟩
theorem LR.next {n:Int} {k:Nat} (hO:Hid (O=GS.LW f k B)) (hk:(k:Int) < n) (h:CI w g G (f k O) E S R i v) (hF:∀x,x∈F->x∈E) (hP:∀x,x∈P->x∈S):LR f n w g G B F P R i (i5 (k+1:Nat)) v:=
 ⟨k+1,rfl,Y,by rw[GS.LW,<-hO.out];exact h.sub hF hP⟩
theorem CI.drew (h:CI w g G O F P R i v) (v2:World) (hv:v2=v.drew):CI w g G O F P R i v2:=hv▸h.quiet (Av.refl _ _).drew
theorem CI.mk (H:Hid (CI w g G O F P R i v)) (ha:O'.BL=O.BL) (hb:O'.Ac=O.Ac) (hl:O.Ab.length<=O'.Ab.length)
  (k:∀c a AV,Az v (MG.Ar {g with c:=c,a:=a,av:=AV} O)->C2 O.Ac->AV.length<=O.Ab.length->Calls prog fn args v (pQ ret O' {g with c:=c,a:=a,av:=AV} O v)):
  Calls prog fn args v (fun e v'=>e= .returned ret/\Hid (CI w g G O' F P R i v')):=by
 obtain⟨c,a,AV,h⟩:=H.out;refine(k c a AV (Ak.AN h.st.Am).Am h.hb h.al).mono ?_;rintro e v' ⟨rfl,c',s⟩;exact⟨rfl,⟨c',a,AV,h.step s ha hb hl⟩⟩
theorem CI.q (H:Hid (CI w g G O F P R i v)) (k:∀c a AV,Az v (MG.Ar {g with c:=c,a:=a,av:=AV} O)->C2 O.Ac->Calls prog fn args v (JV ret v)):
  Calls prog fn args v (fun e v'=>e= .returned ret/\Hid (CI w g G O F P R i v')):=by
 obtain⟨c,a,AV,h⟩:=H.out;refine(k c a AV (Ak.AN h.st.Am).Am h.hb).mono ?_;rintro e v' ⟨rfl,m⟩;exact⟨rfl,⟨c,a,AV,h.quiet m⟩⟩
theorem CI.ab {j:Bool} (H:Hid (CI w g G O F P [] (some j) v)) (hb:O'.Ac=O.Ac)
  (k:∀c a AV,Az v (MG.Ar {g with c:=c,a:=a,av:=AV} O)->C2 O.Ac->AV.length<=O.Ab.length->Calls prog fn args v (StS O' {g with c:=c,a:=a,av:=AV} O v)):
  Calls prog fn args v (fun e v'=>e= .returned (.tuple #[])/\Hid (CI w g G O' F P [] (some j) v')):=by
 obtain⟨c,a,AV,h⟩:=H.out;refine(k c a AV h.st.Am h.hb h.al).mono ?_;exact maG
theorem CI.zs {kk:Nat} (H:Hid (CI w g G O F P R i v)) (ha:O'.BL=O.BL) (hb:O'.Ac=O.Ac) (hl:O.Ab.length<=O'.Ab.length)
  (k:∀c a AV,Az v (MG.Ar {g with c:=c,a:=a,av:=AV} O)->C2 O.Ac->A5 v (MG.Ar {g with c:=c,a:=a,av:=AV} O) (P.map qob)->Calls prog fn args v (fun e v'=>∃ba bm bk c',e= .returned (.func (.func 154) #[] #[i6 ba,i6 bm,i6 bk])/\
    Ak v (MG.Ar {g with c:=c,a:=a,av:=AV} O) v' (MG.Ar {g with c:=c',a:=a,av:=AV} O')/\A5 v' (MG.Ar {g with c:=c',a:=a,av:=AV} O') [Gc bk kk,NM ba a0,Ga bm g.mb]/\(v.heap.size<=ba/\v.heap.size<=bm/\v.heap.size<=bk))):
  Calls prog fn args v (fun e v'=>∃ba bm bk,e= .returned (.func (.func 154) #[] #[i6 ba,i6 bm,i6 bk])/\Hid (CI w g G O' (Gc bk kk::NM ba a0::Ga bm g.mb::F) P R i v')):=by
 obtain⟨c,a,AV,h⟩:=H.out;refine(k c a AV (Ak.AN h.st.Am).Am h.hb h.kp.left).mono ?_;rintro e v' ⟨ba,bm,bk,c',rfl,s,kn,hf⟩;have q:=h.step s ha hb hl;exact⟨ba,bm,bk,rfl,⟨c',a,AV,q.st,q.kf.aS (A5.AfT kn h.st.Am (Acl hf)),q.kp,q.ab,q.hb,q.al⟩⟩
end
theorem GS.Mk (g:GS) (f s:Int) (a:At):(g.E7 f s a).Ab.length=(g.Cz a 0).Ab.length+8:=by
 unfold GS.E7;simp only[GS.ID,GS.DV,GS.BT,GS.IZ]
theorem NT:(∀(g:GS) (i:GI),(g.AP i).Ab.length=g.Ab.length+1)/\(∀(g:GS) (n:ByteArray) (d:Int) (a b:Ag),(g.Ix n d a b).Ab.length=g.Ab.length+1)/\(∀(g:GS) (a:Ag),(g.CV a).Ab.length=g.Ab.length+1)/\(∀(g:GS),(g.Dn).Ab.length=g.Ab.length+1)/\(∀(g:GS) (l:Ij),(g.Bd l).Ab.length=g.Ab.length)/\(∀(g:GS) (r k:Int),(g.lo r k).Ab.length=g.Ab.length+1)/\(∀(g:GS) (r t i:Int),(g.Py r t i).Ab.length=g.Ab.length+1)/\(∀(g:GS) (r k:Int),(g.NR r k).Ab.length=g.Ab.length+1)/\(∀(g:GS) (k:Int) (a:Ag),(g.st k a).Ab.length=g.Ab.length+1)/\(∀(g:GS) (t i:Int) (a:Ag),(g.IL t i a).Ab.length=g.Ab.length+1)/\(∀(g:GS) (k:Int) (a:Ag),(g.Re k a).Ab.length=g.Ab.length+1)/\(∀(g:GS) (r:Int),(g.IW r).Ab.length=g.Ab.length+1)/\(∀(g:GS) (r:Int),(g.Jw r).Ab.length=g.Ab.length+8)/\(∀(g:GS),g.PK.Ab.length=g.Ab.length+18)/\(∀(g:GS),g.vK.Ab.length=g.Ab.length)/\(∀(g:GS),g.Z2.Ab.length=g.Ab.length)/\(∀(g:GS) (f s:Int) (a:At),(g.E7 f s a).Ab.length=(g.Cz a 0).Ab.length+8)/\(∀(g:GS) (d:Int),(g.dp d).Ab.length=g.Ab.length):=⟨GS.BT,GS.ID,GS.IZ,GS.FO,GS.DV,GS.Na,GS.Wm,GS.dO,GS.JP,GS.N7,GS.rj,GS.Me,GS.YR,GS.eJ,GS.jm,GS.gf,GS.Mk,fun _ _=>rfl⟩
theorem GS.Ec (g:GS) (a:At) (r:Int):g.Ab.length<=(g.Cz a r).Ab.length:=by
 unfold GS.Cz;split
 ·rw[GS.Na];omega
 ·omega
theorem Mb (h:b=a+c):a<=b:=Y
theorem xN (k:Int)⦃w v:World⦄⦃g:MG⦄⦃G O:GS⦄⦃F:List (Nat×Obj)⦄⦃P:List QB⦄⦃R:List Ob⦄⦃i:Option Bool⦄(H:Hid (CI w g G O F P R i v)):
  Calls prog 139 #[i5 k] v (fun e v'=>e= .returned (.agg #[.bool false,i5 k])/\Hid (CI w g G (O) F P R i v')):=
 CI.q H fun _ _ _ _ _=>Wr k v
theorem xR (k:Int)⦃w v:World⦄⦃g:MG⦄⦃G O:GS⦄⦃F:List (Nat×Obj)⦄⦃P:List QB⦄⦃R:List Ob⦄⦃i:Option Bool⦄(H:Hid (CI w g G O F P R i v)):
  Calls prog 133 #[i5 k] v (fun e v'=>e= .returned (.agg #[.bool true,i5 k])/\Hid (CI w g G (O) F P R i v')):=
 CI.q H fun _ _ _ _ _=>RL k v
theorem Kr (k:Int)⦃w v:World⦄⦃g:MG⦄⦃G O:GS⦄⦃F:List (Nat×Obj)⦄⦃P:List QB⦄⦃R:List Ob⦄⦃i:Option Bool⦄(H:Hid (CI w g G O F P R i v)) (hk: -1000<=k/\k<=1000:=by omega):
  Calls prog 135 #[i6 g.mb,i5 k] v (fun e v'=>e= .returned (.agg #[.bool false,i5 (O.Ac+k),i5 0])/\Hid (CI w g G (O) F P R i v')):=
 CI.q H fun c1 a1 A1 h hb=>dB k v {g with c:=c1,a:=a1,av:=A1} O h (ZZ hb hk)
theorem xof (k r:Int)⦃w v:World⦄⦃g:MG⦄⦃G O:GS⦄⦃F:List (Nat×Obj)⦄⦃P:List QB⦄⦃R:List Ob⦄⦃i:Option Bool⦄(H:Hid (CI w g G O F P R i v)) (hk: -1000<=k/\k<=1000:=by omega):
  Calls prog 138 #[i6 g.mb,i5 k,i5 r] v (fun e v'=>e= .returned (.agg #[.bool true,i5 r,i5 (O.Ac+k)])/\Hid (CI w g G (O) F P R i v')):=
 CI.q H fun c1 a1 A1 h hb=>yz k r v {g with c:=c1,a:=a1,av:=A1} O h (ZZ hb hk)
theorem XI (j:GI)⦃w v:World⦄⦃g:MG⦄⦃G O:GS⦄⦃F:List (Nat×Obj)⦄⦃P:List QB⦄⦃R:List Ob⦄⦃i:Option Bool⦄(H:Hid (CI w g G O F P R i v)) (hn:O.Ab.length<=1000000:=by (try simp only[NT]);omega):
  Calls prog 81 #[i6 g.mb,j.val] v (fun e v'=>e= .returned (.tuple #[])/\Hid (CI w g G (O.AP j) F P R i v')):=
 CI.mk H rfl rfl (Mb (GS.BT _ _)) fun c1 a1 A1 h _ _=>KH j v {g with c:=c1,a:=a1,av:=A1} O h hn
theorem jY (r:Int) (a:Ag) (k:Int)⦃w v:World⦄⦃g:MG⦄⦃G O:GS⦄⦃F:List (Nat×Obj)⦄⦃P:List QB⦄⦃R:List Ob⦄⦃i:Option Bool⦄(H:Hid (CI w g G O F P R i v)) (hn:O.Ab.length<=1000000:=by (try simp only[NT]);omega):
  Calls prog 140 #[i6 g.mb,i5 r,.agg #[.bool (a).B0,i5 (a).v,i5 (k)]] v (fun e v'=>e= .returned (.tuple #[])/\Hid (CI w g G (O.AP (.load r a k)) F P R i v')):=
 CI.mk H rfl rfl (Mb (GS.BT _ _)) fun c1 a1 A1 h _ _=>L2 r (a) (k) v {g with c:=c1,a:=a1,av:=A1} O h hn
theorem xy (r k:Int)⦃w v:World⦄⦃g:MG⦄⦃G O:GS⦄⦃F:List (Nat×Obj)⦄⦃P:List QB⦄⦃R:List Ob⦄⦃i:Option Bool⦄(H:Hid (CI w g G O F P R i v)) (hn:O.Ab.length<=1000000:=by (try simp only[NT]);omega):
  Calls prog 140 #[i6 g.mb,i5 r,.agg #[.bool false,i5 ((O.Ac+k)),i5 (0)]] v (fun e v'=>e= .returned (.tuple #[])/\Hid (CI w g G (O.lo r k) F P R i v')):=
 CI.mk H rfl rfl (Mb (GS.BT _ _)) fun c1 a1 A1 h _ _=>L2 r (Ag.n (O.Ac+k)) (0) v {g with c:=c1,a:=a1,av:=A1} O h hn
theorem qH (r t j:Int)⦃w v:World⦄⦃g:MG⦄⦃G O:GS⦄⦃F:List (Nat×Obj)⦄⦃P:List QB⦄⦃R:List Ob⦄⦃i:Option Bool⦄(H:Hid (CI w g G O F P R i v)) (hn:O.Ab.length<=1000000:=by (try simp only[NT]);omega):
  Calls prog 140 #[i6 g.mb,i5 r,.agg #[.bool true,i5 (j),i5 (O.Ac+t)]] v (fun e v'=>e= .returned (.tuple #[])/\Hid (CI w g G (O.Py r t j) F P R i v')):=
 CI.mk H rfl rfl (Mb (GS.BT _ _)) fun c1 a1 A1 h _ _=>L2 r (Ag.r j) (O.Ac+t) v {g with c:=c1,a:=a1,av:=A1} O h hn
theorem qI (r k:Int)⦃w v:World⦄⦃g:MG⦄⦃G O:GS⦄⦃F:List (Nat×Obj)⦄⦃P:List QB⦄⦃R:List Ob⦄⦃i:Option Bool⦄(H:Hid (CI w g G O F P R i v)) (hn:O.Ab.length<=1000000:=by (try simp only[NT]);omega):
  Calls prog 140 #[i6 g.mb,i5 r,.agg #[.bool false,i5 (k),i5 (0)]] v (fun e v'=>e= .returned (.tuple #[])/\Hid (CI w g G (O.NR r k) F P R i v')):=
 CI.mk H rfl rfl (Mb (GS.BT _ _)) fun c1 a1 A1 h _ _=>L2 r (Ag.n k) (0) v {g with c:=c1,a:=a1,av:=A1} O h hn
theorem qD (a:Ag) (k:Int) (b:Ag)⦃w v:World⦄⦃g:MG⦄⦃G O:GS⦄⦃F:List (Nat×Obj)⦄⦃P:List QB⦄⦃R:List Ob⦄⦃i:Option Bool⦄(H:Hid (CI w g G O F P R i v)) (hn:O.Ab.length<=1000000:=by (try simp only[NT]);omega):
  Calls prog 134 #[i6 g.mb,.agg #[.bool (a).B0,i5 (a).v,i5 (k)],.agg #[.bool (b).B0,i5 (b).v]] v (fun e v'=>e= .returned (.tuple #[])/\Hid (CI w g G (O.AP (.store a k b)) F P R i v')):=
 CI.mk H rfl rfl (Mb (GS.BT _ _)) fun c1 a1 A1 h _ _=>M7 (a) (k) b v {g with c:=c1,a:=a1,av:=A1} O h hn
theorem jX (k:Int) (b:Ag)⦃w v:World⦄⦃g:MG⦄⦃G O:GS⦄⦃F:List (Nat×Obj)⦄⦃P:List QB⦄⦃R:List Ob⦄⦃i:Option Bool⦄(H:Hid (CI w g G O F P R i v)) (hn:O.Ab.length<=1000000:=by (try simp only[NT]);omega):
  Calls prog 134 #[i6 g.mb,.agg #[.bool false,i5 ((O.Ac+k)),i5 (0)],.agg #[.bool b.B0,i5 b.v]] v (fun e v'=>e= .returned (.tuple #[])/\Hid (CI w g G (O.st k b) F P R i v')):=
 CI.mk H rfl rfl (Mb (GS.BT _ _)) fun c1 a1 A1 h _ _=>M7 (Ag.n (O.Ac+k)) (0) b v {g with c:=c1,a:=a1,av:=A1} O h hn
theorem qE (t j:Int) (b:Ag)⦃w v:World⦄⦃g:MG⦄⦃G O:GS⦄⦃F:List (Nat×Obj)⦄⦃P:List QB⦄⦃R:List Ob⦄⦃i:Option Bool⦄(H:Hid (CI w g G O F P R i v)) (hn:O.Ab.length<=1000000:=by (try simp only[NT]);omega):
  Calls prog 134 #[i6 g.mb,.agg #[.bool true,i5 (j),i5 (O.Ac+t)],.agg #[.bool b.B0,i5 b.v]] v (fun e v'=>e= .returned (.tuple #[])/\Hid (CI w g G (O.IL t j b) F P R i v')):=
 CI.mk H rfl rfl (Mb (GS.BT _ _)) fun c1 a1 A1 h _ _=>M7 (Ag.r j) (O.Ac+t) b v {g with c:=c1,a:=a1,av:=A1} O h hn
theorem qF (k:Int) (b:Ag)⦃w v:World⦄⦃g:MG⦄⦃G O:GS⦄⦃F:List (Nat×Obj)⦄⦃P:List QB⦄⦃R:List Ob⦄⦃i:Option Bool⦄(H:Hid (CI w g G O F P R i v)) (hn:O.Ab.length<=1000000:=by (try simp only[NT]);omega):
  Calls prog 134 #[i6 g.mb,.agg #[.bool false,i5 (k),i5 (0)],.agg #[.bool b.B0,i5 b.v]] v (fun e v'=>e= .returned (.tuple #[])/\Hid (CI w g G (O.Re k b) F P R i v')):=
 CI.mk H rfl rfl (Mb (GS.BT _ _)) fun c1 a1 A1 h _ _=>M7 (Ag.n k) (0) b v {g with c:=c1,a:=a1,av:=A1} O h hn
theorem ck (n:ByteArray) (d:Int) (a b:Ag)⦃w v:World⦄⦃g:MG⦄⦃G O:GS⦄⦃F:List (Nat×Obj)⦄⦃P:List QB⦄⦃R:List Ob⦄⦃i:Option Bool⦄(H:Hid (CI w g G O F P R i v)) (hn:O.Ab.length<=1000000:=by (try simp only[NT]);omega):
  Calls prog 132 #[i6 g.mb,.string n,i5 d,.agg #[.bool a.B0,i5 a.v],.agg #[.bool b.B0,i5 b.v]] v (fun e v'=>e= .returned (.tuple #[])/\Hid (CI w g G (O.Ix n d a b) F P R i v')):=
 CI.mk H rfl rfl (Mb (GS.BT _ _)) fun c1 a1 A1 h _ _=>yy n d a b v {g with c:=c1,a:=a1,av:=A1} O h hn
theorem NZ (a:At) (r:Int)⦃w v:World⦄⦃g:MG⦄⦃G O:GS⦄⦃F:List (Nat×Obj)⦄⦃P:List QB⦄⦃R:List Ob⦄⦃i:Option Bool⦄(H:Hid (CI w g G O F P R i v)) (hok:FR a:=by assumption) (hn:O.Ab.length<=1000000:=by (try simp only[NT]);omega):
  Calls prog 131 #[i6 g.mb,.agg #[.bool a.AR,i5 a.v],i5 r] v (fun e v'=>e= .returned (.agg #[.bool (GS.BF a r).B0,i5 (GS.BF a r).v])/\Hid (CI w g G (O.Cz a r) F P R i v')):=
 CI.mk H (GS.Kt _ _ _) (GS.Yn _ _ _) (GS.Ec _ _ _) fun c1 a1 A1 h hb _=>gV a r v {g with c:=c1,a:=a1,av:=A1} O h hn hb hok
theorem ZV (r:Int)⦃w v:World⦄⦃g:MG⦄⦃G O:GS⦄⦃F:List (Nat×Obj)⦄⦃P:List QB⦄⦃i:Bool⦄(H:Hid (CI w g G O F P [] (some i) v)) (hn:O.Ab.length<=1000000:=by (try simp only[NT]);omega):
  Calls prog 153 #[i6 g.mb,i5 r] v (fun e v'=>e= .returned (.tuple #[])/\Hid (CI w g G (O.IW r) F P [] (some i) v')):=
 CI.ab H rfl fun c1 a1 A1 h _ ha=>ie r v {g with c:=c1,a:=a1,av:=A1} O h hn ha
theorem Tz (a:Ag)⦃w v:World⦄⦃g:MG⦄⦃G O:GS⦄⦃F:List (Nat×Obj)⦄⦃P:List QB⦄⦃R:List Ob⦄⦃i:Option Bool⦄(H:Hid (CI w g G O F P R i v)) (hn:O.Ab.length<=1000000:=by (try simp only[NT]);omega):
  Calls prog 141 #[i6 g.mb,.agg #[.bool a.B0,i5 a.v]] v (fun e v'=>∃ba bm bk,e= .returned (.func (.func 154) #[] #[i6 ba,i6 bm,i6 bk])/\Hid (CI w g G (O.CV a) (Gc bk O.Ab.length::NM ba (a)::Ga bm g.mb::F) P R i v')):=
 CI.zs H rfl rfl (Mb (GS.BT _ _)) fun c1 a1 A1 h _ _=>YZ a v {g with c:=c1,a:=a1,av:=A1} O h hn
theorem jZ⦃w v:World⦄⦃g:MG⦄⦃G O:GS⦄⦃F:List (Nat×Obj)⦄⦃P:List QB⦄⦃i:Option Bool⦄(H:Hid (CI w g G O F P [] i v)) (hn:O.Ab.length<=1000000:=by (try simp only[NT]);omega):
  Calls prog 151 #[i6 g.mb] v (fun e v'=>∃bm bk,e= .returned (.func (.func 174) #[] #[i6 bm,i6 bk])/\Hid (CI w g G O.Dn (Gc bk O.Ab.length::Ga bm g.mb::F) P [] i v')):=by
 obtain⟨c,a,AV,h⟩:=H.out;refine(nz v {g with c:=c,a:=a,av:=AV} O h.st.Am hn).mono ?_;rintro e v' ⟨bm,bk,c',rfl,s,kn⟩;have q:=h.step s rfl rfl (Mb (GS.BT _ _));exact⟨bm,bk,rfl,⟨c',a,AV,q.st,q.kf.aS kn,q.kp,q.ab,q.hb,q.al⟩⟩
theorem CI.mkF {g:MG} {i:Option Bool} {O':GS} {fn:Nat} {args:Array Value} (H:Hid (CI w g G O F P R i v)) (ha:O'.BL=O.BL) (hb:O'.Ac=O.Ac) (hl:O'.Ab.length=O.Ab.length)
  (k:∀c a AV,Az v (MG.Ar {g with c:=c,a:=a,av:=AV} O)->A5 v (MG.Ar {g with c:=c,a:=a,av:=AV} O) F->Calls prog fn args v (pQ (.tuple #[]) O' {g with c:=c,a:=a,av:=AV} O v)):
  Calls prog fn args v (fun e v'=>e= .returned (.tuple #[])/\Hid (CI w g G (O') F P R i v')):=by
 obtain⟨c,a,AV,h⟩:=H.out;refine(k c a AV (Ak.AN h.st.Am).Am h.kf.left).mono ?_;rintro e v' ⟨rfl,c',s⟩;exact⟨rfl,⟨c',a,AV,h.step s ha hb (Nat.le_of_eq hl.symm)⟩⟩
theorem JN (a:Ag) (ba bm bk k:Nat)⦃w v:World⦄⦃g:MG⦄⦃G O:GS⦄⦃F:List (Nat×Obj)⦄⦃P:List QB⦄⦃R:List Ob⦄⦃i:Option Bool⦄(H:Hid (CI w g G O F P R i v)) (h1:Gc bk k∈F:=by repeat (first | exact List.Mem.head _ | apply List.Mem.tail)) (h2:NM ba a∈F:=by repeat (first | exact List.Mem.head _ | apply List.Mem.tail)) (h3:Ga bm g.mb∈F:=by repeat (first | exact List.Mem.head _ | apply List.Mem.tail)) (hn:O.Ab.length<=1000000:=by (try simp only[NT]);omega) (hk:k < O.Ab.length:=by (try simp only[NT]);omega):
  Calls prog 154 #[i6 ba,i6 bm,i6 bk] v (fun e v'=>e= .returned (.tuple #[])/\Hid (CI w g G (O.Bd ⟨k,some a⟩) F P R i v')):=
 CI.mkF H rfl rfl (GS.DV _ _) fun c1 a1 A1 h K=>QA a ba bm bk k v {g with c:=c1,a:=a1,av:=A1} O F h K h1 h2 h3 hn hk
theorem qK (bm bk k:Nat)⦃w v:World⦄⦃g:MG⦄⦃G O:GS⦄⦃F:List (Nat×Obj)⦄⦃P:List QB⦄⦃R:List Ob⦄⦃i:Option Bool⦄(H:Hid (CI w g G O F P R i v)) (h1:Gc bk k∈F:=by repeat (first | exact List.Mem.head _ | apply List.Mem.tail)) (h3:Ga bm g.mb∈F:=by repeat (first | exact List.Mem.head _ | apply List.Mem.tail)) (hn:O.Ab.length<=1000000:=by (try simp only[NT]);omega) (hk:k < O.Ab.length:=by (try simp only[NT]);omega):
  Calls prog 174 #[i6 bm,i6 bk] v (fun e v'=>e= .returned (.tuple #[])/\Hid (CI w g G (O.Bd ⟨k,none⟩) F P R i v')):=
 CI.mkF H rfl rfl (GS.DV _ _) fun c1 a1 A1 h K=>SO bm bk k v {g with c:=c1,a:=a1,av:=A1} O F h K h1 h3 hn hk
theorem CI.Dr {g:MG} (h:CI w g G O F P [] (some true) v):StS O g G w (.returned (.tuple #[])) v:=by
 obtain⟨c,a,AV,h⟩:=h;obtain⟨vs,ls,E,rfl,h2,h3,h4,h5⟩:=h.ab rfl;exact⟨rfl,c,a,vs,ls,E,h2,h.st,h3,h4,h5⟩
theorem CI.mks {g:MG} {ret:Value} (h:CI w g G O F P [] none v):pQ ret O g G w (.returned ret) v:=by
 obtain⟨c,a,AV,h⟩:=h;obtain⟨rfl,rfl⟩:=h.ab;exact⟨rfl,c,h.st⟩
def AaR (p:Prop):Prop:=p
theorem Aa4 (h:p):AaR p:=h
theorem Nz {Pg:Program} {id:Nat} {a:Act} (h:AaR ((Code.region id Bh true).wp Pg Q a w)):(Code.region id Bh true).wp Pg Q a w:=h
def LN (_:List (Nat×Bool)) (_:Nat):Prop:=True
theorem AeR {id:Nat} {a:Act} {l:List (Nat×Bool)} (_:LN l n) (hS:PF w.drew P) (h:∀v,v=w.drew->BB prog Bh Q (fun W=>PF W P) l a v)
  (hm:prog.follows .mixedOrders=true:=by kernel_rfl) (hlen:l.length=Bh.size:=by kernel_rfl) (hsn:VO .any Bh n=true:=by kernel_rfl) (hsel:Region.noSelect Bh=true:=by kernel_rfl)
  (hk:Rk .any Bh n l (Array.replicate Bh.size false)=true:=by kernel_rfl) (hQ:∀c a d v w,Q (.panic c) (Act.put a d v) w->Q (.panic c) a w:=by (intro c a d v w h;cases d <;>exact h)):(Code.region id Bh true).wp prog Q a w:=
 Ap _ n hS (h _ rfl) hm hlen hsn hsel hk hQ
theorem lW (n:Int) (k:Nat) (hn:0<=n/\n<=100) (hk:k<=100):wrap64 (n+(k:Int))=n+k:=IntWalk.wrap64_in _ Y
theorem yO (n:Int) (k:Nat) (hn:0<=n/\n<=100) (hk:k<=100):IntKind.i64.wrap (n+(k:Int))=n+k:=IntWalk.i64_in _ Y
theorem Ado (k:Nat) (hk:k<=100):wrap64 ((k:Int)+1)=k+1:=IntWalk.wrap64_in _ Y
theorem Aat (k:Nat) (hk:k<=100):wrap64 (0+(k:Int))=k/\wrap64 (k:Int)=k:=⟨by rw[IntWalk.wrap64_in _ Y];omega,IntWalk.wrap64_in _ Y⟩
theorem wrs (k:Nat) (hk:k<=100):(True->wrap64 (0+(k:Int))=k)/\(True->wrap64 (k:Int)=k)/\(True->wrap64 (4+(k:Int))=4+k)/\(True->wrap64 (8+(k:Int))=8+k)/\(True->wrap64 (14+(k:Int))=14+k)/\(True->wrap64 (20+(k:Int))=20+k)/\(True->wrap64 (26+(k:Int))=26+k)/\(True->wrap64 (32+(k:Int))=32+k)/\
  (True->IntKind.i64.wrap (8+(k:Int))=8+k)/\(True->IntKind.i64.wrap (14+(k:Int))=14+k)/\(True->IntKind.i64.wrap (26+(k:Int))=26+k)/\(True->IntKind.i64.wrap (32+(k:Int))=32+k)/\(True->wrap64 ((k:Int)+1)=(k+1:Nat)):=
 ⟨fun _=>(Aat k hk).1,fun _=>(Aat k hk).2,fun _=>lW 4 k AC hk,fun _=>lW 8 k AC hk,fun _=>lW 14 k AC hk,fun _=>lW 20 k AC hk,fun _=>lW 26 k AC hk,fun _=>lW 32 k AC hk,fun _=>yO 8 k AC hk,fun _=>yO 14 k AC hk,fun _=>yO 26 k AC hk,fun _=>yO 32 k AC hk,fun _=>Ado k hk⟩
def DeT (_:Int):Prop:=True
def CeT (_:Array Value) (_:TypeId):Prop:=True
theorem fin1 (h:p:=by
  obtain⟨_,_,_,_,_,_,zp⟩:=H.out.Mf;repeat (obtain⟨_,_,zp⟩:=zp)
  unhygienic (go_wp2_with (with_reducible refine Nz ?_))
  (try revert K_3);(try revert K_2);(try revert K_1);(try revert K);(try revert Q'_1);(try revert Q')
  exact zk.out v H):p:=h
theorem fin2 (h:p:=by
  (try revert K_3);(try revert K_2);(try revert K_1);(try revert K);(try revert Q'_1);(try revert Q')
  exact zk.out v2 H2):p:=h
section
variable {P' R':Prop} {w:World} {g:MG} {G O:GS} {F:List (Nat×Obj)} {P:List QB} {R:List Ob} {i:Option Bool}
theorem MW (k:(∀v,Hid (CI w g G O F P R i v)->X v)) (h:Hid (∀v,Hid (CI w g G O F P R i v)->X v)->P':=by
  intro zk v H
  unhygienic intros
  exact fin1):P':=h k
theorem MWL {X:SG->World->Prop} (k:(∀c v,Hid (CI w g G O F P R i v)->X c v)) (h:Hid (∀c v,Hid (CI w g G O F P R i v)->X c v)->P':=by
  intro zk v H
  unhygienic intros
  obtain⟨_,_,_,_,_,_,zp⟩:=H.out.Mf;obtain⟨zC,_⟩:=H.out.vv;repeat (obtain⟨_,_,zp⟩:=zp)
  unhygienic (go_wp2_with (with_reducible refine Nz ?_))
  (try revert K_3);(try revert K_2);(try revert K_1);(try revert K);(try revert Q'_1);(try revert Q')
  exact zk.out zC v H):P':=h k
theorem MK (t:R') (k:(∀v,Hid (CI w g G O F P R i v)->X v)) (h:R'->Hid (∀v,Hid (CI w g G O F P R i v)->X v)->P':=by
  intro zt zk v H
  unhygienic intros
  refine(zt H).mono ?_;clear zt H;rintro e v ⟨rfl,H⟩;exact fin1):P':=h t k
theorem MKL {X:SG->World->Prop} (t:R') (k:(∀c v,Hid (CI w g G O F P R i v)->X c v)) (h:R'->Hid (∀c v,Hid (CI w g G O F P R i v)->X c v)->P':=by
  intro zt zk v H
  unhygienic intros
  refine(zt H).mono ?_;clear zt H;rintro e v ⟨rfl,H⟩;obtain⟨_,_,_,_,_,_,zp⟩:=H.out.Mf;obtain⟨zC,_⟩:=H.out.vv;repeat (obtain⟨_,_,zp⟩:=zp)
  unhygienic (go_wp2_with (with_reducible refine Nz ?_))
  (try revert K_3);(try revert K_2);(try revert K_1);(try revert K);(try revert Q'_1);(try revert Q')
  exact zk.out zC v H):P':=h t k
theorem MZ {X:Nat->Nat->Nat->World->Prop} (t:R') (k:(∀ba bm bk v,Hid (CI w g G O (Gc bk n::NM ba a0::Ga bm g.mb::F) P R i v)->X ba bm bk v)) (h:R'->Hid (∀ba bm bk v,Hid (CI w g G O (Gc bk n::NM ba a0::Ga bm g.mb::F) P R i v)->X ba bm bk v)->P':=by
  intro zt zk v H
  unhygienic intros
  refine(zt H).mono ?_;clear zt H;rintro e v ⟨ba,bm,bk,rfl,H⟩;obtain⟨_,_,_,_,_,_,zp⟩:=H.out.Mf;repeat (obtain⟨_,_,zp⟩:=zp)
  unhygienic (go_wp2_with (with_reducible refine Nz ?_))
  (try revert K_3);(try revert K_2);(try revert K_1);(try revert K);(try revert Q'_1);(try revert Q')
  exact zk.out ba bm bk v H):P':=h t k
theorem MJJ {X:Nat->Nat->World->Prop} (t:R') (k:(∀bm bk v,Hid (CI w g G O (Gc bk n::Ga bm g.mb::F) P R i v)->X bm bk v)) (h:R'->Hid (∀bm bk v,Hid (CI w g G O (Gc bk n::Ga bm g.mb::F) P R i v)->X bm bk v)->P':=by
  intro zt zk v H
  unhygienic intros
  refine(zt H).mono ?_;clear zt H;rintro e v ⟨bm,bk,rfl,H⟩;obtain⟨_,_,_,_,_,_,zp⟩:=H.out.Mf;repeat (obtain⟨_,_,zp⟩:=zp)
  unhygienic (go_wp2_with (with_reducible refine Nz ?_))
  (try revert K_3);(try revert K_2);(try revert K_1);(try revert K);(try revert Q'_1);(try revert Q')
  exact zk.out bm bk v H):P':=h t k
theorem CI.aK (_:CeT cs T) (h:CI w g G O F P R i v):∃b v2,b=v.heap.size/\v2=v.alloc (.cells cs T)/\(b≠g.mb/\w.heap.size<=b)/\Hid (CI w g G O F ((b,cs,T)::P) R i v2):=by
 have m:=h.Mf.2.2.2.2.2.1;exact⟨_,_,rfl,rfl,⟨Y,by obtain⟨_,_,_,q⟩:=h;exact q.st.Bf.size⟩,h.new _ _ _ _ rfl rfl⟩
theorem MA {X:Nat->World->Prop} (cs:Array Value) (T:TypeId) (k:(∀b,b≠g.mb/\w.heap.size<=b->∀v,Hid (CI w g G O F ((b,cs,T)::P) R i v)->X b v)) (h:CeT cs T->Hid (∀b,b≠g.mb/\w.heap.size<=b->∀v,Hid (CI w g G O F ((b,cs,T)::P) R i v)->X b v)->P':=by
  intro zz zk v H
  unhygienic intros
  obtain⟨b,v2,hb,hv,hn,H2⟩:=CI.aK zz H.out
  (try simp only[<-hb]);rw[<-hv]
  clear zz H hb hv
  (try revert K_3);(try revert K_2);(try revert K_1);(try revert K);(try revert Q'_1);(try revert Q')
  exact zk.out b hn v2 H2):P':=h trivial k
theorem CI.Ael {d:Int} (_:DeT d) (h:CI w g G O F P R i v):∃v2,v2=v.setCell ⟨g.mb,5,none⟩ (i5 d)/\Hid (CI w g G (O.dp d) F P R i v2):=⟨_,rfl,h.Aj _ _ rfl⟩
theorem MD (d:Int) (k:(∀v,Hid (CI w g G (O.dp d) F P R i v)->X v)) (h:DeT d->Hid (∀v,Hid (CI w g G (O.dp d) F P R i v)->X v)->P':=by
  intro zz zk v H
  unhygienic intros
  obtain⟨v2,hv,H2⟩:=CI.Ael zz H.out;rw[<-hv];clear zz H hv;exact fin2):P':=h trivial k
theorem MR (l:List (Nat×Bool)) (n:Nat) (k:(∀v,Hid (CI w g G O F P R i v)->X v)) (h:LN l n->Hid (∀v,Hid (CI w g G O F P R i v)->X v)->P':=by
  intro zz zk v H
  unhygienic intros
  refine Aa4 (AeR zz (H.out.drew _ rfl).pf ?_);intro v2 hv;have H2:=hid (H.out.drew v2 hv);clear zz H hv;refine AY ?_;exact fin2):P':=h trivial k
theorem ME (t:R') (k:(∀v,Hid (CI w g G O F P R i v)->X v)) (h:R'->Hid (∀v,Hid (CI w g G O F P R i v)->X v)->P':=by
  intro zt zk v H
  unhygienic intros
  refine Ai rfl (fun zK hK=> ?_);go_simp;refine(zt H).mono ?_;clear zt H;rintro e v ⟨rfl,H⟩;refine hK _ _ (fun _=>H.out.pf) ?_;clear hK zK;refine AY ?_
  (try revert K_3);(try revert K_2);(try revert K_1);(try revert K);(try revert Q'_1);(try revert Q')
  exact zk.out v H):P':=h t k
theorem MEZ {X:Nat->Nat->Nat->World->Prop} (t:R') (k:(∀ba bm bk v,Hid (CI w g G O (Gc bk n::NM ba a0::Ga bm g.mb::F) P R i v)->X ba bm bk v)) (h:R'->Hid (∀ba bm bk v,Hid (CI w g G O (Gc bk n::NM ba a0::Ga bm g.mb::F) P R i v)->X ba bm bk v)->P':=by
  intro zt zk v H
  unhygienic intros
  refine Ai rfl (fun zK hK=> ?_);go_simp;refine(zt H).mono ?_;clear zt H;rintro e v ⟨ba,bm,bk,rfl,H⟩;refine hK _ _ (fun _=>H.out.pf) ?_;clear hK zK;refine AY ?_
  (try revert K_3);(try revert K_2);(try revert K_1);(try revert K);(try revert Q'_1);(try revert Q')
  exact zk.out ba bm bk v H):P':=h t k
theorem ML (t:R') (k:(∀v,Hid (CI w g G O F P R i v)->X v)) (h:R'->Hid (∀v,Hid (CI w g G O F P R i v)->X v)->P':=by
  intro zt zk v H
  unhygienic intros
  refine Ai rfl (fun zK hK=> ?_);go_simp;refine(zt H).mono ?_;clear zt H;rintro e v ⟨rfl,H⟩;refine hK _ _ (fun h=>UV rfl h) ?_;clear hK zK;simp only[BB];exact fin1):P':=h t k
theorem MLL {X:SG->World->Prop} (t:R') (k:(∀c v,Hid (CI w g G O F P R i v)->X c v)) (h:R'->Hid (∀c v,Hid (CI w g G O F P R i v)->X c v)->P':=by
  intro zt zk v H
  unhygienic intros
  refine Ai rfl (fun zK hK=> ?_);go_simp;refine(zt H).mono ?_;clear zt H;rintro e v ⟨rfl,H⟩;refine hK _ _ (fun h=>UV rfl h) ?_;clear hK zK;simp only[BB];obtain⟨_,_,_,_,_,_,zp⟩:=H.out.Mf;obtain⟨zC,_⟩:=H.out.vv;repeat (obtain⟨_,_,zp⟩:=zp)
  unhygienic (go_wp2_with (with_reducible refine Nz ?_))
  (try revert K_3);(try revert K_2);(try revert K_1);(try revert K);(try revert Q'_1);(try revert Q')
  exact zk.out zC v H):P':=h t k
theorem MLp (k:(∀v,Hid (CI w g G O F P R i v)->X v)) (h:Hid (∀v,Hid (CI w g G O F P R i v)->X v)->P':=by
  intro zk v H
  unhygienic intros
  refine Ai rfl (fun zK hK=> ?_);go_simp;refine hK _ _ (fun h=>UV rfl h) ?_;clear hK zK;simp only[BB];exact fin1):P':=h k
end
theorem GS.jA (g:GS) (f s:Int) (a:At):(g.E7 f s a).Ac=g.Ac:=(Aw.E7 (Aw.refl g) f s a).Ac
theorem GS.fq (g:GS) (f s:Int) (a:At):(g.E7 f s a).BL=g.BL:=by
 unfold GS.E7;simp only[GS.YS,GS.iW,GS.jj,GS.cz,GS.Kt]
theorem gX (w:World) (g:MG) (G:GS) (h:Az w (g.Ar G)) (hn:G.Ab.length<=999900) (ha:g.av.length<=G.Ab.length) (FT:C2 G.Ac):
  Calls prog 157 #[i6 g.mb] w (pQ (.tuple #[]) G.GD g G w):=by
 refine CI.begin [] [] none h (A5.nil _ _) (A5.nil _ _) FT ha ?_;clear h FT;intro v H;go_enter func157,ntmps157
 revert v H
 refine MW ?_;refine MK (xN 0) ?_;refine MKL (XI (.Sq 1 (.n 0))) ?_;intro cc;refine MK (Kr 39) ?_;refine MK (xy 2 39) ?_;refine MK (xR 1) ?_;refine MK (xR 2) ?_;refine MK (ck XV 2 (.r 1) (.r 2)) ?_;refine MK (xR 2) ?_;refine MZ (Tz (.r 2)) ?_;intro bad bmd bkd;refine MK (xof 40 1) ?_;refine MK (qH 2 40 1) ?_;refine MK (xR 2) ?_;refine MK (XI (.out (.r 2))) ?_;refine MK (xR 1) ?_;refine MK (xN 1) ?_;refine MK (ck Ja 1 (.r 1) (.n 1)) ?_;refine MK (XI (.Gb _)) ?_;refine MK (JN (.r 2) bad bmd bkd _) ?_;intro v H
 go_end0
 exact H.out.mks
theorem hY (r:Int) (w:World) (g:MG) (G:GS) (h:Az w (g.Ar G)) (hn:G.Ab.length<=999950) (ha:g.av.length<=G.Ab.length) (FT:C2 G.Ac):
  Calls prog 152 #[i6 g.mb,i5 r] w (StS (G.Jw r) g G w):=by
 refine CI.begin [] [] (some true) h (A5.nil _ _) (A5.nil _ _) FT ha ?_;clear h FT;intro v H;go_enter func152,ntmps152
 revert v H
 refine MW ?_;refine MK (xR r) ?_;refine MK (xN 1) ?_;refine MK (ck Wf 3 (.r r) (.n 1)) ?_;refine MK (xR 3) ?_;refine MK (xN 0) ?_;refine MK (ck XW 3 (.r 3) (.n 0)) ?_;refine MK (ZV 3) ?_;refine MK (xR r) ?_;refine MK (xN 1) ?_;refine MK (ck Uz 3 (.r r) (.n 1)) ?_;refine MK (Kr 38) ?_;refine MK (xy 4 38) ?_;refine MK (xR 4) ?_;refine MK (xR 3) ?_;refine MK (ck XV 3 (.r 4) (.r 3)) ?_;refine MK (xR 3) ?_;refine MK (xN 0) ?_;refine MK (ck XW 3 (.r 3) (.n 0)) ?_;refine MK (ZV 3) ?_;intro v H
 go_end0
 exact H.out.Dr
theorem qG (r:Int)⦃w v:World⦄⦃g:MG⦄⦃G O:GS⦄⦃F:List (Nat×Obj)⦄⦃P:List QB⦄⦃i:Bool⦄(H:Hid (CI w g G O F P [] (some i) v)) (hn:O.Ab.length<=999950:=by (try simp only[NT]);omega):
  Calls prog 152 #[i6 g.mb,i5 r] v (fun e v'=>e= .returned (.tuple #[])/\Hid (CI w g G (O.Jw r) F P [] (some i) v')):=
 CI.ab H (GS.V7 _ _) fun c1 a1 A1 h hb ha=>hY r v {g with c:=c1,a:=a1,av:=A1} O h hn ha hb
theorem nB (w:World) (g:MG) (G:GS) (h:Az w (g.Ar G)) (hn:G.Ab.length<=999900) (ha:g.av.length<=G.Ab.length) (FT:C2 G.Ac):
  Calls prog 137 #[i6 g.mb] w (StS (G.PK) g G w):=by
 refine CI.begin [] [] (some true) h (A5.nil _ _) (A5.nil _ _) FT ha ?_;clear h FT;intro v H;go_enter func137,ntmps137
 revert v H
 refine MW ?_;refine MK (xof 8 0) ?_;refine MK (qH 1 8 0) ?_;refine MK (xR 1) ?_;refine MZ (Tz (.r 1)) ?_;intro baf bmf bkf;refine MK (xof 14 0) ?_;refine MK (qH 1 14 0) ?_;refine MJJ jZ ?_;intro bmd bkd;refine MK (JN (.r 1) baf bmf bkf _) ?_;refine MK (xR 0) ?_;refine MA #[.bool true,i5 0,i5 8] 270 ?_;intro p hp;refine MK (jY 2 (.r 0) 8) ?_;refine MK (qG 2) ?_;refine MK (xR 0) ?_;refine MK (jY 1 (.r 0) 0) ?_;refine MK (jY 3 (.r 0) 8) ?_;refine MK (xR 3) ?_;refine MK (xR 2) ?_;refine MK (ck XW 3 (.r 3) (.r 2)) ?_;refine MK (ZV 3) ?_;refine MK (xof 20 0) ?_;refine MK (xN 1) ?_;refine MK (qE 20 0 (.n 1)) ?_;refine MK (qK bmd bkd _) ?_;intro v H
 go_end0
 exact H.out.Dr
theorem ig (f s:Int) (a:At) (w:World) (g:MG) (G:GS) (h:Az w (g.Ar G)) (hn:G.Ab.length<=999900) (ha:g.av.length<=G.Ab.length) (FT:C2 G.Ac) (hok:FR a):
  Calls prog 136 #[i6 g.mb,.agg #[i5 f,i5 s,.bool a.AR,i5 a.v]] w (pQ (.tuple #[]) (G.E7 f s a) g G w):=by
 refine CI.begin [] [] none h (A5.nil _ _) (A5.nil _ _) FT ha ?_;clear h FT;intro v H;go_enter func136,ntmps136
 revert v H
 have NG:=GS.DF G a 0;refine MW ?_;refine MA #[i5 f,i5 s,.bool a.AR,i5 a.v] 241 ?_;intro b hb;refine MK (NZ a 0) ?_;refine MA #[.bool (GS.BF a 0).B0,i5 (GS.BF a 0).v] 264 ?_;intro b2 QI;refine MR [(0,true),(1,true),(2,false),(3,false)] 3 ?_;refine ME (xN 0) ?_;refine ML (ck XV 3 (GS.BF a 0) (.n 0)) ?_;refine MK (xR 3) ?_;refine MZ (Tz (.r 3)) ?_;intro balow bmlow bklow;refine MK (XI (.EF 2)) ?_;refine MK (JN (.r 3) balow bmlow bklow _) ?_;refine MR [(0,true),(1,true),(2,true),(3,true),(4,false),(5,false)] 5 ?_;refine ME (xN s) ?_;refine ML (ck XV 3 (GS.BF a 0) (.n s)) ?_;refine MK (xR 3) ?_;refine MK (xN 0) ?_;refine MK (ck XW 3 (.r 3) (.n 0)) ?_;refine MK (xR 3) ?_;refine MZ (Tz (.r 3)) ?_;intro bahigh bmhigh bkhigh;refine MK (XI (.EF 2)) ?_;refine MK (JN (.r 3) bahigh bmhigh bkhigh _) ?_;refine MR [(0,true),(1,true),(2,true),(3,true),(4,false),(5,false)] 5 ?_;refine ME (xN f) ?_;refine ML (ck Ja 0 (GS.BF a 0) (.n f)) ?_;intro v H
 go_end0
 exact H.out.mks
theorem cA (c tb:Int) (bs:Nat)⦃w v:World⦄⦃g:MG⦄⦃G O:GS⦄⦃F:List (Nat×Obj)⦄⦃P:List QB⦄⦃R:List Ob⦄⦃i:Option Bool⦄(H:Hid (CI w g G O F P R i v)) (hn:O.Ab.length<=999900:=by (try simp only[NT]);omega) (hp:(bs,#[i6 g.mb],166)∈P:=by simp) (hc:0<=c/\c<=100:=by omega) (ht:0<=tb/\tb<=100:=by omega):
  Calls prog 175 #[i5 c,i5 tb,i6 bs] v (fun e v'=>∃ba bm bk,e= .returned (.func (.func 154) #[] #[i6 ba,i6 bm,i6 bk])/\Hid (CI w g G ((O.lo 1 (tb+c)).CV (.r 1)) (Gc bk (O.lo 1 (tb+c)).Ab.length::NM ba (.r 1)::Ga bm g.mb::F) P R i v')):=by
 have hw:wrap64 (tb+c)=tb+c:=IntWalk.wrap64_in _ Y;have hw':IntKind.i64.wrap (tb+c)=tb+c:=by rw[IntWalk.i64_left];exact hw
 replace H:=hid (H.dC hp);clear hp;go_enter func175,ntmps175
 revert v H
 refine MW ?_;refine MR [(0,true),(1,true),(2,true),(3,true),(4,true),(5,false),(6,false)] 6 ?_;refine ME (Kr (tb+c)) ?_;refine ML (xy 1 (tb+c)) ?_;refine MR [(0,true),(1,false),(2,false),(3,false)] 3 ?_;refine ME (xR 1) ?_;refine MEZ (Tz (.r 1)) ?_;intro ba bm bk;refine MLp ?_;intro v H;go_ret;exact⟨ba,bm,bk,rfl,hid H.AeZ⟩
theorem GS.ZK (i:Nat) (g:GS):(GS.NL i g).Ab.length=g.Ab.length+4:=by unfold GS.NL;simp only[NT]
theorem GS.Y9 (i:Nat) (g:GS):(GS.NF i g).Ab.length=g.Ab.length+2:=by unfold GS.NF;simp only[NT]
theorem ij (Dw:Nat) (w:World) (g:MG) (G:GS) (h:Az w (g.Ar G)) (hn:G.Ab.length<=999000) (ha:g.av.length<=G.Ab.length) (FT:C2 G.Ac) (Db:0<=G.cells/\G.cells<=100):
  Calls prog 158 #[i6 g.mb,i5 (Dw:Int)] w (pQ (.tuple #[]) (G.Gg Dw) g G w):=by
 refine CI.begin [] [] none h (A5.nil _ _) (A5.nil _ _) FT ha ?_;clear h FT;intro v H;go_enter func158,ntmps158
 revert v H
 refine MW ?_;intro v H
 intros
 go_loopw [11] (fun iv wr=>LR GS.NL G.cells w g G G [] [] [] none iv wr) (fun iv _=>(G.cells:Int).toNat - (intOf iv).toNat);case atStart=>exact LR.start Db.1 H.out
 case round=>
  clear H;obtain⟨k,Gk,rfl,Sr,hl,HG,HC,H⟩:=LR.open hrel GS.ZK (Aw.NL);clear hrel;by_cases hk:(k:Int) < G.cells
  ·have Vg:Gk.Ab.length<=999500:=Y
   have Ta:k<=100:=Y
   obtain⟨z0,z1,z2,z3,z4,z5,z6,z7,y0,y1,y2,y3,zi⟩:=wrs k Ta;clear hl
   revert wr H
   refine MW ?_;refine MK (Kr (26+(k:Int))) ?_;refine MK (xy 1 (26+(k:Int))) ?_;refine MK (xR 1) ?_;refine MZ (Tz (.r 1)) ?_;intro bas bms bks;refine MK (Kr (32+(k:Int))) ?_;refine MK (xy 2 (32+(k:Int))) ?_;refine MK (xN (8+(k:Int))) ?_;refine MK (xR 2) ?_;refine MK (qF (8+(k:Int)) (.r 2)) ?_;refine MK (JN (.r 1) bas bms bks _) ?_;exact mbW
  ·have NS:k=(G.cells:Int).toNat:=Y
   rw[NS] at HG;have Vg:Gk.Ab.length<=999500:=Y
   replace hk:=Qal hk;clear hl Sr NS;obtain⟨G1,hG1⟩:∃z,z=Gk:=⟨_,rfl⟩;rw[<-hG1] at HG HC H Vg;have HG1:=HG;have jS:=HC;clear hG1 HG HC
   revert wr H
   refine MW ?_;intro v H
   intros
   go_loopw [39] (fun iv wr=>LR GS.NF 4 w g G G1 [] [] [] none iv wr) (fun iv _=>(4:Int).toNat - (intOf iv).toNat);case atStart=>exact LR.start AC H.out
   case round=>
    clear H;obtain⟨k,Gk,rfl,Sr,hl,HG,HC,H⟩:=LR.open hrel GS.Y9 (Aw.NF);clear hrel;by_cases hk:(k:Int) < 4
    ·have Vg:Gk.Ab.length<=999900:=Y
     have Ta:k<=100:=Y
     obtain⟨z0,z1,z2,z3,z4,z5,z6,z7,y0,y1,y2,y3,zi⟩:=wrs k Ta;clear hl
     revert wr H
     refine MW ?_;refine MK (Kr (4+(k:Int))) ?_;refine MK (xy 1 (4+(k:Int))) ?_;refine MK (Kr (k:Int)) ?_;refine MK (xR 1) ?_;refine MK (jX (k:Int) (.r 1)) ?_;exact mbW
    ·have NS:k=(4:Int).toNat:=Y
     rw[NS] at HG;have Vg:Gk.Ab.length<=999900:=Y
     replace hk:=Qal hk;clear hl Sr NS;obtain⟨G2,xp⟩:∃z,z=Gk:=⟨_,rfl⟩;rw[<-xp] at HG HC H Vg;have HG2:=HG;have AcJ:=HC;clear xp HG HC
     revert wr H
     refine MW ?_;refine MK (XI (.Gb (Dw:Int))) ?_;intro v H
     intros
     go_end0
     have e:G.Gg Dw=G2.AP (.Gb (Dw:Int)):=by rw[HG2.out,HG1.out];rfl
     rw[e];exact H.out.mks
end Go.Proofs.YtpdfifdlhpmofaaGreatDoor
