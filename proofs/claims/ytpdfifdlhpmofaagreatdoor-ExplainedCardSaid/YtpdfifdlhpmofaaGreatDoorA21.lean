/- Part 21 of the proof. -/
import Derived.Test.YtpdfifdlhpmofaaGreatDoorA20
import Derived.Test.YtpdfifdlhpmofaaGreatDoorA16
set_option linter.unusedVariables false
set_option linter.unusedSimpArgs false
set_option maxHeartbeats 0
set_option maxRecDepth 99999
namespace Go.Proofs.YtpdfifdlhpmofaaGreatDoor
open Go.RowKit
open Value renaming slice->qD,string->qE,bool->qF,tuple->qG,agg->qH,pointer->qI
open Ending renaming returned->qJ
open Obj renaming cells->qK
open Option renaming none->Z,some->U
open Bool renaming true->V,false->I
open Go.Lib renaming hid->D
open List renaming length->J
theorem nad {p:Prop} (h:p:=by
 intro d i n b o hw hn h;obtain⟨h0,h1,h2⟩:=ih d i n b o hw.2.2.2.2 hn h;refine⟨h0,λhi=>by grind [AW,M3],λhi=>?_⟩;have:=h2 hi;simp only[AW,M3];grind):p:=h
theorem naf {p:Prop} (h:p:=by
 rw[h] at BG;cases BG;exact XD.GB h6 ht hl hrw rfl rfl (by unfold AL;rw[h]) AC r):p:=h
theorem nag {p:Prop} (h:p:=by
 refine⟨A,_,.nil A,.ev Ay hi rfl rfl (λh=>by cases h),?_⟩;unfold Am.CU;rw[set_set];refine h.set hB hT hk ?_;obtain⟨a1,a2,a3,a4,a5,a6,a7,a8,a9⟩:=hK;exact⟨by show(M.th k).pc+1=(A.th k).lt.pc+1;rw[a1],a2,a3,a4,a5,a6,a7,rfl,a9⟩):p:=h
theorem nah {p:Prop} (h:p:=by
 have h3:=p1 d hd;have h4:=p4 d hw.2.1;have h5:60*((4 ^ (3-(d+1)):Nat):Int)*IN b<=60*((4 ^ (3-d):Nat):Int)*IN b:=Int.mul_le_mul_of_nonneg_right Y (TE b);simp only[M3,IN];rw[Qn,Qn];omega):p:=h
theorem nai {p:Prop} (h:p:=by
 refine⟨r',a1,a2,a3,AC,Y,λn u k=>?_⟩;obtain⟨m,k'⟩:=a6 n u k;exact⟨m+1,.step h.st hx GZ AC ⟨sf,by rw[h.Al,GT];omega⟩ (by rw[Ay];exact k')⟩):p:=h
theorem nap {p:Prop} (h:p:=by
 rw[h] at BG;cases BG;refine XD.same hl rfl ?_ ?_ hrw
 .rw[show AL n (G t)=[] by unfold AL;rw[h]];rfl
 grind [DD,Db]):p:=h
theorem naq {p:Prop} (h:p:=by
 show(M.th k).pc+1=(A0.th k).lt.pc+1;rw[rN]):p:=h
theorem nar {p:Prop} (h:p:=by
 unfold Am.SF;rw[gQ,hp];show Am.wv ((M.Cp k).th k).waits ((M.Cp k).mem.getD _ 0) _=_;rw[e1];exact h0.sm n hc):p:=h
theorem naA {p:Prop} (h:p:=by
 unfold EO at hf;cases hm:g.q.A5 d<;>grind):p:=h
variable {g g':Gt} {i n c d a T p m:Nat} {b s:Bj} {v Ac K cells v' w:Int} {bad:Bool} {x:Cx} {Ab:List GI} {q q' q2:KS} {X:Nat->Cx} {sw:List (Nat×Int)} {G:Nat->Gt} {mem B cs ca cb:List Int} {l:List Nd} {C sm:Nat->Int} {rt:C2} {Z95:Nat->List (Nat×Int)} {H:Nat->Nat->Option Int} {f:Nat->Option (Nat×Int)}
structure AT where
 lt:LT
 sw:List (Nat×Int)
 st:Int
 out:List Int
structure AM where
 sm:Nat->Int
 th:Nat->AT
variable {A A':AM}
def vw (sw:List (Nat×Int)) (v:Int) (a:Nat):Int:=sw.foldl (λv p=>if p.1=a then p.2 else v) v
def Ek.AgD:Ek->Bool
 |.La .. =>V
 |.El .. =>V
 |_=>I
def vE (sm:Nat->Int) (sw:List (Nat×Int)):Ek->Int
 |.ld _ a=>vw sw (sm a) a
 |.La _ a b _=>if sm a=b then 1 else 0
 |.El _ a _=>sm a
 |_=>0
def mE (sm:Nat->Int):Ek->Nat->Int
 |.La _ a b c=>if sm a=b then CA sm a c else sm
 |.El _ a k=>CA sm a (sm a+k)
 |_=>sm
def tE (sm:Nat->Int) (s:AT) (e:Ek):AT where
 lt:=TO e (vE sm s.sw e) s.lt
 sw:=match e with|.st a u=>s.sw++[(a,u)]|_=>s.sw
 st:=match e with|.stop t=>t|_=>s.st
 out:=match e with|.out u=>s.out++[u]|_=>s.out
inductive AS (X:Nat->Cx) (A:AM) (t:Nat):Bool->AM->Prop
 |Ck {a:Nat} {u:Int} {r:List (Nat×Int)} (h:(A.th t).sw=(a,u)::r):AS X A t V ⟨CA A.sm a u,A7 A.th t {A.th t with sw:=r}⟩
 |SH {lt':LT} (h0:(A.th t).st=0) (h:ps1 (X t).Ac (X t).Ab (A.th t).lt=U lt'):AS X A t I ⟨A.sm,A7 A.th t {A.th t with lt:=lt'}⟩
 |ev {i:GI} {e:Ek} (h0:(A.th t).st=0) (hc:(X t).Ab[(A.th t).lt.pc]?=U i) (hx:cj (X t).Ac i (A.th t).lt.x=Z) (he:evk i (A.th t).lt.x=U e) (hd:e.AgD=V->(A.th t).sw=[]):AS X A t I ⟨mE A.sm e,A7 A.th t (tE A.sm (A.th t) e)⟩
def nT (x:Cx) (M:Nat) (lt:LT) (g:Gt):Prop:=∃j lt',Gj x.Ac x.Ab j lt lt'/\L0 x g lt'/\j+Se x g<=M
inductive aU (x:Cx) (n:Nat) (A:AM) (g:Gt) (t:Nat):Bool->AM->Gt->Prop
 |Ck {a:Nat} {u:Int} {r:List (Nat×Int)} (h:(A.th t).sw=(a,u)::r):aU x n A g t V ⟨CA A.sm a u,A7 A.th t {A.th t with sw:=r}⟩ g
 |SH {lt':LT} (hm:∀m,nT x m (A.th t).lt g->∃m',m=m'+1/\nT x m' lt' g):aU x n A g t I ⟨A.sm,A7 A.th t {A.th t with lt:=lt'}⟩ g
 |stop {s:Int} (he:PN g=U (.stop s)) (h0:(A.th t).st=0):aU x n A g t I ⟨A.sm,A7 A.th t (tE A.sm (A.th t) (.stop s))⟩ g
 |ev {e:Ek} {bad:Bool} {g':Gt} (he:PN g=U e) (h0:(A.th t).st=0) (hs:∀s,e≠ .stop s) (hd:e.AgD=V->(A.th t).sw=[]) (hn:Nx n g (vE A.sm (A.th t).sw e) bad g') {j:Nat} {lt':LT} (hr:Gj x.Ac x.Ab j (tE A.sm (A.th t) e).lt lt') (ha:L0 x g' lt') (hp:if bad then j+Se x g'<=C9 g.q0+40 else j+1+Se x g'<=Se x g):aU x n A g t I ⟨mE A.sm e,A7 A.th t (tE A.sm (A.th t) e)⟩ g'
def AgZ (A:AM) (t:Nat) (g:Gt):Prop:=∀e,PN g=U e->(∀s,e≠ .stop s)->(∃c lv,g.ph=.F2 c lv)\/(0<=vE A.sm (A.th t).sw e/\vE A.sm (A.th t).sw e<3000000000000000000)
structure VQ (x:Cx) (M:Nat) (g:Gt):Prop where
 q0:C9 g.q0<=M+27
 go:(∀c,g.ph≠ .ba c)->Se x g<=M
theorem tX (x:Cx) (q:KS):C9 q<=Se x (DN q)+27/\(DN q).q0=q:=by
 have:=Zg q;unfold DN;split
 .exact⟨by show C9 q<=C9 q-27+27;omega,rfl⟩
 .refine⟨?_,rfl⟩;show C9 q<=C9 q-NB q.s+27;have:NB q.s<=27:=by cases q.s<;>simp[NB]
  omega
theorem Lp.q0 (h:Lp g i g'):g'.q0=g.q0\/∃q',g'=DN q':=by
 cases h<;>grind
theorem My.q0 (h:My n g c g'):g'.q0=g.q0\/∃q',g'=DN q':=by
 cases h with
 |fr _ _ _ _ _=>grind
 |stop g' _ k=>exact k.q0
theorem Uv.q0 (h:Uv n g c g'):g'.q0=g.q0\/∃q',g'=DN q':=by
 cases h with
 |pu _ _ _ _ _=>grind
 |stop g' _ k=>exact k.q0
theorem RU.q0 (h:RU n g c g'):g'.q0=g.q0\/∃q',g'=DN q':=by
 cases h with
 |lo _ _ _ _ _=>grind
 |stop g' _ k=>exact k.q0
theorem Ty.q0 (h:Ty n g c g'):g'.q0=g.q0:=by cases h<;>rfl
theorem Fk.q0 (h:Fk n g c g'):g'.q0=g.q0:=by cases h<;>rfl
theorem sV.q0 (h:sV n b g g'):g'.q0=g.q0\/∃q',g'=DN q':=by
 cases h with
 |CS _ _ _=>exact .inl rfl
 |get _ _ _=>exact .inl rfl
 |Wm q' g' _ _ _ h=>exact .inl h.q0
 |GR q' g' _ _ _ h=>exact h.q0
theorem Nx.q0 (h:Nx n g v bad g'):g'.q0=g.q0\/∃q',g'=DN q':=by
 cases h with
 |out _ q' _=>grind
 |Po _ _ g' r=>exact r.q0
 |M0 _ _=>grind
 |uR _ _ g' r=>exact .inl r.q0
 |F2 _=>grind
 |Gw _ _ _ g' r=>exact r.q0
 |uQ _ _ g' r=>exact .inl r.q0
 |ZE _ _=>grind
 |Afi _ _ g' r=>exact .inl r.q0
 |XG _ _ g' r=>exact .inl r.q0
 |Afh _ _ g' r=>exact .inl r.q0
 |xa _ g' r=>exact r.q0
 |lo _ _ g' r=>exact r.q0
 |lob _ _ g' r=>exact .inl r.q0
 |pu _ g' r=>exact r.q0
 |fr _ g' r=>exact r.q0
 |te _ g' r=>exact r.q0
 |ba _ g' r=>exact .inl r.q0
theorem wT (h:Fk n g c g') (M:Nat) (hq:C9 g.q0<=M+27):(∀c,g'.ph≠ .ba c)->Se x g'<=M:=by
 intro hb;cases h with
 |ba c' _ _ _ _=>grind
 |Po _=>show C9 g.q0-27<=M;omega
theorem Nx.GB (h:Nx n g v bad g') (hb:bad=V\/∃c,g.ph=.ba c):∃c,Fk n g c g':=by
 cases h<;>grind
theorem AhG (h:Nx n g v bad g') {M j:Nat} (hp:VQ x M g) (hj:if bad then j+Se x g'<=C9 g.q0+40 else j+1+Se x g'<=Se x g):VQ x M g':=by
 have uG:(∀c,g'.ph≠ .ba c)->Se x g'<=M:=by
  by_cases hb:bad=V\/∃c,g.ph=.ba c
  .obtain⟨c,r⟩:=h.GB hb;exact wT r M hp.q0
  grind [VQ]
 refine⟨?_,uG⟩;rcases h.q0 with e|⟨q',rfl⟩;grind [VQ];grind [tX x q',DN]
theorem Gj.WK {s t u:LT} (h:Gj Ac Ab n s t) (h1:ps1 Ac Ab s=U u) (h2:ps1 Ac Ab t=Z):∃m,n=m+1/\Gj Ac Ab m u t:=by
 cases h<;>grind
theorem Gj.stuck {s t:LT} (h:Gj Ac Ab n s t) (h1:ps1 Ac Ab s=Z):n=0/\t=s:=by
 cases h<;>grind
theorem Zf {s:LT} {i:GI} (h:Ab[s.pc]?=U i) (he:cj Ac i s.x=Z):ps1 Ac Ab s=Z:=by grind [ps1]
theorem Oj {t:Int} (h:Br q=U t):t=1\/t=2:=by
 grind [Br]
theorem fV {s:Int} (h:PN g=U (.stop s)):g.ph=.node/\s≠0/\((s=10/\g.q.s=.nil)\/Br g.q=U s):=by
 unfold PN at h;cases BM:g.ph with
 |node=>
  rw[BM] at h;replace h:(match g.q.s with|.nil=>U (.stop 10)|.out a _=>if g.q.k.C7 then Z else U (.out (DW g.q.L a))|_=>(Br g.q).map .stop)=U (Ek.stop s):=h;have key:(Br g.q).map Ek.stop=U (.stop s)->g.ph=.node/\s≠0/\((s=10/\g.q.s=.nil)\/Br g.q=U s):=λh=>by
   cases hk:Br g.q with
   |none=>rw[hk] at h;cases h
   |some u=>
    rw[hk] at h;cases h;exact⟨BM,by have:=Oj hk;omega,.inr rfl⟩
  rw[<-BM];cases hqs:g.q.s with
  |nil=>rw[hqs] at h;cases h;exact⟨rfl,Do,.inl ⟨rfl,rfl⟩⟩
  |out a r=>
   rw[hqs] at h;replace h:(if g.q.k.C7 then Z else U (.out (DW g.q.L a)))=U (Ek.stop s):=h;split at h<;>cases h
  |_=>rw[hqs] at h;have:=key h;rw[hqs] at this;exact⟨rfl,this.2⟩
 |pu c=>rw[BM] at h;replace h:(g.q.A5 c).map (Ek.st c ·)=U (.stop s):=h;cases hm:g.q.A5 c with|none=>rw[hm] at h;cases h|some u=>rw[hm] at h;cases h
 |te i=>rw[BM] at h;replace h:(g.q.o[i]?).map Ek.out=U (.stop s):=h;cases hm:g.q.o[i]? with|none=>rw[hm] at h;cases h|some u=>rw[hm] at h;cases h
 |ba c=>rw[BM] at h;replace h:(g.BE c).map (Ek.st (8+c) ·)=U (.stop s):=h;cases hm:g.BE c with|none=>rw[hm] at h;cases h|some u=>rw[hm] at h;cases h
 |_=>rw[BM] at h;cases h
theorem Aen {M:Nat} {t:Nat} (hx:OE (X t)) (hn:(X t).n=n) (ht:(A.th t).st=0->nT (X t) (M+67) (A.th t).lt g) (hp:VQ (X t) M g) (Ams:(A.th t).st=0->AgZ A t g) {fl:Bool} (h:AS X A t fl A'):
  ∃g',aU (X t) n A g t fl A' g'/\VQ (X t) M g'/\((A'.th t).st=0->nT (X t) (M+67) (A'.th t).lt g'):=by
 cases h with
 |Ck h=>exact⟨g,.Ck h,hp,λh0=>by grind [Au]⟩
 |SH h0 h=>
  obtain⟨j,lt',hr,ha,hle⟩:=ht h0;obtain⟨i,e,hi,hx1,_⟩:=iD hx ha;obtain⟨m,rfl,MJ⟩:=hr.WK h (Zf hi hx1);refine⟨g,.SH λm hm=>?_,hp,λ_=>by simp only[Au];exact⟨m,lt',MJ,ha,Y⟩⟩;obtain⟨j2,lt2,Lz,ha2,Aiu⟩:=hm;obtain⟨i2,e2,hi2,hx2,_⟩:=iD hx ha2;obtain⟨m2,rfl,Amy⟩:=Lz.WK h (Zf hi2 hx2);exact⟨m-1,Y,m2,lt2,Amy,ha2,Y⟩
 |ev h0 hc hx1 he hd=>
  rename_i i e;obtain⟨j,lt',hr,ha,hle⟩:=ht h0;obtain⟨rfl,rfl⟩:=hr.stuck (Zf hc hx1);obtain⟨i',e',eC,_,BG,hg⟩:=iD hx ha;rw[hc] at eC;cases eC;rw[he] at BG;cases BG;by_cases hs:∃s,e=.stop s
  .obtain⟨s,rfl⟩:=hs;refine⟨g,.stop hg h0,hp,λh1=>?_⟩;simp only[Au] at h1;exact Jk h1 (fV hg).2.1
  .have iV:∀s,e≠ .stop s:=AC;obtain⟨j,lt2,Lz,g',ha2,bad,rP,hpt⟩:=AdQ hx ha hg iV (Ams h0 e hg iV);rw[hn] at rP;rw[JU] at hpt;refine⟨g',.ev hg h0 iV hd rP Lz ha2 hpt,AhG rP hp hpt,λ_=>?_⟩;simp only[Au];refine⟨j,lt2,Lz,ha2,?_⟩<;>grind [VQ]
section
def Db (g:Gt):Bool:=match g.ph with
 |.ZE _=>V
 |.XG .. =>V
 |.xa=>V
 |.lo _=>V
 |_=>I
def B6 (g:Gt):Nat->Option Int:=if Db g then g.BE else D9
def EO (g:Gt) (d:Nat):Option (Nat×Int):=(g.q.A5 d).map λv=>(d,v)
def D1 (g:Gt) (d:Nat):Option (Nat×Int):=if (g.q.A5 d).isSome then U (8+d,2*g.wv) else Z
def Fc (g:Gt) (d:Nat):Option (Nat×Int):=(g.BE d).map λv=>(8+d,v)
def AL (n:Nat) (g:Gt):List (Nat×Int):=match g.ph with
 |.pu c=>KD (EO g) n c++KD (D1 g) n 0
 |.fr c=>KD (D1 g) n c
 |.ba c=>KD (Fc g) n c
 |_=>[]
theorem aJ (h:(g.q.A5 d).isSome=I):EO g d=Z:=by unfold EO;cases hm:g.q.A5 d<;>grind
theorem ZC (h:(g.q.A5 d).isSome=I):D1 g d=Z:=by grind [D1]
theorem Uq (h:(g.BE d).isSome=I):Fc g d=Z:=by unfold Fc;cases hm:g.BE d<;>grind
theorem EK (n:Nat) (q:KS):B6 (DN q)=D9/\AL n (DN q)=[]/\(DN q).rv=0/\(DN q).wv=0:=by
 have:DN q=⟨.Po,q,q,D9,D9,0,0⟩\/DN q=⟨.node,q,q,D9,D9,0,0⟩:=by
  grind [DN]
 rcases this with e|e<;>rw[e]<;>exact⟨rfl,rfl,rfl,rfl⟩
variable {n:Nat} {g g':Gt}
def ee (g g':Gt):Prop:=(g'.rv=g.rv\/g'.rv=0)/\(g'.wv=g.wv\/g'.wv=0)
theorem ee.refl:ee g g:=⟨AC,AC⟩
theorem Lp.UE (h:Lp g i g'):B6 g'=D9/\AL n g'=[]/\ee g g':=by
 cases h with
 |te _=>exact⟨rfl,rfl,ee.refl⟩
 |out q' _ _=>have:=EK n q';exact⟨this.1,AC,AC,AC⟩
theorem My.UE (h:My n g c g'):B6 g'=D9/\AL n g'=KD (D1 g) n c/\ee g g':=by
 cases h with
 |fr c' h1 h2 h3 h4=>exact⟨rfl,(Vn _ _ h1 λd eD kb _=>ZC AC).symm,ee.refl⟩
 |stop g' h k=>rw[Vo _ _ λd h1 h2=>ZC AC];exact k.UE
theorem Uv.UE (h:Uv n g c g'):B6 g'=D9/\AL n g'=KD (EO g) n c++KD (D1 g) n 0/\ee g g':=by
 cases h with
 |pu c' h1 h2 h3 h4=>exact⟨rfl,by rw[Vn (EO g) n h1 λd eD kb _=>aJ AC];rfl,ee.refl⟩
 |stop g' h k=>rw[Vo (EO g) _ λd h1 h2=>aJ AC];exact k.UE
theorem RU.UE (h:RU n g c g'):(B6 g'=g.BE/\AL n g'=[]/\ee g g')\/(B6 g'=D9/\AL n g'=KD (EO g) n 0++KD (D1 g) n 0/\ee g g'):=by
 cases h with
 |lo c' _ _ _ _=>exact .inl ⟨rfl,rfl,ee.refl⟩
 |stop g' _ k=>exact .inr k.UE
theorem Ty.UE (h:Ty n g c g'):B6 g'=g.BE/\AL n g'=[]/\ee g g':=by
 cases h<;>exact⟨rfl,rfl,ee.refl⟩
theorem Fk.UE (h:Fk n g c g'):B6 g'=D9/\AL n g'=KD (Fc g) n c/\ee g g':=by
 cases h with
 |ba c' h1 h2 h3 h4=>exact⟨rfl,(Vn _ _ h1 λd eD kb _=>Uq AC).symm,ee.refl⟩
 |Po h=>rw[Vo _ _ λd h1 h2=>Uq AC];exact⟨rfl,rfl,.inr rfl,.inr rfl⟩
theorem sV.UE (h:sV n b g g') (hl:g.BE=D9):B6 g'=D9/\AL n g'=[]/\ee g g':=by
 cases h with
 |CS _ _ _=>exact⟨rfl,rfl,ee.refl⟩
 |get _ _ _=>exact⟨rfl,rfl,ee.refl⟩
 |Wm q' g' _ _ _ h=>
  have:=h.UE;exact⟨this.1.trans hl,this.2.1,this.2.2⟩
 |GR q' g' _ _ _ h=>exact h.UE
structure L1 (X:Nat->Cx) (T n M:Nat) (K:Int) (A:AM) (G:Nat->Gt):Prop where
 th:∀t,t<T->(A.th t).st=0->nT (X t) (M+67) (A.th t).lt (G t)
 pt:∀t,t<T->VQ (X t) M (G t)
 c0:0<=A.sm 16/\A.sm 16<=K
 rv:∀t,t<T->(0<=(G t).rv/\(G t).rv<=A.sm 16)/\0<=(G t).wv/\(G t).wv<=A.sm 16
 lk:LK T n A.sm (A.sm 16) (λt=>B6 (G t)) λt=>(A.th t).sw++AL n (G t)
 DU:∀t,t<T->(A.th t).st≠0->(G t).ph=.node
theorem WT {lt:LT} (h:L0 x g lt):((g.ph=.xa\/∃c,g.ph=.lo c)->Ub g x.n x.n)/\(∀c lv,g.ph=.XG c lv->c<x.n/\opn g lv)/\(Db g=I->(∃c,g.ph=.pu c\/g.ph=.fr c\/g.ph=.ba c)\/(∃i,g.ph=.te i)\/g.BE=D9)/\
  (∀c,g.ph=.pu c->c<x.n/\(g.q.A5 c).isSome=V)/\(∀c,g.ph=.fr c->c<x.n/\(g.q.A5 c).isSome=V)/\(∀c,g.ph=.ba c->c<x.n/\(g.BE c).isSome=V):=by
 unfold L0 at h;unfold Db;cases BM:g.ph with
 |node=>rw[BM] at h;grind
 |Po=>rw[BM] at h;grind
 |M0 c=>rw[BM] at h;obtain⟨b,s,ab,p0,v,r,h,_⟩:=h;simp[h.BE]
 |F2 c lv=>rw[BM] at h;obtain⟨⟨b,s,ab,p0,v,r,h,_⟩,_⟩:=h;simp[h.BE]
 |Gw c lv y=>rw[BM] at h;obtain⟨⟨b,s,ab,p0,v,r,h,_⟩,_⟩:=h;simp[h.BE]
 |ZE c=>simp
 |XG c lv=>rw[BM] at h;simp;exact⟨h.1,h.2.2.2.1⟩
 |xa=>rw[BM] at h;grind
 |lo c=>rw[BM] at h;grind
 |pu c=>rw[BM] at h;grind
 |fr c=>rw[BM] at h;grind
 |te i=>simp
 |ba c=>rw[BM] at h;grind
theorem Oq (G:Nat->Gt) (t:Nat) (g':Gt):(λu=>B6 (A7 G t g' u))=A7 (λu=>B6 (G u)) t (B6 g'):=by
 funext u;unfold A7;split<;>rfl
theorem YI (A:AM) (G:Nat->Gt) (t:Nat) (a:AT) (g':Gt):(λu=>(A7 A.th t a u).sw++AL n (A7 G t g' u))=A7 (λu=>(A.th u).sw++AL n (G u)) t (a.sw++AL n g'):=by
 funext u;unfold A7;split<;>rfl
theorem Aeg (P:Int->Prop) (hv:P v) (h:∀u,(a,u)∈sw->P u):P (vw sw v a):=by
 induction sw generalizing v with
 |nil=>exact hv
 |cons p r ih=>
  refine ih ?_ λu hu=>h u (Id _ hu)<;>grind
theorem FM (h:∀u,(a,u)∉sw):vw sw v a=v:=by
 induction sw generalizing v with
 |nil=>rfl
 |cons p r ih=>
  have:¬p.1=a:=AC;show vw r (if p.1=a then p.2 else v) a=v;rw[In this];grind
theorem L1.see {M:Nat} (h:L1 X T n M K A G) (h6:n<=6) (hX:∀t,t<T->OE (X t)/\(X t).n=n) (hK:K<1000000000000000000) {t:Nat} (ht:t<T) (h0:(A.th t).st=0):AgZ A t (G t):=by
 obtain⟨j,lt',_,ha,_⟩:=h.th t ht h0;have bz:=h.c0;have uE:∀c,c<n->0<=vw (A.th t).sw (A.sm (8+c)) (8+c)/\vw (A.th t).sw (A.sm (8+c)) (8+c)<3000000000000000000:=λc hc=>by
  refine Aeg (λv=>0<=v/\v<3000000000000000000) ?_ λu hu=>?_
  grind [h.lk.val]
  .rcases h.lk.todo t _ u ht (IR _ hu) with h1|⟨c',h1,h2,⟨w,h3,h4,h5⟩,_⟩<;>grind
 have Am5:0<=vw (A.th t).sw (A.sm 16) 16/\vw (A.th t).sw (A.sm 16) 16<3000000000000000000:=by
  rw[FM]
  .omega
  .intro u hu;rcases h.lk.todo t _ u ht (IR _ hu) with h1|⟨c',h1,h2,_⟩<;>omega
 have hn:=(hX t ht).2;intro e he hs;unfold L0 at ha;unfold PN at he;cases BM:(G t).ph with
 |node=>
  grind [vE,Br]
 |Po=>rw[BM] at he;cases he;exact .inr Am5
 |M0 c=>rw[BM] at he ha;cases he;obtain⟨b,s,ab,p0,v,r,hg,_⟩:=ha;exact .inr (uE c (by rw[<-hn];exact hg.MP.lt))
 |F2 c lv=>grind
 |Gw c lv y=>rw[BM] at he ha;cases he;obtain⟨⟨b,s,ab,p0,v,r,hg,_⟩,_⟩:=ha;exact .inr (uE c (by rw[<-hn];exact hg.MP.lt))
 |ZE c=>rw[BM] at he ha;cases he;exact .inr (uE c (by rw[<-hn];exact ha.1))
 |XG c lv=>rw[BM] at he;cases he;right;show 0<=(if _ then (1:Int) else 0)/\(if _ then (1:Int) else 0)<_;split<;>decide
 |xa=>rw[BM] at he;cases he;right;show 0<=A.sm 16/\A.sm 16<_;omega
 |lo c=>rw[BM] at he ha;cases he;exact .inr (uE c (by rw[<-hn];exact ha.1))
 |pu c=>rw[BM] at he;replace he:((G t).q.A5 c).map (Ek.st c ·)=U e:=he;right;cases hm:(G t).q.A5 c with|none=>rw[hm] at he;cases he|some u=>rw[hm] at he;cases he;exact⟨QL _,by show(0:Int)<_;decide⟩
 |fr c=>rw[BM] at he;cases he;right;exact⟨QL _,by show(0:Int)<_;decide⟩
 |te i=>rw[BM] at he;replace he:((G t).q.o[i]?).map Ek.out=U e:=he;right;cases hm:(G t).q.o[i]? with|none=>rw[hm] at he;cases he|some u=>rw[hm] at he;cases he;exact⟨QL _,by show(0:Int)<_;decide⟩
 |ba c=>rw[BM] at he;replace he:((G t).BE c).map (Ek.st (8+c) ·)=U e:=he;right;cases hm:(G t).BE c with|none=>rw[hm] at he;cases he|some u=>rw[hm] at he;cases he;exact⟨QL _,by show(0:Int)<_;decide⟩
theorem ee.ok {N N':Int} (h:ee g g') (hN:N<=N') (hr:(0<=g.rv/\g.rv<=N)/\0<=g.wv/\g.wv<=N):(0<=g'.rv/\g'.rv<=N')/\0<=g'.wv/\g'.wv<=N':=by
 obtain⟨h1,h2⟩:=h;rcases h1 with h1|h1<;>rcases h2 with h2|h2<;>rw[h1,h2]<;>omega
section
variable {T:Nat} {sm:Nat->Int} {N:Int} {H:Nat->Nat->Option Int} {Z95:Nat->List (Nat×Int)} (h6:n<=6) {t:Nat} (ht:t<T)
include h6 ht
theorem Afg (h:LK T n sm N H Z95) {c:Nat} (hH:H t=g.BE) (hr:Fk n g 0 g'):LK T n sm N (A7 H t (B6 g')) (A7 Z95 t (Z95 t++AL n g')):=by
 obtain⟨e1,e2,_⟩:=hr.UE;have _:=c;rw[e1,e2];refine h.decide h6 ht (λa v hv=>?_) (dT (λd p hp=>?_) n 0) λc hc hs=>?_
 .obtain⟨d,_,hd,hf⟩:=CY.1 hv;unfold Fc at hf;cases hl:g.BE d with
  |none=>rw[hl] at hf;cases hf
  |some w=>
   rw[hl] at hf;cases hf;have eE:H t d=U v:=by rw[hH];exact hl
   exact .inr ⟨d,hd,rfl,by rw[eE];rfl,(h.B6 t d v ht hd eE).2.1⟩
 .unfold Fc at hp;cases hl:g.BE d<;>grind
 .rw[hH] at hs;obtain⟨v,hv⟩:=JE.1 hs;exact⟨v,CY.2 ⟨c,AC,hc,by grind [Fc]⟩⟩
theorem Ah0 (h:LK T n sm N H Z95) (hH:H t=g.BE) (hl:Ub g n n) (hw:0<=g.wv/\g.wv<=N):LK T n sm N (A7 H t D9) (A7 Z95 t (Z95 t++(KD (EO g) n 0++KD (D1 g) n 0))):=by
 have AgS:∀d,d<n->(g.BE d).isSome=(g.q.A5 d).isSome:=λd hd=>by rw[hl d hd,JC hd];rfl
 refine h.decide h6 ht (λa v hv=>?_) ?_ λc hc hs=>?_
 .rcases Jq.1 hv with hv|hv
  .obtain⟨d,_,hd,hf⟩:=CY.1 hv;exact naA
  .obtain⟨d,_,hd,hf⟩:=CY.1 hv;unfold D1 at hf;split at hf
   .rename_i hs;cases hf;exact .inr ⟨d,hd,rfl,by rw[hH,AgS d hd];exact hs,g.wv,rfl,hw⟩
   .cases hf
 .rw[QV];refine⟨?_,dT (λd p hp=>by grind [D1]) n 0,λp hp q _ h8 _=>?_⟩
  .refine List.Pairwise.imp_of_mem (λ{p q} hp _ _ h8=>?_) (List.pairwise_of_forall (R:=λ_ _=>True) AC);obtain⟨d,_,hd,hf⟩:=CY.1 hp;exact naA
  .obtain⟨d,_,hd,hf⟩:=CY.1 hp;exact naA
 .rw[hH,AgS c hc] at hs;exact⟨2*g.wv,Jc _ (CY.2 ⟨c,AC,hc,by unfold D1;rw[Jd hs]⟩)⟩
end
theorem AfV {e:Ek} (h:g.ph=.node) (he:PN g=U e):(∃u,e=.out u)\/∃s,e=.stop s:=by
 grind [PN,Br]
theorem DD (h:Db g=I):B6 g=D9:=by grind [B6]
theorem KE (h:Db g=V):B6 g=g.BE:=by grind [B6]
structure XD (n T:Nat) (A:AM) (G:Nat->Gt) (t:Nat) (e:Ek) (g':Gt):Prop where
 Po:A.sm 16<=mE A.sm e 16/\mE A.sm e 16<=A.sm 16+1
 rv:(0<=g'.rv/\g'.rv<=mE A.sm e 16)/\0<=g'.wv/\g'.wv<=mE A.sm e 16
 lk:LK T n (mE A.sm e) (mE A.sm e 16) (A7 (λu=>B6 (G u)) t (B6 g')) (A7 (λu=>(A.th u).sw++AL n (G u)) t ((tE A.sm (A.th t) e).sw++AL n g'))
section
variable {T:Nat} {A:AM} {G:Nat->Gt} {t:Nat} (h6:n<=6) (ht:t<T) (hl:LK T n A.sm (A.sm 16) (λu=>B6 (G u)) λu=>(A.th u).sw++AL n (G u))
 (hrw:(0<=(G t).rv/\(G t).rv<=A.sm 16)/\0<=(G t).wv/\(G t).wv<=A.sm 16) {e:Ek}
include hl
theorem XD.same (h1:mE A.sm e=A.sm) (h2:(tE A.sm (A.th t) e).sw++AL n g'=(A.th t).sw++AL n (G t)) (h3:B6 g'=B6 (G t)) (h4:(0<=g'.rv/\g'.rv<=A.sm 16)/\0<=g'.wv/\g'.wv<=A.sm 16):XD n T A G t e g':=by
 refine⟨by rw[h1];omega,by rw[h1];exact h4,?_⟩;rw[h1,h2,h3,show A7 (λu=>B6 (G u)) t (B6 (G t))=λu=>B6 (G u) from Dn _ t,show A7 (λu=>(A.th u).sw++AL n (G u)) t ((A.th t).sw++AL n (G t))=λu=>(A.th u).sw++AL n (G u) from Dn (λu=>(A.th u).sw++AL n (G u)) t];exact hl
include h6 ht hrw
theorem XD.GB (h1:mE A.sm e=A.sm) (h2:(tE A.sm (A.th t) e).sw=(A.th t).sw) (h3:AL n (G t)=[]) (h4:Db (G t)=V\/(G t).BE=D9) (hr:Fk n (G t) 0 g'):XD n T A G t e g':=by
 by_cases hu:Db (G t)=V
 .refine⟨by rw[h1];omega,by rw[h1];exact hr.UE.2.2.ok AC hrw,?_⟩;have:=Afg h6 ht hl (c:=0) (KE hu) hr;rw[h1,h2];rw[show(A.th t).sw++AL n g'=(A.th t).sw++AL n (G t)++AL n g' by rw[h3,Jr]];exact this
 .have h5:=h4.resolve_left hu;have hi:=hr.UE;refine XD.same hl h1 ?_ ?_ (hi.2.2.ok (QL _) hrw)
  .rw[h2,h3,hi.2.1,Vo _ _ λd _ _=>Uq (by rw[h5];rfl)]
  .rw[hi.1,DD (by simpa using hu)]
theorem XD.x8 (bz:0<=A.sm 16) {c:Nat} {w:Int} (h1:mE A.sm e=A.sm\/mE A.sm e=CA A.sm 16 (A.sm 16+1)) (h2:(tE A.sm (A.th t) e).sw=(A.th t).sw) (h3:AL n (G t)=[]) (h4:Db (G t)=V) (h5:Ub (G t) n n) (hw:0<=w/\w<=mE A.sm e 16) (hr:RU n {(G t) with wv:=w} c g'):XD n T A G t e g':=by
 have hN:A.sm 16<=mE A.sm e 16/\mE A.sm e 16<=A.sm 16+1:=by
  rcases h1 with h1|h1<;>rw[h1]
  .omega
  .rw[BK];omega
 have hs:∀c,c<n->mE A.sm e (8+c)=A.sm (8+c):=λc hc=>by
  rcases h1 with h1|h1<;>rw[h1];grind [BA]
 have hb:=hl.ct hN.1 hs;have hH:=KE h4;have Akt:(0<=({(G t) with wv:=w}:Gt).rv/\({(G t) with wv:=w}:Gt).rv<=mE A.sm e 16)/\0<=({(G t) with wv:=w}:Gt).wv/\({(G t) with wv:=w}:Gt).wv<=mE A.sm e 16:=AC;rcases hr.UE with⟨e1,e2,e3⟩|⟨e1,e2,e3⟩
 .refine⟨hN,e3.ok (QL _) Akt,?_⟩<;>grind [Dn]
 .refine⟨hN,e3.ok AC Akt,?_⟩;have:=Ah0 (g:={(G t) with wv:=w}) h6 ht hb hH h5 hw;rw[h2,e1,e2];rw[show(A.th t).sw++(KD (EO {(G t) with wv:=w}) n 0++KD (D1 {(G t) with wv:=w}) n 0)=(A.th t).sw++AL n (G t)++(KD (EO {(G t) with wv:=w}) n 0++KD (D1 {(G t) with wv:=w}) n 0) by rw[h3,Jr]];exact this
end
theorem Aj6 {t:Nat} (h6:n<=6) (hxn:x.n=n) (ht:t<T) (hl:LK T n A.sm (A.sm 16) (λu=>B6 (G u)) λu=>(A.th u).sw++AL n (G u)) (bz:0<=A.sm 16)
  (hrw:(0<=(G t).rv/\(G t).rv<=A.sm 16)/\0<=(G t).wv/\(G t).wv<=A.sm 16) {lt:LT} (ha:L0 x (G t) lt) {e:Ek} {bad:Bool} (he:PN (G t)=U e) (hn:Nx n (G t) (vE A.sm (A.th t).sw e) bad g'):
  XD n T A G t e g':=by
 obtain⟨k1,k2,k3,k4,k5,k6⟩:=WT ha;rw[hxn] at k1 k2 k4 k5 k6;have BG:=he;unfold PN at BG;have hU:∀b,Db (G t)=b->Db (G t)=b:=AC;cases hn with
 |out h q' k=>
  have hi:=EK n q';have hb:mE A.sm e=A.sm/\(tE A.sm (A.th t) e).sw=(A.th t).sw:=by
   rcases AfV h he with⟨u,rfl⟩|⟨s,rfl⟩<;>exact⟨rfl,rfl⟩
  refine XD.same hl hb.1 ?_ ?_ ?_<;>grind [AL,DD,Db]
 |Po h h0 _ r=>
  rw[h] at BG;cases BG;obtain⟨i1,i2,i3⟩:=r.UE rfl;have hv:vE A.sm (A.th t).sw (.ld 1 16)=A.sm 16:=FM λu hu=>by
   exact naw
  refine XD.same hl rfl ?_ ?_ (i3.ok (QL _) AC)
  .rw[i2,show AL n (G t)=[] by unfold AL;rw[h]];rfl
  grind [DD,Db]
 |M0 h hv=>
  exact nap
 |uR h _ _ r=>
  exact naf
 |F2 h=>
  exact nap
 |Gw h hv h0 _ r=>
  rw[h] at BG;cases BG;obtain⟨i1,i2,i3⟩:=r.UE (by grind [Db]);refine XD.same hl rfl ?_ ?_ (i3.ok AC hrw)
  .rw[i2,show AL n (G t)=[] by unfold AL;rw[h]];rfl
  grind [DD,Db]
 |uQ h hv _ r=>
  exact naf
 |ZE h hv=>
  rw[h] at BG;cases BG;refine XD.same hl rfl ?_ ?_ hrw
  .rw[show AL n (G t)=[] by unfold AL;rw[h]];rfl
  grind [KE,Db]
 |Afi h _ _ r=>
  exact naf
 |XG h hv _ r=>
  rename_i c lv;rw[h] at BG;cases BG;obtain⟨hc,w,Fi,No,Ln⟩:=k2 c lv h;have Xu:(if A.sm (8+c)=lv then (1:Int) else 0)≠0:=hv;have Wu:A.sm (8+c)=lv:=by
   grind
  have hm:mE A.sm (.La 3 (8+c) lv (lv+1))=CA A.sm (8+c) (lv+1):=by show(if _ then _ else _)=_;rw[Jd Wu]
  have bZ:CA A.sm (8+c) (lv+1) 16=A.sm 16:=BA _ _ Y;obtain⟨i1,i2,i3⟩:=r.UE;refine⟨by rw[hm,bZ];omega,by rw[hm,bZ];exact i3.ok AC hrw,?_⟩;have:=hl.Wm h6 ht hc Wu ⟨w,Fi,No,Y⟩;rw[hm,bZ,i1,i2,<-show AL n (G t)=[] by unfold AL;rw[h]];rw[show A7 (λu=>(A.th u).sw++AL n (G u)) t ((tE A.sm (A.th t) (.La 3 (8+c) lv (lv+1))).sw++AL n (G t))=λu=>(A.th u).sw++AL n (G u) from Dn (λu=>(A.th u).sw++AL n (G u)) t];have e:B6 (G t)=(G t).BE:=KE (by unfold Db;rw[h]);grind
 |Afh h hv _ r=>
  rename_i c lv;rw[h] at BG;cases BG;have Xu:(if A.sm (8+c)=lv then (1:Int) else 0)=0:=hv;have Wu:¬A.sm (8+c)=lv:=AC;exact XD.GB h6 ht hl hrw (by show(if _ then _ else _)=_;rw[In Wu]) rfl (by unfold AL;rw[h]) AC r
 |xa h _ r=>
  rw[h] at BG;cases BG;refine XD.x8 h6 ht hl hrw bz (.inr rfl) rfl (by unfold AL;rw[h]) (by unfold Db;rw[h]) AC ?_ r;show 0<=A.sm 16+1/\A.sm 16+1<=CA A.sm 16 (A.sm 16+1) 16;rw[BK];omega
 |lo h hv _ r=>
  rw[h] at BG;cases BG;exact XD.x8 (w:=(G t).wv) h6 ht hl hrw bz (.inl rfl) rfl (by unfold AL;rw[h]) (by unfold Db;rw[h]) AC hrw.2 r
 |lob h _ _ r=>
  exact naf
 |pu h _ r=>
  rename_i c;rw[h] at BG;replace BG:((G t).q.A5 c).map (Ek.st c ·)=U e:=BG;obtain⟨hc,hm⟩:=k4 c h;obtain⟨u,hu⟩:=JE.1 hm;rw[hu] at BG;cases BG;obtain⟨i1,i2,i3⟩:=r.UE;refine XD.same hl rfl ?_ ?_ (i3.ok AC hrw)
  .rw[i2,show AL n (G t)=KD (EO (G t)) n c++KD (D1 (G t)) n 0 by unfold AL;rw[h],GX (EO (G t)) hc,show EO (G t) c=U (c,u) by grind [EO]];show((A.th t).sw++[(c,u)])++_=_;simp
  grind [DD,Db]
 |fr h _ r=>
  rename_i c;rw[h] at BG;cases BG;obtain⟨hc,hm⟩:=k5 c h;obtain⟨i1,i2,i3⟩:=r.UE;refine XD.same hl rfl ?_ ?_ (i3.ok AC hrw)
  .rw[i2,show AL n (G t)=KD (D1 (G t)) n c by unfold AL;rw[h],GX (D1 (G t)) hc,show D1 (G t) c=U (8+c,2*(G t).wv) by unfold D1;rw[Jd hm]];show((A.th t).sw++[(8+c,2*(G t).wv)])++_=_;simp
  grind [DD,Db]
 |te h _ r=>
  rename_i i;rw[h] at BG;replace BG:((G t).q.o[i]?).map Ek.out=U e:=BG;obtain⟨i1,i2,i3⟩:=r.UE (n:=n);have hb:mE A.sm e=A.sm/\(tE A.sm (A.th t) e).sw=(A.th t).sw:=by
   cases ho:(G t).q.o[i]? with
   |none=>rw[ho] at BG;cases BG
   |some u=>rw[ho] at BG;cases BG;exact⟨rfl,rfl⟩
  grind [XD.same,i3.ok (Int.le_refl _) hrw,AL,DD,Db]
 |ba h _ r=>
  rename_i c;rw[h] at BG;replace BG:((G t).BE c).map (Ek.st (8+c) ·)=U e:=BG;obtain⟨hc,hm⟩:=k6 c h;obtain⟨u,hu⟩:=JE.1 hm;rw[hu] at BG;cases BG;obtain⟨i1,i2,i3⟩:=r.UE;refine XD.same hl rfl ?_ ?_ (i3.ok AC hrw)
  .rw[i2,show AL n (G t)=KD (Fc (G t)) n c by unfold AL;rw[h],GX (Fc (G t)) hc,show Fc (G t) c=U (8+c,u) by grind [Fc]];show((A.th t).sw++[(8+c,u)])++_=_;simp
  grind [DD,Db]
theorem L1.step {M:Nat} (h:L1 X T n M K A G) (h6:n<=6) (hX:∀t,t<T->OE (X t)/\(X t).n=n) (hK:K<1000000000000000000) {t:Nat} (ht:t<T) {fl:Bool} (hs:AS X A t fl A'):
  ∃g',aU (X t) n A (G t) t fl A' g'/\L1 X T n M (K+1) A' (A7 G t g')/\(fl=V->A'.sm 16=A.sm 16):=by
 obtain⟨hx,hxn⟩:=hX t ht;obtain⟨g',hg,hp,Ex⟩:=Aen hx hxn (h.th t ht) (h.pt t ht) (λh0=>h.see h6 hX hK ht h0) hs;refine⟨g',hg,?_⟩;have Al4:∀u,u≠t->A'.th u=A.th u:=λu hu=>by cases hg<;>exact Ba _ _ hu
 have hTh:∀u,u<T->(A'.th u).st=0->nT (X u) (M+67) (A'.th u).lt (A7 G t g' u):=λu hu h0=>by
  grind [Au,Ba,L1]
 have hPt:∀u,u<T->VQ (X u) M (A7 G t g' u):=λu hu=>by
  grind [Au,Ba,L1]
 have bz:=h.c0;have ZT:A7 G t (G t)=G:=Dn G t;cases hg with
 |Ck rK=>
  rename_i a u r;rw[ZT] at hTh hPt⊢;have GY:=h.lk.Ck h6 ht (t:=t) (a:=a) (u:=u) (r:=r++AL n (G t)) AC;have bZ:CA A.sm a u 16=A.sm 16:=BA _ _ (by
    rcases h.lk.todo t a u ht AC with h1|⟨c,h1,h2,_⟩<;>omega)
  refine⟨⟨hTh,hPt,AC,λv hv=>by grind [L1],?_,λv hv h0=>?_⟩,AC⟩
  .show LK T n (CA A.sm a u) (CA A.sm a u 16) _ _;rw[bZ];have e:=YI (n:=n) A G t {A.th t with sw:=r} (G t);rw[ZT] at e;grind
  grind [Au,L1]
 |SH hm=>
  rename_i lt';rw[ZT] at hTh hPt⊢;grind [Au,L1]
 |stop he h0=>
  rename_i s;rw[ZT] at hTh hPt⊢;grind [tE,A7,fV he,L1]
 |ev he h0 hns hd hn hr_ ha_ hp_=>
  rename_i e bad j_ lt_;obtain⟨j,lt',_,ha,_⟩:=h.th t ht h0;have hl:=Aj6 h6 hxn ht h.lk bz.1 (h.rv t ht) ha he hn;have h1:=hl.Po;refine⟨⟨hTh,hPt,AC,λv hv=>?_,?_,λv hv h2=>?_⟩,AC⟩;grind [Au,Ba,L1,XD]
  .show LK T n (mE A.sm e) (mE A.sm e 16) _ (λv=>(A7 A.th t _ v).sw++_);rw[Oq,YI];exact hl.lk
  .by_cases hvt:v=t
   .subst hvt;have:(A7 A.th v (tE A.sm (A.th v) e) v).st≠0:=h2;rw[Au] at this;have e2:(tE A.sm (A.th v) e).st=(A.th v).st:=by
     cases e with
     |stop s=>grind
     |_=>rfl
    rw[e2] at this;grind
   grind [Ba,L1]
end
section
section
variable (PR PW:Nat->Prop)
def TS:Bj->Prop
 |.nil=>True
 |.set _ _ _ _ r=>TS r
 |.get _ f s _ r=>(0<=f/\∀c:Nat,f<=c->(c:Int)<f+s->PR c)/\TS r
 |.put f s _ _ r=>(0<=f/\∀c:Nat,f<=c->(c:Int)<f+s->PW c)/\TS r
 |.out _ r=>TS r
 |.atomic b r=>TS b/\TS r
 |.Ew _ b r=>TS b/\TS r
 |.loop _ b r=>TS b/\TS r
def TK:KK->Prop
 |.done=>True
 |.rest s k=>TS PR PW s/\TK k
 |.loop b s k=>TS PR PW b/\TS PR PW s/\TK k
 |.Ao b s k=>TS PR PW b/\TS PR PW s/\TK k
structure TQ (q:KS):Prop where
 s:TS PR PW q.s
 k:TK PR PW q.k
 m:∀c,(q.A5 c).isSome=V->PW c
structure TG (g:Gt):Prop where
 q0:TQ PR PW g.q0
 q:TQ PR PW g.q
 rd:∀c,(g.rd c).isSome=V->PR c
 BE:∀c,(g.BE c).isSome=V->PW c
end
variable {PR PW:Nat->Prop}
variable {n:Nat} {g g':Gt}
end
section
def ET (g:Gt):Bool:=match g.ph with
 |.M0 _=>V
 |.F2 .. =>V
 |.Gw .. =>V
 |.ZE _=>V
 |.XG .. =>V
 |.xa=>V
 |.lo _=>V
 |_=>I
def Amf (g:Gt):Option (Nat×Int):=match g.ph with
 |.F2 c lv=>U (c,lv)
 |.Gw c lv _=>U (c,lv)
 |.XG c lv=>U (c,lv)
 |_=>Z
variable {n:Nat} {g g':Gt}
theorem P7 (q:KS):ET (DN q)=I:=by
 have:DN q=⟨.Po,q,q,D9,D9,0,0⟩\/DN q=⟨.node,q,q,D9,D9,0,0⟩:=by
  unfold DN;split
  .exact .inl rfl
  .exact .inr rfl
 rcases this with e|e<;>rw[e]<;>rfl
theorem Lp.ET (h:Lp g i g'):ET g'=I:=by
 cases h with
 |te _=>rfl
 |out q' _ _=>exact P7 q'
theorem My.ET (h:My n g c g'):ET g'=I:=by
 cases h with
 |fr _ _ _ _ _=>rfl
 |stop g' _ k=>exact k.ET
theorem Uv.ET (h:Uv n g c g'):ET g'=I:=by
 cases h with
 |pu _ _ _ _ _=>rfl
 |stop g' _ k=>exact k.ET
theorem Fk.ET (h:Fk n g c g'):ET g'=I:=by cases h<;>rfl
structure Cl (n:Nat) (Tk:Nat->Prop) (sm:Nat->Int) (g:Gt):Prop where
 opn:ET g=V->∀c,c<n->Tk c->g.BE c=Z->∃w,sm (8+c)=2*w/\0<=w/\w<=g.rv
 AN:∀c lv,Amf g=U (c,lv)->sm (8+c)=lv
inductive kv (X:Nat->Cx) (k:Nat):AM->AM->Prop
 |nil (A:AM):kv X k A A
 |cons {A B C:AM} (h:AS X A k V B) (r:kv X k B C):kv X k A C
structure Sol (X:Nat->Cx) (T n M:Nat) (K:Int) (Tk:Nat->Prop) (A:AM) (G:Nat->Gt) (k:Nat):Prop where
 l1:L1 X T n M K A G
 tg:TG Tk Tk (G k)
 oth:∀u,u<T->u≠k->∀c,c<n->Tk c->B6 (G u) c=Z/\∀v,(8+c,v)∉(A.th u).sw++AL n (G u)
theorem L1.kA {M:Nat} {K':Int} (h:L1 X T n M K A G) (hk:A.sm 16<=K'):L1 X T n M K' A G:=⟨h.th,h.pt,⟨h.c0.1,hk⟩,h.rv,h.lk,h.DU⟩
theorem WU {k:Nat} {fl:Bool} (h:AS X A k fl A'):∀u,u≠k->A'.th u=A.th u:=λu hu=>by cases h<;>exact Ba _ _ hu
section
variable {X:Nat->Cx} {T M:Nat} {K:Int} {Tk:Nat->Prop} {k:Nat} (h6:n<=6) (hX:∀t,t<T->OE (X t)/\(X t).n=n) (hk:k<T)
include h6 hX hk
theorem kv.l1 (f:kv X k A A'):L1 X T n M K A G->K<1000000000000000000->L1 X T n M K A' G/\(A'.th k).lt=(A.th k).lt/\(A'.th k).st=(A.th k).st/\(A'.th k).out=(A.th k).out/\((A.th k).sw=[]->A'=A)/\∀u,u≠k->A'.th u=A.th u:=by
 induction f with
 |nil A=>intro h _;exact⟨h,rfl,rfl,rfl,λ_=>rfl,λ_ _=>rfl⟩
 |cons h r ih=>
  rename_i A B C;intro hs hK;obtain⟨g',hg,hl,bZ⟩:=hs.step h6 hX hK hk h;have ZV:=WU h;have Mm:g'=G k/\(B.th k).lt=(A.th k).lt/\(B.th k).st=(A.th k).st/\(B.th k).out=(A.th k).out/\(A.th k).sw≠[]:=by
   cases hg with
   |Ck rK=>refine⟨rfl,?_,?_,?_,by rw[rK];simp⟩<;>simp only[Au]
  rw[Mm.1,Dn] at hl;obtain⟨h2,h3,h4,h5,_,h7⟩:=ih (hl.kA (by rw[bZ rfl];exact hs.c0.2)) hK;exact⟨h2,h3.trans Mm.2.1,h4.trans Mm.2.2.1,h5.trans Mm.2.2.2.1,λhe=>Jk he Mm.2.2.2.2,λu hu=>(h7 u hu).trans (ZV u hu)⟩
end
end
namespace Am
def th (M:Am) (k:Nat):C2:=M.ts.getD k C2.new
def CR (M:Am) (k:Nat) (t:C2):Am:={M with ts:=M.ts.set k t}
def Ck (M:Am) (k:Nat):Am:=match (M.th k).waits with
 |[]=>M
 |p::r=>{mem:=M.mem.set p.1.toNat p.2,ts:=M.ts.set k {M.th k with waits:=r}}
def Mu:Nat->Am->Nat->Am
 |0,M,_=>M
 |n+1,M,k=>Mu n (M.Ck k) k
def Cp (M:Am) (k:Nat):Am:=Mu (M.th k).waits.length M k
def wv (l:List (Int×Int)) (v a:Int):Int:=l.foldl (λv p=>if p.1=a then p.2 else v) v
def SF (M:Am) (k:Nat) (a:Int):Int:=wv (M.th k).waits (M.mem.getD a.toNat 0) a
end Am
def C2.ev (t:C2) (a:Ag):Int:=if a.Dd then t.Dx.getD a.v.toNat 0 else a.v
def C2.DA (t:C2) (d v:Int):C2:={t with Dx:=t.Dx.set d.toNat v}
namespace Am
def Uo (M:Am) (k:Nat) (i:GI):Am:=
 let t:=M.th k
 match i with
 |.Zv d a=>M.CR k (t.DA d (t.ev a))
 |.op n d a b=>match BP n (t.ev a) (t.ev b) with
  |none=>M.CR k {t with An:=1}
  |some v=>M.CR k (t.DA d v)
 |.load d a j=>
  let p:=wrap64 (t.ev a+j)
  if p<0\/256<=p then M.CR k {t with An:=9} else M.CR k (t.DA d (M.SF k p))
 |.store a j b=>
  let p:=wrap64 (t.ev a+j)
  if p<0\/256<=p then M.CR k {t with An:=9} else
   let M:=if J t.waits=4 then M.Ck k else M
   M.CR k {M.th k with waits:=(M.th k).waits++[(p,t.ev b)]}
 |.La d a j b c=>
  let p:=wrap64 (t.ev a+j)
  let M:=M.Cp k
  if p<0\/256<=p then M.CR k {M.th k with An:=9} else
   if M.SF k p=t.ev b then {mem:=M.mem.set p.toNat (t.ev c),ts:=M.ts.set k ((M.th k).DA d 1)} else M.CR k ((M.th k).DA d 0)
 |.El d a j b=>
  let p:=wrap64 (t.ev a+j)
  let M:=M.Cp k
  if p<0\/256<=p then M.CR k {M.th k with An:=9} else {mem:=M.mem.set p.toNat (wrap64 (M.SF k p+t.ev b)),ts:=M.ts.set k ((M.th k).DA d (M.SF k p))}
 |.Mr=>M.Cp k
 |.out a=>M.CR k {t with out:=t.out++[t.ev a]}
 |.GN q=>M.CR k {t with pc:=q.toNat}
 |.jz a q=>if t.ev a=0 then M.CR k {t with pc:=q.toNat} else M
 |.CS s=>M.CR k {t with An:=s}
 |.halt=>M.CR k {t with An:=10}
def step (Ab:Nat->List GI) (M:Am) (k:Nat):Am:=
 if J M.ts<=k\/(M.th k).An≠0 then M else match (Ab k)[(M.th k).pc]? with
  |none=>M.CR k {M.th k with An:=10}
  |some i=>(M.CR k {M.th k with pc:=(M.th k).pc+1}).Uo k i
end Am
namespace Am
section
variable (M:Am) (k:Nat)
theorem Adq (d:Int) (a:Ag):M.Uo k (.Zv d a)=M.CR k ((M.th k).DA d ((M.th k).ev a)):=rfl
theorem uY (n:ByteArray) (d:Int) (a b:Ag):M.Uo k (.op n d a b)=match BP n ((M.th k).ev a) ((M.th k).ev b) with|none=>M.CR k {M.th k with An:=1}|some v=>M.CR k ((M.th k).DA d v):=rfl
theorem eQ (d:Int) (a:Ag) (j:Int):M.Uo k (.load d a j)=if wrap64 ((M.th k).ev a+j)<0\/256<=wrap64 ((M.th k).ev a+j) then M.CR k {M.th k with An:=9} else M.CR k ((M.th k).DA d (M.SF k (wrap64 ((M.th k).ev a+j)))):=rfl
theorem aA (a:Ag) (j:Int) (b:Ag):M.Uo k (.store a j b)=if wrap64 ((M.th k).ev a+j)<0\/256<=wrap64 ((M.th k).ev a+j) then M.CR k {M.th k with An:=9} else
  (if (M.th k).waits.length=4 then M.Ck k else M).CR k {(if (M.th k).waits.length=4 then M.Ck k else M).th k with waits:=((if (M.th k).waits.length=4 then M.Ck k else M).th k).waits++[(wrap64 ((M.th k).ev a+j),(M.th k).ev b)]}:=rfl
theorem ni (d:Int) (a:Ag) (j:Int) (b c:Ag):M.Uo k (.La d a j b c)=if wrap64 ((M.th k).ev a+j)<0\/256<=wrap64 ((M.th k).ev a+j) then (M.Cp k).CR k {(M.Cp k).th k with An:=9} else
  if (M.Cp k).SF k (wrap64 ((M.th k).ev a+j))=(M.th k).ev b then {mem:=(M.Cp k).mem.set (wrap64 ((M.th k).ev a+j)).toNat ((M.th k).ev c),ts:=(M.Cp k).ts.set k (((M.Cp k).th k).DA d 1)} else (M.Cp k).CR k (((M.Cp k).th k).DA d 0):=rfl
theorem eP (d:Int) (a:Ag) (j:Int) (b:Ag):M.Uo k (.El d a j b)=if wrap64 ((M.th k).ev a+j)<0\/256<=wrap64 ((M.th k).ev a+j) then (M.Cp k).CR k {(M.Cp k).th k with An:=9} else
  {mem:=(M.Cp k).mem.set (wrap64 ((M.th k).ev a+j)).toNat (wrap64 ((M.Cp k).SF k (wrap64 ((M.th k).ev a+j))+(M.th k).ev b)),ts:=(M.Cp k).ts.set k (((M.Cp k).th k).DA d ((M.Cp k).SF k (wrap64 ((M.th k).ev a+j))))}:=rfl
theorem Adp (a:Ag):M.Uo k (.out a)=M.CR k {M.th k with out:=(M.th k).out++[(M.th k).ev a]}:=rfl
theorem Adr (q:Int):M.Uo k (.GN q)=M.CR k {M.th k with pc:=q.toNat}:=rfl
theorem uZ (a:Ag) (q:Int):M.Uo k (.jz a q)=if (M.th k).ev a=0 then M.CR k {M.th k with pc:=q.toNat} else M:=rfl
theorem yZ (s:Int):M.Uo k (.CS s)=M.CR k {M.th k with An:=s}:=rfl
theorem y7:M.Uo k .halt=M.CR k {M.th k with An:=10}:=rfl
end
end Am
def shW (l:List (Int×Int)):List (Nat×Int):=l.filterMap λp=>if p.1<32 then U (p.1.toNat,p.2) else Z
structure W1 (Ac:Int) (rt:C2) (mem:List Int) (s:AT):Prop where
 pc:rt.pc=s.lt.pc
 rl:J rt.Dx=8
 Dx:∀r,r<8->rt.Dx.getD r 0=s.lt.x.R r
 SH:∀o:Nat,o<64->Am.wv rt.waits (mem.getD (Ac+o).toNat 0) (Ac+o)=s.lt.x.m.get o
 sw:s.sw=shW rt.waits
 wa:∀p,p∈rt.waits->0<=p.1/\(p.1<32\/(Ac<=p.1/\p.1<Ac+64))
 wl:J rt.waits<=4
 st:rt.An=s.st
 out:rt.out=s.out
structure XE (X:Nat->Cx) (T:Nat) (M:Am) (A:AM):Prop where
 ml:J M.mem=256
 tl:J M.ts=T
 sm:∀a,a<32->M.mem.getD a 0=A.sm a
 th:∀t,t<T->W1 (X t).Ac (M.th t) M.mem (A.th t)
theorem B4 {α:Type} (l:List α) (i j:Nat) (v d:α) (h:i<J l):(l.set i v).getD j d=if j=i then v else l.getD j d:=by
 rw[Ja,Qs];grind
theorem V6 {M:Am} {k t:Nat} {v:C2} (h:k<J M.ts):Am.th {mem:=mem,ts:=M.ts.set k v} t=if t=k then v else M.th t:=B4 _ _ _ _ _ h
theorem Aee {l:List (Int×Int)} (h:∀p,p∈l->0<=p.1) {a:Nat} (ha:a<32) (v:Int):Am.wv l v a=vw (shW l) v a:=by
 induction l generalizing v with
 |nil=>rfl
 |cons p r ih=>
  show Am.wv r (if p.1=(a:Int) then p.2 else v) a=_;rw[ih AC];have h0:=h p (Je ..);grind [shW,vw]
section
variable {X:Nat->Cx} {T:Nat} (hB:∀t,t<T->(X t).Ac=32+64*(t:Int)) (hT:T<=3)
include hB hT
theorem XE.Ck {M:Am} {k:Nat} (h:XE X T M A) (hk:k<T):∃A',kv X k A A'/\XE X T (M.Ck k) A'/\((M.Ck k).th k).waits=(M.th k).waits.tail/\(A'.th k).lt=(A.th k).lt/\(A'.th k).st=(A.th k).st/\(A'.th k).out=(A.th k).out/\A'.sm 16=(M.Ck k).mem.getD 16 0:=by
 have hb:=hB k hk;obtain⟨ml,tl,sm,Ex⟩:=h;unfold Am.Ck;cases hw:(M.th k).waits with
 |nil=>exact⟨A,.nil A,⟨ml,tl,sm,Ex⟩,by rw[hw];rfl,rfl,rfl,rfl,AC⟩
 |cons p r=>
  have Lo:k<J M.ts:=by rw[tl];exact hk
  have hK:=Ex k hk;obtain⟨gT,On⟩:=hK.wa p (by rw[hw];exact Je ..);have hpl:p.1.toNat<J M.mem:=by rw[ml];omega
  have NJ:∀t,t<T->∀o:Nat,o<64->t≠k->(M.mem.set p.1.toNat p.2).getD ((X t).Ac+o).toNat 0=M.mem.getD ((X t).Ac+o).toNat 0:=AC;have rO:∀t,t<T->t≠k->W1 (X t).Ac (M.th t) (M.mem.set p.1.toNat p.2) (A.th t):=λt ht hne=>by
   obtain⟨a1,a2,a3,a4,a5,a6,a7,a8,a9⟩:=Ex t ht;exact⟨a1,a2,a3,AC,a5,a6,a7,a8,a9⟩
  obtain⟨a1,a2,a3,a4,a5,a6,a7,a8,a9⟩:=hK;have Co:∀o:Nat,o<64->Am.wv r ((M.mem.set p.1.toNat p.2).getD ((X k).Ac+o).toNat 0) ((X k).Ac+o)=(A.th k).lt.x.m.get o:=λo ho=>by
   rw[<-a4 o ho,hw,B4 _ _ _ _ _ hpl];show _=Am.wv r (if p.1=(X k).Ac+o then p.2 else _) _;by_cases he:p.1=(X k).Ac+o<;>grind [W1]
  have hwl:J r<=4:=by rw[hw] at a7;grind
  have hwa:∀q,q∈r->0<=q.1/\(q.1<32\/((X k).Ac<=q.1/\q.1<(X k).Ac+64)):=AC;by_cases h32:p.1<32
  .have rK:(A.th k).sw=(p.1.toNat,p.2)::shW r:=by rw[a5,hw];unfold shW;rw[jP,Jd h32]
   refine⟨⟨CA A.sm p.1.toNat p.2,A7 A.th k {A.th k with sw:=shW r}⟩,.cons (.Ck rK) (.nil _),⟨by show(M.mem.set _ _).length=256;rw[Jp,ml],by show(M.ts.set _ _).length=T;rw[Jp,tl],λa ha=>?_,λt ht=>?_⟩,?_,?_,?_,?_,?_⟩;grind [CA,B4]
   .rw[V6 Lo];by_cases hne:t=k
    .subst hne;rw[Jd rfl];show W1 _ _ _ (A7 A.th t _ t);rw[Au];exact⟨a1,a2,a3,Co,rfl,hwa,hwl,a8,a9⟩
    grind [Ba]
   grind [V6];grind [Au];grind [Au];grind [Au];grind [CA,B4,sm 16 Do]
  .refine⟨A,.nil A,⟨by show(M.mem.set _ _).length=256;rw[Jp,ml],by show(M.ts.set _ _).length=T;rw[Jp,tl],λa ha=>?_,λt ht=>?_⟩,?_,rfl,rfl,rfl,?_⟩
   .show(M.mem.set p.1.toNat p.2).getD a 0=_;rw[B4 _ _ _ _ _ hpl,In Y];grind
   .rw[V6 Lo];by_cases hne:t=k
    .subst hne;rw[Jd rfl];exact⟨a1,a2,a3,Co,by rw[a5,hw];unfold shW;rw[jP,In h32],hwa,hwl,a8,a9⟩
    grind
   grind [V6]
   .show _=(M.mem.set p.1.toNat p.2).getD 16 0;rw[B4 _ _ _ _ _ hpl,In Y];grind
theorem kv.trans {k:Nat} {B C:AM} (h:kv X k A B) (r:kv X k B C):kv X k A C:=by
 have _:=hB;have _:=hT;induction h<;>grind [cons]
theorem XE.Mu {k:Nat} (hk:k<T):∀(n:Nat) {M:Am} {A:AM},XE X T M A->(M.th k).waits.length<=n->∃A',kv X k A A'/\XE X T (Am.Mu n M k) A'/\((Am.Mu n M k).th k).waits=[]/\(A'.th k).sw=[]/\(A'.th k).lt=(A.th k).lt/\(A'.th k).st=(A.th k).st/\(A'.th k).out=(A.th k).out:=by
 intro n;induction n with
 |zero=>
  intro M A h hl;have e:(M.th k).waits=[]:=AC;exact⟨A,.nil A,h,e,by rw[(h.th k hk).sw,e];rfl,rfl,rfl,rfl⟩
 |succ n ih=>
  intro M A h hl;obtain⟨A1,f1,h1,e1,e2,e3,e4,_⟩:=h.Ck hB hT hk;obtain⟨A2,f2,h2,e5,e6,e7,e8,e9⟩:=ih h1 (by rw[e1,QM];omega);exact⟨A2,kv.trans hB hT f1 f2,h2,e5,e6,AC,AC,AC⟩
theorem XE.Cp {M:Am} {k:Nat} (h:XE X T M A) (hk:k<T):∃A',kv X k A A'/\XE X T (M.Cp k) A'/\((M.Cp k).th k).waits=[]/\(A'.th k).sw=[]/\(A'.th k).lt=(A.th k).lt/\(A'.th k).st=(A.th k).st/\(A'.th k).out=(A.th k).out:=XE.Mu hB hT hk _ h AC
omit hB hT in
theorem Alg {s:AT} (h:W1 Ac rt mem s) {a:Ag} (ha:D7 a):rt.ev a=Ey s.lt.x.R a:=by
 grind [D7,C2.ev,Ey,OG,W1]
omit hB hT in
theorem Wa {s:AT} (h:W1 Ac rt mem s) {d:Int} (hd:OG d) (v:Int):(rt.DA d v).Dx.length=8/\∀r,r<8->(rt.DA d v).Dx.getD r 0=CA s.lt.x.R d.toNat v r:=by
 unfold OG at hd;refine⟨by show(rt.Dx.set _ _).length=8;rw[Jp];exact h.rl,λr hr=>?_⟩;show(rt.Dx.set d.toNat v).getD r 0=_;rw[B4 _ _ _ _ _ (by rw[h.rl];omega)];unfold CA;split<;>grind [W1]
theorem XE.set {M:Am} {k:Nat} (h:XE X T M A) (hk:k<T) {rt:C2} {s:AT} (hs:W1 (X k).Ac rt M.mem s):XE X T (M.CR k rt) ⟨A.sm,A7 A.th k s⟩:=by
 have _:=hB;have _:=hT;have Lo:k<J M.ts:=by rw[h.tl];exact hk
 refine⟨h.ml,by show(M.ts.set _ _).length=T;rw[Jp,h.tl],h.sm,λt ht=>?_⟩;show W1 _ ((M.ts.set k rt).getD t C2.new) M.mem (A7 A.th k s t);rw[B4 _ _ _ _ _ Lo];unfold A7;by_cases hne:t=k;grind
 .rw[In hne,In hne];exact h.th t ht
omit hT in
theorem XE.put {M:Am} {k:Nat} (h:XE X T M A) (hk:k<T) {a:Nat} (ha:a<32) {v:Int} {rt:C2} {s:AT} (hs:∀mem,(∀o:Nat,o<64->mem.getD ((X k).Ac+o).toNat 0=M.mem.getD ((X k).Ac+o).toNat 0)->W1 (X k).Ac rt mem s):
  XE X T {mem:=M.mem.set a v,ts:=M.ts.set k rt} ⟨CA A.sm a v,A7 A.th k s⟩:=by
 have Lo:k<J M.ts:=by rw[h.tl];exact hk
 have hal:a<J M.mem:=by rw[h.ml];omega
 have NJ:∀t,t<T->∀o:Nat,o<64->(M.mem.set a v).getD ((X t).Ac+o).toNat 0=M.mem.getD ((X t).Ac+o).toNat 0:=AC;refine⟨by show(M.mem.set _ _).length=256;rw[Jp,h.ml],by show(M.ts.set _ _).length=T;rw[Jp,h.tl],λb hb=>?_,λt ht=>?_⟩;grind [CA,B4,h.sm b hb]
 .show W1 _ ((M.ts.set k rt).getD t C2.new) (M.mem.set a v) (A7 A.th k s t);rw[B4 _ _ _ _ _ Lo];unfold A7;by_cases hne:t=k;grind
  .rw[In hne,In hne];obtain⟨a1,a2,a3,a4,a5,a6,a7,a8,a9⟩:=h.th t ht;exact⟨a1,a2,a3,λo ho=>by rw[NJ t ht o ho];exact a4 o ho,a5,a6,a7,a8,a9⟩
def AlV (x:Cx) (lt:LT) (i:GI):Prop:=(∃r,cj x.Ac i lt.x=U r)\/(cj x.Ac i lt.x=Z/\∃e,evk i lt.x=U e)
def Am.CU (M:Am) (k q:Nat):Am:=M.CR k {M.th k with pc:=q}
omit hB hT in
theorem set_set {M:Am} {k:Nat} {a b:C2}:(M.CR k a).CR k b=M.CR k b:=by unfold Am.CR;simp
omit hB hT in
theorem NW {M:Am} {k:Nat} {v:C2} (h:k<J M.ts):(M.CR k v).th k=v:=by
 show(M.ts.set k v).getD k C2.new=v;rw[B4 _ _ _ _ _ h,Jd rfl]
omit hB hT in
theorem eL (M:Am) (k:Nat):(M.Ck k).ts.length=J M.ts:=by
 grind [Am.Ck]
omit hB hT in
theorem mW {M:Am} {k q:Nat} (h:k<J M.ts):(M.CU k q).Ck k=(M.Ck k).CU k q:=by
 have e:(M.CU k q).th k={M.th k with pc:=q}:=NW h;unfold Am.Ck;rw[e];show(match (M.th k).waits with|[]=>M.CU k q|p::r=>_)=_;cases hw:(M.th k).waits with
 |nil=>rfl
 |cons p r=>
  show Am.mk _ _=Am.CU _ _ _;unfold Am.CU;rw[V6 h,Jd rfl];unfold Am.CR;simp
omit hB hT in
theorem nr {M:Am} {k q:Nat} (h:k<J M.ts):(M.CU k q).Cp k=(M.Cp k).CU k q:=by
 have key:∀(n:Nat) (M:Am),k<J M.ts->Am.Mu n (M.CU k q) k=(Am.Mu n M k).CU k q:=by
  intro n;induction n<;>grind [Am.Mu,mW,eL]
 unfold Am.Cp;rw[show(M.CU k q).th k={M.th k with pc:=q} from NW h];grind
omit hB hT in
theorem fJ (l:List (Int×Int)) (p:Int×Int) (v a:Int):Am.wv (l++[p]) v a=if p.1=a then p.2 else Am.wv l v a:=by grind [Am.wv]
omit hB hT in
theorem kU (l:List (Int×Int)) (p:Int×Int):shW (l++[p])=shW l++if p.1<32 then [(p.1.toNat,p.2)] else []:=by
 unfold shW;rw[List.filterMap_append];congr 1;rw[jP];split<;>rename_i h<;>split at h<;>simp_all
omit hB hT in
theorem dF {a:Int} {o:Nat} (h:Pv Ac a=U o):a=Ac+o/\o<64:=by
 grind [Pv]
omit hB hT in
theorem UT {a:Int} (h:bh a=U n):a=n/\n<32:=by
 grind [bh]
theorem AaU {Ab:Nat->List GI} {M:Am} {k:Nat} (h:XE X T M A) (hk:k<T) (eF:Ab k=(X k).Ab) (Ay:(A.th k).st=0) {i:GI} (hi:(X k).Ab[(A.th k).lt.pc]?=U i) (ho:SK 4000 i) (hf:AlV (X k) (A.th k).lt i) (yu:∀A0 d a j,kv X k A A0->evk i (A.th k).lt.x=U (.El d a j)->wrap64 (A0.sm a+j)=A0.sm a+j):
  ∃A0 A1,kv X k A A0/\AS X A0 k I A1/\XE X T (M.step Ab k) A1:=by
 have hb:=hB k hk;have Lo:k<J M.ts:=by rw[h.tl];exact hk
 have hK:=h.th k hk;have e0:M.step Ab k=(M.CU k ((M.th k).pc+1)).Uo k i:=by
  unfold Am.step;rw[In (by rw[hK.st,h.tl];omega),eF,hK.pc,hi];rfl
 rw[e0];have Ex:(M.CU k ((M.th k).pc+1)).th k={M.th k with pc:=(M.th k).pc+1}:=NW Lo;have LV:∀{a:Ag},D7 a->({M.th k with pc:=(M.th k).pc+1}:C2).ev a=Ey (A.th k).lt.x.R a:=λha=>Alg hK ha
 have Dd:∀{d v:Int},OG d->W1 (X k).Ac (({M.th k with pc:=(M.th k).pc+1}:C2).DA d v) M.mem {A.th k with lt:=⟨(A.th k).lt.pc+1,⟨CA (A.th k).lt.x.R d.toNat v,(A.th k).lt.x.m⟩⟩}:=λ{d v} hd=>by
  obtain⟨r1,r2⟩:=Wa hK hd v;obtain⟨a1,a2,a3,a4,a5,a6,a7,a8,a9⟩:=hK;exact⟨by show(M.th k).pc+1=_;rw[a1],r1,r2,a4,a5,a6,a7,a8,a9⟩
 have regA:∀{d v:Int},OG d->XE X T ((M.CU k ((M.th k).pc+1)).CR k (({M.th k with pc:=(M.th k).pc+1}:C2).DA d v)) ⟨A.sm,A7 A.th k {A.th k with lt:=⟨(A.th k).lt.pc+1,⟨CA (A.th k).lt.x.R d.toNat v,(A.th k).lt.x.m⟩⟩}⟩:=λhd=>by
  unfold Am.CU;rw[set_set];exact h.set hB hT hk (Dd hd)
 have SH:∀{r:XS×Option Nat},cj (X k).Ac i (A.th k).lt.x=U r->AS X A k I ⟨A.sm,A7 A.th k {A.th k with lt:=⟨r.2.getD ((A.th k).lt.pc+1),r.1⟩}⟩:=λ{r} hr=> .SH Ay (by unfold ps1;rw[hi];show(cj _ i _).map _=_;rw[hr];rfl)
 cases i with
 |Zv d a=>
  refine⟨A,_,.nil A,SH rfl,?_⟩;rw[Am.Adq,Ex,LV ho.2];exact regA ho.1
 |op n d a b=>
  obtain⟨Vy,XK,ho3,ho4⟩:=ho;rw[Am.uY,Ex,LV ho3,LV ho4];cases hm:BP n (Ey (A.th k).lt.x.R a) (Ey (A.th k).lt.x.R b) with
  |none=>
   have hx:cj (X k).Ac (.op n d a b) (A.th k).lt.x=Z:=by show(BP _ _ _).map _=Z;rw[hm];rfl
   refine⟨A,_,.nil A,.ev Ay hi hx rfl (λh=>by cases h),?_⟩;unfold Am.CU;rw[set_set];refine h.set hB hT hk ?_;obtain⟨a1,a2,a3,a4,a5,a6,a7,a8,a9⟩:=hK;exact⟨by show(M.th k).pc+1=(A.th k).lt.pc+1;rw[a1],a2,a3,a4,a5,a6,a7,rfl,a9⟩
  |some v=>exact⟨A,_,.nil A,SH (by show(BP _ _ _).map _=_;rw[hm];rfl),regA XK⟩
 |load d a j=>
  obtain⟨Vy,XK,ho3⟩:=ho;rw[Am.eQ,Ex,LV XK];have Vx:∀p,(M.CU k ((M.th k).pc+1)).SF k p=Am.wv (M.th k).waits (M.mem.getD p.toNat 0) p:=λp=>by unfold Am.SF;rw[Ex];rfl
  rcases hf with⟨r,hr⟩|⟨hx,e,he⟩
  .have MJ:(Pv (X k).Ac (wrap64 (Ey (A.th k).lt.x.R a+j))).map (λo=>((⟨CA (A.th k).lt.x.R d.toNat ((A.th k).lt.x.m.get o),(A.th k).lt.x.m⟩:XS),(Z:Option Nat)))=U r:=hr;cases hof:Pv (X k).Ac (wrap64 (Ey (A.th k).lt.x.R a+j)) with
   |none=>rw[hof] at MJ;cases MJ
   |some o=>
    obtain⟨hp,Akz⟩:=dF hof;refine⟨A,_,.nil A,SH hr,?_⟩;rw[hof] at MJ;cases MJ;rw[In (by rw[hp];omega),Vx,hp,hK.SH o Akz];exact regA Vy
  .have BG:(bh (wrap64 (Ey (A.th k).lt.x.R a+j))).map (Ek.ld d.toNat ·)=U e:=he;cases IK:bh (wrap64 (Ey (A.th k).lt.x.R a+j)) with
   |none=>rw[IK] at BG;cases BG
   |some c=>
    obtain⟨hp,hc⟩:=UT IK;rw[IK] at BG;cases BG;refine⟨A,_,.nil A,.ev Ay hi hx he (λh=>by cases h),?_⟩;rw[In (by rw[hp];omega),Vx,hp,Aee (λp hp=>(hK.wa p hp).1) hc];have e1:M.mem.getD ((c:Int)).toNat 0=A.sm c:=h.sm c hc;rw[e1,<-hK.sw];exact regA Vy
 |store a j b=>
  obtain⟨Vy,XK,ho3⟩:=ho;rw[Am.aA,Ex,LV Vy,LV ho3];obtain⟨M',A0,f0,h0,e1,e2,e3,e4,hlen,hM'⟩:∃M' A0,kv X k A A0/\XE X T M' A0/\(A0.th k).lt=(A.th k).lt/\(A0.th k).st=(A.th k).st/\(A0.th k).out=(A.th k).out/\k<J M'.ts/\(M'.th k).waits.length<4/\
    (if (M.th k).waits.length=4 then (M.CU k ((M.th k).pc+1)).Ck k else M.CU k ((M.th k).pc+1))=M'.CU k ((M.th k).pc+1):=by
   by_cases h4:(M.th k).waits.length=4
   .obtain⟨A',g1,g2,g3,g4,g5,g6,_⟩:=h.Ck hB hT hk;exact⟨M.Ck k,A',g1,g2,g4,g5,g6,by rw[eL];exact Lo,by rw[g3,QM];omega,by rw[Jd h4,mW Lo]⟩
   .exact⟨M,A,.nil A,h,rfl,rfl,rfl,Lo,by have:=hK.wl;omega,by rw[In h4]⟩
  have hK':=h0.th k hk;have gQ:(M'.CU k ((M.th k).pc+1)).th k={M'.th k with pc:=(M.th k).pc+1}:=NW e4;have Akm:=e2.trans Ay;have rN:(A0.th k).lt.pc=(M.th k).pc:=by rw[e1];exact hK.pc.symm
  have hi0:(X k).Ab[(A0.th k).lt.pc]?=U (.store a j b):=by rw[e1];exact hi
  obtain⟨a1,a2,a3,a4,a5,a6,a7,a8,a9⟩:=hK';rcases hf with⟨r,hr⟩|⟨hx,e,he⟩
  .have MJ:(Pv (X k).Ac (wrap64 (Ey (A.th k).lt.x.R a+j))).map (λo=>((⟨(A.th k).lt.x.R,(A.th k).lt.x.m.set o (Ey (A.th k).lt.x.R b)⟩:XS),(Z:Option Nat)))=U r:=hr;cases hof:Pv (X k).Ac (wrap64 (Ey (A.th k).lt.x.R a+j)) with
   |none=>rw[hof] at MJ;cases MJ
   |some o=>
    obtain⟨hp,Akz⟩:=dF hof;refine⟨A0,_,f0,.SH Akm (lt':=⟨r.2.getD ((A0.th k).lt.pc+1),r.1⟩) (by unfold ps1;rw[hi0,e1];show(cj _ _ _).map _=_;rw[hr];rfl),?_⟩;rw[hof] at MJ;cases MJ;rw[In (by rw[hp];omega)];rw[hM',gQ];unfold Am.CU;rw[set_set];refine h0.set hB hT hk ⟨?_,a2,by rw[<-e1];exact a3,λo' bU=>?_,?_,?_,?_,a8,a9⟩
    .exact naq
    .show Am.wv ((M'.th k).waits++[_]) _ _=((A.th k).lt.x.m.set o _).get o';rw[fJ,C8.AfH,a4 o' bU,e1,hp];by_cases he:o'=o
     .rw[Jd (by rw[he]),Jd he]
     .rw[In (by intro hx;apply he;have:(X k).Ac+(o:Int)=(X k).Ac+o':=hx;omega),In he]
    .show(A0.th k).sw=shW ((M'.th k).waits++[_]);rw[kU,a5,hp,In (by show¬(X k).Ac+(o:Int)<32;omega),Jr]
    .intro q hq;rcases Jq.1 hq with hq|hq
     .exact a6 q hq
     .simp only[GE] at hq;subst hq;rw[hp];exact⟨by show 0<=(X k).Ac+(o:Int);omega,.inr ⟨by show(X k).Ac<=(X k).Ac+(o:Int);omega,by show(X k).Ac+(o:Int)<_;omega⟩⟩
    .show((M'.th k).waits++[_]).length<=4;rw[GT];exact hlen
  .have BG:(bh (wrap64 (Ey (A.th k).lt.x.R a+j))).map (Ek.st · (Ey (A.th k).lt.x.R b))=U e:=he;cases IK:bh (wrap64 (Ey (A.th k).lt.x.R a+j)) with
   |none=>rw[IK] at BG;cases BG
   |some c=>
    obtain⟨hp,hc⟩:=UT IK;rw[IK] at BG;cases BG;refine⟨A0,_,f0,.ev Akm hi0 (by rw[e1];exact hx) (by rw[e1];exact he) (λh=>by cases h),?_⟩;rw[In (by rw[hp];omega)];rw[hM',gQ];unfold Am.CU;rw[set_set];refine h0.set hB hT hk ⟨?_,a2,a3,λo' bU=>?_,?_,?_,?_,a8,a9⟩
    .exact naq
    .show Am.wv ((M'.th k).waits++[_]) _ _=(A0.th k).lt.x.m.get o';rw[fJ,a4 o' bU,hp,In (by show¬(c:Int)=(X k).Ac+o';omega)]
    .show(A0.th k).sw++[(c,Ey (A.th k).lt.x.R b)]=shW ((M'.th k).waits++[_]);rw[kU,a5,hp,Jd (by show(c:Int)<32;omega)];rfl
    .intro q hq;rcases Jq.1 hq with hq|hq
     .exact a6 q hq
     .simp only[GE] at hq;subst hq;rw[hp];exact⟨by show 0<=(c:Int);omega,.inl (by show(c:Int)<32;omega)⟩
    .show((M'.th k).waits++[_]).length<=4;rw[GT];exact hlen
 |La d a j b c=>
  obtain⟨Vy,XK,ho3,ho4,mF⟩:=ho;rw[Am.ni,Ex,LV XK,LV ho4,LV mF,nr Lo];obtain⟨A0,f0,h0,e1,e2,e3,e4,e5⟩:=h.Cp hB hT hk;have Ww:k<(M.Cp k).ts.length:=by rw[h0.tl];exact hk
  have gQ:((M.Cp k).CU k ((M.th k).pc+1)).th k={(M.Cp k).th k with pc:=(M.th k).pc+1}:=NW Ww;have hK':=h0.th k hk;have rN:(A0.th k).lt.pc=(M.th k).pc:=by rw[e3];exact hK.pc.symm
  rcases hf with⟨r,hr⟩|⟨hx,e,he⟩
  .cases hr
  have BG:(bh (wrap64 (Ey (A.th k).lt.x.R a+j))).map (Ek.La d.toNat · (Ey (A.th k).lt.x.R b) (Ey (A.th k).lt.x.R c))=U e:=he;cases IK:bh (wrap64 (Ey (A.th k).lt.x.R a+j)) with
  |none=>rw[IK] at BG;cases BG
  |some n=>
   obtain⟨hp,hc⟩:=UT IK;rw[IK] at BG;cases BG;refine⟨A0,_,f0,.ev (e4.trans Ay) (by rw[e3];exact hi) rfl (by rw[e3];exact he) (λ_=>e2),?_⟩;rw[In (by rw[hp];omega)];have Vx:((M.Cp k).CU k ((M.th k).pc+1)).SF k (wrap64 (Ey (A.th k).lt.x.R a+j))=A0.sm n:=by
    exact nar
   rw[Vx];obtain⟨a1,a2,a3,a4,a5,a6,a7,a8,a9⟩:=hK';have rM:∀v,((({(M.Cp k).th k with pc:=(M.th k).pc+1}:C2).DA d v).Dx.length=8/\∀r,r<8->(({(M.Cp k).th k with pc:=(M.th k).pc+1}:C2).DA d v).Dx.getD r 0=CA (A0.th k).lt.x.R d.toNat v r):=λv=>Wa (h0.th k hk) Vy v
   by_cases hq:A0.sm n=Ey (A.th k).lt.x.R b
   .rw[Jd hq];have hm:mE A0.sm (.La d.toNat n (Ey (A.th k).lt.x.R b) (Ey (A.th k).lt.x.R c))=CA A0.sm n (Ey (A.th k).lt.x.R c):=by show(if _ then _ else _)=_;rw[Jd hq]
    have hv:vE A0.sm (A0.th k).sw (.La d.toNat n (Ey (A.th k).lt.x.R b) (Ey (A.th k).lt.x.R c))=1:=by show(if _ then _ else _)=_;rw[Jd hq]
    rw[hm,gQ,hp];show XE X T {mem:=(M.Cp k).mem.set ((n:Int)).toNat _,ts:=(((M.Cp k).ts.set k _).set k _)} _;rw[j7];refine h0.put hB hk hc λmem NJ=>⟨?_,(rM 1).1,?_,λo ho=>by rw[NJ o ho];exact a4 o ho,a5,a6,a7,a8,a9⟩
    .exact naq
    .show∀r,r<8->_=CA (A0.th k).lt.x.R d.toNat (vE _ _ _) r;rw[hv];exact(rM 1).2
   .rw[In hq];have hm:mE A0.sm (.La d.toNat n (Ey (A.th k).lt.x.R b) (Ey (A.th k).lt.x.R c))=A0.sm:=by show(if _ then _ else _)=_;rw[In hq]
    have hv:vE A0.sm (A0.th k).sw (.La d.toNat n (Ey (A.th k).lt.x.R b) (Ey (A.th k).lt.x.R c))=0:=by show(if _ then _ else _)=_;rw[In hq]
    rw[hm,gQ];unfold Am.CU;rw[set_set];refine h0.set hB hT hk ⟨?_,(rM 0).1,?_,a4,a5,a6,a7,a8,a9⟩
    .exact naq
    .show∀r,r<8->_=CA (A0.th k).lt.x.R d.toNat (vE _ _ _) r;rw[hv];exact(rM 0).2
 |El d a j b=>
  obtain⟨Vy,XK,ho3,ho4⟩:=ho;rw[Am.eP,Ex,LV XK,LV ho4,nr Lo];obtain⟨A0,f0,h0,e1,e2,e3,e4,e5⟩:=h.Cp hB hT hk;have Ww:k<(M.Cp k).ts.length:=by rw[h0.tl];exact hk
  have gQ:((M.Cp k).CU k ((M.th k).pc+1)).th k={(M.Cp k).th k with pc:=(M.th k).pc+1}:=NW Ww;have rN:(A0.th k).lt.pc=(M.th k).pc:=by rw[e3];exact hK.pc.symm
  rcases hf with⟨r,hr⟩|⟨hx,e,he⟩
  .cases hr
  have BG:(bh (wrap64 (Ey (A.th k).lt.x.R a+j))).map (Ek.El d.toNat · (Ey (A.th k).lt.x.R b))=U e:=he;cases IK:bh (wrap64 (Ey (A.th k).lt.x.R a+j)) with
  |none=>rw[IK] at BG;cases BG
  |some n=>
   obtain⟨hp,hc⟩:=UT IK;rw[IK] at BG;cases BG;refine⟨A0,_,f0,.ev (e4.trans Ay) (by rw[e3];exact hi) rfl (by rw[e3];exact he) (λ_=>e2),?_⟩;rw[In (by rw[hp];omega)];have Vx:((M.Cp k).CU k ((M.th k).pc+1)).SF k (wrap64 (Ey (A.th k).lt.x.R a+j))=A0.sm n:=by
    exact nar
   rw[Vx,gQ,hp,yu A0 _ _ _ f0 he];have hK':=h0.th k hk;obtain⟨a1,a2,a3,a4,a5,a6,a7,a8,a9⟩:=hK';have rM:∀v,((({(M.Cp k).th k with pc:=(M.th k).pc+1}:C2).DA d v).Dx.length=8/\∀r,r<8->(({(M.Cp k).th k with pc:=(M.th k).pc+1}:C2).DA d v).Dx.getD r 0=CA (A0.th k).lt.x.R d.toNat v r):=λv=>Wa (h0.th k hk) Vy v
   show XE X T {mem:=(M.Cp k).mem.set ((n:Int)).toNat _,ts:=(((M.Cp k).ts.set k _).set k _)} _;rw[j7];refine h0.put hB hk hc λmem NJ=>⟨?_,(rM _).1,(rM _).2,λo ho=>by rw[NJ o ho];exact a4 o ho,a5,a6,a7,a8,a9⟩
   show(M.th k).pc+1=(A0.th k).lt.pc+1;rw[rN]
 |Mr=>exact ho.elim
 |out a=>
  rw[Am.Adp,Ex,LV ho];refine⟨A,_,.nil A,.ev Ay hi rfl rfl (λh=>by cases h),?_⟩;unfold Am.CU;rw[set_set];refine h.set hB hT hk ?_;obtain⟨a1,a2,a3,a4,a5,a6,a7,a8,a9⟩:=hK;exact⟨by show(M.th k).pc+1=(A.th k).lt.pc+1;rw[a1],a2,a3,a4,a5,a6,a7,a8,by show(M.th k).out++_=(A.th k).out++_;rw[a9]⟩
 |GN q=>
  rw[Am.Adr,Ex];refine⟨A,_,.nil A,SH rfl,?_⟩;unfold Am.CU;rw[set_set];refine h.set hB hT hk ?_;obtain⟨a1,a2,a3,a4,a5,a6,a7,a8,a9⟩:=hK;exact⟨rfl,a2,a3,a4,a5,a6,a7,a8,a9⟩
 |jz a q=>
  rw[Am.uZ,Ex,LV ho.1];refine⟨A,_,.nil A,SH rfl,?_⟩;obtain⟨a1,a2,a3,a4,a5,a6,a7,a8,a9⟩:=hK;by_cases h0:Ey (A.th k).lt.x.R a=0
  .rw[Jd h0];unfold Am.CU;rw[set_set];refine h.set hB hT hk ⟨?_,a2,a3,a4,a5,a6,a7,a8,a9⟩;show q.toNat=Option.getD (if Ey (A.th k).lt.x.R a=0 then U q.toNat else Z) _;rw[Jd h0];rfl
  .rw[In h0];refine h.set hB hT hk ⟨?_,a2,a3,a4,a5,a6,a7,a8,a9⟩;show(M.th k).pc+1=Option.getD (if Ey (A.th k).lt.x.R a=0 then U q.toNat else Z) _;rw[In h0,a1];rfl
 |CS s=>
  rw[Am.yZ,Ex];exact nag
 |halt=>
  rw[Am.y7,Ex];exact nag
end
section
namespace Am
end Am
structure Agn (X:Nat->Cx) (T n M:Nat) (K:Int) (R:Am) (A:AM) (G:Nat->Gt):Prop where
 abs:XE X T R A
 l1:L1 X T n M K A G
structure MCx (X:Nat->Cx) (T n:Nat) (Ab:Nat->List GI):Prop where
 hB:∀t,t<T->(X t).Ac=32+64*(t:Int)
 hT:T<=3
 h6:n<=6
 hX:∀t,t<T->OE (X t)/\(X t).n=n
 hc:∀t,t<T->Ab t=(X t).Ab
 ok:∀t,t<T->∀i,i∈(X t).Ab->SK 4000 i
variable {X:Nat->Cx} {T n M:Nat} {Ab:Nat->List GI} (hC:MCx X T n Ab)
include hC
theorem AfO (h:L1 X T n M K A G) {k:Nat} (hk:k<T) (h0:(A.th k).st=0):∃i,(X k).Ab[(A.th k).lt.pc]?=U i/\AlV (X k) (A.th k).lt i/\∀e,cj (X k).Ac i (A.th k).lt.x=Z->evk i (A.th k).lt.x=U e->PN (G k)=U e:=by
 obtain⟨j,lt',hr,ha,_⟩:=h.th k hk h0;cases hr with
 |nil=>
  obtain⟨i,e,h1,h2,h3,h4⟩:=iD (hC.hX k hk).1 ha;exact⟨i,h1,.inr AC,AC⟩
 |cons h1 _=>
  unfold ps1 at h1;cases hi:(X k).Ab[(A.th k).lt.pc]? with
  |none=>rw[hi] at h1;cases h1
  |some i=>
   rw[hi] at h1;have h2:(cj (X k).Ac i (A.th k).lt.x).map (λr=>(⟨r.2.getD ((A.th k).lt.pc+1),r.1⟩:LT))=U _:=h1;cases he:cj (X k).Ac i (A.th k).lt.x with
   |none=>rw[he] at h2;cases h2
   |some r=>exact⟨i,rfl,.inl AC,AC⟩
theorem AfU {j:Int} (h:PN g=U (.El d a j)):a=16/\j=1:=by
 have _:=hC;grind [PN,Option.map_eq_some_iff]
theorem Agn.fs {R:Am} (h:Agn X T n M K R A G) (hK:K<1000000000000000000) {k:Nat} (hk:k<T) (h0:(A.th k).st=0):∃A0 A1,kv X k A A0/\AS X A0 k I A1/\XE X T (R.step Ab k) A1:=by
 obtain⟨i,hi,hf,he⟩:=AfO hC h.l1 hk h0;refine AaU hC.hB hC.hT h.abs hk (hC.hc k hk) h0 hi (hC.ok k hk i AC) hf λA0 d a j f hx=>?_
 have AkA:cj (X k).Ac i (A.th k).lt.x=Z:=by
  rcases hf with⟨r,hr⟩|⟨h1,_⟩
  .cases i with
   |El _ _ _ _=>rfl
   |op _ _ _ _=>cases hx
   |load d a k=>have DT:(bh _).map _=U (Ek.El _ _ _):=hx;grind [Option.map_eq_some_iff]
   |store a k b=>have DT:(bh _).map _=U (Ek.El _ _ _):=hx;grind [Option.map_eq_some_iff]
   |La d a k b c=>rfl
   |_=>cases hx
  .exact h1
 obtain⟨rfl,rfl⟩:=AfU hC (he _ AkA hx);obtain⟨h2,_⟩:=f.l1 hC.h6 hC.hX hk h.l1 hK;have:=h2.c0;grind [ER]
end
theorem Ad0 (s:Bj):∀(d:Nat) (i:Bool) (n b o:Int),WF cells s d i->1<=n->As s n=U (b,o)->AB s/\(i=V->o=n*ob s):=by
 induction s with
 |nil=>intro d i n b o _ _ h;cases h;exact⟨trivial,λ_=>by simp[ob]⟩
 |set v op x y r ih=>intro d i n b o hw hn h;exact ih d i n b o hw.2.2.2.2 hn h
 |get v f z x r ih=>intro d i n b o hw hn h;exact ih d i n b o hw.2.2.2.2 hn h
 |put f z x y r ih=>intro d i n b o hw hn h;exact ih d i n b o hw.2.2.2.2 hn h
 |out x r ih=>
  intro d i n b o hw hn h;rw[As] at h;cases hc:As r n with
  |none=>rw[hc] at h;cases h
  |some q=>
   rw[hc] at h;cases h;obtain⟨h1,h2⟩:=ih d i n q.1 q.2 hw.2 hn hc;refine⟨h1,λhi=>?_⟩;rw[h2 hi,ob];push_cast;rw[Qn];omega
 |Ew x b r ihb ih=>
  intro d i n b' o hw hn h;rw[As] at h;cases hb:As b n with
  |none=>rw[hb] at h;cases h
  |some p=>
   rw[hb] at h;cases hc:As r n with
   |none=>rw[hc] at h;cases h
   |some q=>
    rw[hc] at h;cases h;obtain⟨h1,h2⟩:=ih d i n q.1 q.2 hw.2.2.2 hn hc;obtain⟨h3,h4⟩:=ihb (d+1) i n p.1 p.2 hw.2.2.1 hn hb;refine⟨⟨h3,h1⟩,λhi=>?_⟩;rw[h2 hi,h4 hi,ob];push_cast;rw[Qn]
 |loop k b r ihb ih=>
  intro d i n b' o hw hn h;rw[As] at h;have hk:=hw.1;have hnk:1<=n*k:=by have:1*1<=n*k:=i9 hn hk.1 Do Y;omega
  cases hb:As b (n*k) with
  |none=>rw[hb] at h;cases h
  |some p=>
   rw[hb] at h;cases hc:As r n with
   |none=>rw[hc] at h;cases h
   |some q=>
    rw[hc] at h;cases h;obtain⟨h1,h2⟩:=ih d i n q.1 q.2 hw.2.2.2 hn hc;obtain⟨h3,h4⟩:=ihb (d+1) i (n*k) p.1 p.2 hw.2.2.1 hnk hb;refine⟨⟨h3,h1⟩,λhi=>?_⟩;rw[h2 hi,h4 hi,ob];push_cast;rw[Qn,d5 Y,jZ]
 |atomic b r ihb ih=>
  intro d i n b' o hw hn h;rw[As] at h;cases hb:As b 1 with
  |none=>rw[hb] at h;cases h
  |some p=>
   rw[hb] at h;replace h:(if 8<p.2 then Z else match As r n with|none=>Z|some (b2,o2)=>U (n+b2,o2))=U (b',o):=h;split at h
   .cases h
   .rename_i h8;cases hc:As r n with
    |none=>rw[hc] at h;cases h
    |some q=>
     rw[hc] at h;cases h;obtain⟨h1,_⟩:=ih d i n q.1 q.2 hw.2.2.2 hn hc;obtain⟨h3,h4⟩:=ihb (d+1) V 1 p.1 p.2 hw.2.2.1 Do hb;refine⟨⟨⟨h3,?_⟩,h1⟩,λhi=>?_⟩
     .have:=h4 rfl;omega
     .have:=hw.1;rw[hi] at this;cases this
def M3:Bj->Nat
 |.nil=>0
 |.set _ _ _ _ r=>5+M3 r
 |.get _ _ _ _ r=>60+M3 r
 |.put _ _ _ _ r=>12+M3 r
 |.out _ r=>6+M3 r
 |.atomic b r=>60+M3 b+M3 r
 |.Ew _ b r=>4+M3 b+M3 r
 |.loop n b r=>2+n.toNat*(6+M3 b)+M3 r
theorem AiS (s:Bj):∀(d:Nat) (i:Bool),WF cells s d i->d<=3->(M3 s:Int)<=60*((4 ^ (3-d):Nat):Int)*IN s:=by
 have p1:∀d,d<=3->(1:Int)<=((4 ^ (3-d):Nat):Int):=λd _=>by have:=Nat.one_le_pow (3-d) 4 Do;omega
 have p4:∀d,d<3->((4 ^ (3-d):Nat):Int)=4*((4 ^ (3-(d+1)):Nat):Int):=λd hd=>by
  rw[show 3-d=(3-(d+1))+1 by omega,Nat.pow_succ];omega
 induction s with
 |nil=>grind [M3,IN]
 |set v op x y r ih=>intro d i hw hd;have:=ih d i hw.2.2.2.2 hd;have:=p1 d hd;simp only[M3,IN];rw[Qn];omega
 |get v f z x r ih=>intro d i hw hd;have:=ih d i hw.2.2.2.2 hd;have:=p1 d hd;simp only[M3,IN];rw[Qn];omega
 |put f z x y r ih=>intro d i hw hd;have:=ih d i hw.2.2.2.2 hd;have:=p1 d hd;simp only[M3,IN];rw[Qn];omega
 |out x r ih=>intro d i hw hd;have:=ih d i hw.2 hd;have:=p1 d hd;simp only[M3,IN];rw[Qn];omega
 |Ew x b r ihb ih=>
  intro d i hw hd;have h1:=ih d i hw.2.2.2 hd;have h2:=ihb (d+1) i hw.2.2.1 hw.2.1;exact nah
 |atomic b r ihb ih=>
  intro d i hw hd;have h1:=ih d i hw.2.2.2 hd;have h2:=ihb (d+1) V hw.2.2.1 hw.2.1;exact nah
 |loop k b r ihb ih=>
  intro d i hw hd;have h1:=ih d i hw.2.2.2 hd;have h2:=ihb (d+1) i hw.2.2.1 hw.2.1;have h3:=p1 d hd;have h4:=p4 d hw.2.1;have hk:=hw.1;have h5:(k.toNat*(6+M3 b):Nat)<=4*(6+M3 b):=Qu _ Y;have h6:60*((4 ^ (3-d):Nat):Int)*IN b=4*(60*((4 ^ (3-(d+1)):Nat):Int)*IN b):=by rw[h4,<-jZ,<-jZ,<-jZ,Int.mul_comm 60 4]
  simp only[M3,IN];rw[Qn,Qn];omega
theorem nw (s:Bj):∀(d:Nat) (i:Bool) (n b o:Int),WF cells s d i->1<=n->As s n=U (b,o)->0<=b/\(i=V->AW s=M3 s)/\(i=I->n*AW s<=n*M3 s+340*b):=by
 induction s with
 |nil=>intro d i n b o _ _ h;cases h<;>grind [AW,M3]
 |set v op x y r ih=>
  exact nad
 |get v f z x r ih=>
  exact nad
 |put f z x y r ih=>
  exact nad
 |out x r ih=>
  intro d i n b o hw hn h;rw[As] at h;cases hc:As r n with
  |none=>rw[hc] at h;cases h
  |some q=>
   rw[hc] at h;cases h;obtain⟨h0,h1,h2⟩:=ih d i n q.1 q.2 hw.2 hn hc;refine⟨h0,λhi=>by grind [AW,M3],λhi=>?_⟩;have:=h2 hi;simp only[AW,M3];grind
 |Ew x b r ihb ih=>
  intro d i n b' o hw hn h;rw[As] at h;cases hb:As b n with
  |none=>rw[hb] at h;cases h
  |some p=>
   rw[hb] at h;cases hc:As r n with
   |none=>rw[hc] at h;cases h
   |some q=>
    rw[hc] at h;cases h;obtain⟨h0,h1,h2⟩:=ih d i n q.1 q.2 hw.2.2.2 hn hc;obtain⟨g0,g1,g2⟩:=ihb (d+1) i n p.1 p.2 hw.2.2.1 hn hb;refine⟨Y,λhi=>by grind [AW,M3],λhi=>?_⟩;have:=h2 hi;have:=g2 hi;simp only[AW,M3];grind
 |loop k b r ihb ih=>
  intro d i n b' o hw hn h;rw[As] at h;have hk:=hw.1;have hnk:1<=n*k:=by have:1*1<=n*k:=i9 hn hk.1 Do Y;omega
  cases hb:As b (n*k) with
  |none=>rw[hb] at h;cases h
  |some p=>
   rw[hb] at h;cases hc:As r n with
   |none=>rw[hc] at h;cases h
   |some q=>
    rw[hc] at h;cases h;obtain⟨h0,h1,h2⟩:=ih d i n q.1 q.2 hw.2.2.2 hn hc;obtain⟨g0,g1,g2⟩:=ihb (d+1) i (n*k) p.1 p.2 hw.2.2.1 hnk hb;refine⟨Y,λhi=>by grind [AW,M3],λhi=>?_⟩;have:=h2 hi;have:=g2 hi;simp only[AW,M3];push_cast;rw[d5 Y];grind
 |atomic b r ihb ih=>
  intro d i n b' o hw hn h;rw[As] at h;cases hb:As b 1 with
  |none=>rw[hb] at h;cases h
  |some p=>
   rw[hb] at h;replace h:(if 8<p.2 then Z else match As r n with|none=>Z|some (b2,o2)=>U (n+b2,o2))=U (b',o):=h;split at h
   .cases h
   .cases hc:As r n with
    |none=>rw[hc] at h;cases h
    |some q=>
     rw[hc] at h;cases h;obtain⟨h0,_,h2⟩:=ih d i n q.1 q.2 hw.2.2.2 hn hc;obtain⟨g0,g1,_⟩:=ihb (d+1) V 1 p.1 p.2 hw.2.2.1 Do hb;refine⟨Y,λhi=>?_,λhi=>?_⟩
     .have:=hw.1;rw[hi] at this;cases this
     .have:=h2 hi;rw[show AW (.atomic b r)=400+AW b+AW r from rfl,show M3 (.atomic b r)=60+M3 b+M3 r from rfl,g1 rfl,show((400+M3 b+AW r:Nat):Int)=400+M3 b+AW r by omega,show((60+M3 b+M3 r:Nat):Int)=60+M3 b+M3 r by omega];rw[Qn,Qn,Qn,Qn,Qn];omega
theorem Sx {y:qL} {p:RP} (h:PS y p):∀t,t∈y.Aa->(WF y.cells t 0 I/\AB t)/\AW t<=54780:=by
 have Em:=h.B8;unfold Ei at Em;simp only[JB,JD,J3] at Em;obtain⟨mP,h3,Da⟩:=Em;intro t ht;have hw:=h.fw.th t ht;have Ac2:=Da t ht;cases Yr:As t 1 with
 |none=>rw[Yr] at Ac2;grind
 |some q=>
  rw[Yr] at Ac2;have hb:q.1<=3:=AC
  refine⟨⟨hw,(Ad0 t 0 I 1 q.1 q.2 hw Do Yr).1⟩,?_⟩;have h1:=(nw t 0 I 1 q.1 q.2 hw Do Yr).2.2 rfl;have h2:=AiS t 0 I hw Do;have h4:=h.fn.all t ht;have h5:(60:Int)*((4 ^ (3-0):Nat):Int)*IN t<=60*((4 ^ (3-0):Nat):Int)*14:=Q0 h4 Do;have h6:(60:Int)*((4 ^ (3-0):Nat):Int)*14=53760:=Do
  omega
section
def Oy (y:qL) (t:Nat):Cx:=⟨32+64*(t:Int),y.cells.toNat,Gi y.cells t (y.Aa.getD t .nil),y.cells⟩
def zPM:C8:=⟨λ_=>0,λ_=>0,λ_=>0,λ_=>0,λ_=>0,λ_=>0,λ_=>0,0,0,λ_=>0,λ_=>0⟩
def IQ (y:qL) (t:Nat):KS:=⟨y.Aa.getD t .nil,.done,λ_=>0,λ_=>0,D9,[]⟩
def A0:AM:=⟨λ_=>0,λ_=>⟨⟨0,⟨λ_=>0,zPM⟩⟩,[],0,[]⟩⟩
def R0 (y:qL):Am:=⟨List.replicate 256 0,(CG y.cells y.Aa (J y.Aa)).map λt=>we (t.map GI.DM)⟩
def VI (y:qL) (t:Nat):List GI:=Gi y.cells t (y.Aa.getD t .nil)
theorem Aeb (o:Nat):zPM.get o=0:=by unfold C8.get;cases Lb.Sw o<;>rfl
variable {y:qL} {p:RP} (h:PS y p)
include h
omit h in
theorem Vl {t:Nat} (ht:t<J y.Aa):y.Aa.getD t .nil∈y.Aa:=by rw[Ja,Jb ht];grind
theorem T7:MCx (Oy y) (J y.Aa) y.cells.toNat λt=>Gi y.cells t (y.Aa.getD t .nil):=by
 obtain⟨h1,h2,h3,h4⟩:=I0 h;have h0:=h.fw.c0;refine⟨λ_ _=>rfl,h4,Y,λt ht=>⟨⟨⟨by show 32<=32+64*(t:Int);omega,by show 32+64*(t:Int)<=160;omega⟩,rfl,h3⟩,rfl⟩,λ_ _=>rfl,λt ht i hi=>?_⟩;exact(h1 _ (Qe.2 ⟨t,J6.2 ht,rfl⟩)).2.1 i hi
theorem Ag2 {t:Nat} (ht:t<J y.Aa):(R0 y).th t=we ((Gi y.cells t (y.Aa.getD t .nil)).map GI.DM):=by
 have _:=h;grind [Am.th,R0,CG]
theorem fA:XE (Oy y) (J y.Aa) (R0 y) A0:=by
 refine⟨J1 ..,by show(List.map _ (CG _ _ _)).length=_;rw[JY,KV],λa ha=>?_,λt ht=>?_⟩
 .show(List.replicate 256 (0:Int)).getD a 0=0;rw[Ja,QF];split<;>rfl
 .rw[Ag2 h ht];refine⟨rfl,rfl,λr hr=>?_,λo ho=>?_,rfl,λp hp=>?_,by show([]:List (Int×Int)).length<=4;decide,rfl,rfl⟩
  .show(List.replicate 8 (0:Int)).getD r 0=0;rw[Ja,QF];split<;>rfl
  .show(List.replicate 256 (0:Int)).getD _ 0=zPM.get o;rw[Aeb,Ja,QF];split<;>rfl
  .have:p∈([]:List (Int×Int)):=hp;cases this
theorem Aaz {t:Nat} (ht:t<J y.Aa):∃q',IC D9 (IQ y t) q'/\nT (Oy y t) 54790 (A0.th t).lt (DN q'):=by
 have hx:=((T7 h).hX t ht).1;obtain⟨⟨hw,UG⟩,hd⟩:=Sx h _ (Vl ht);have eF:=aG y.cells t (y.Aa.getD t .nil) (SW.of _ 0 I hw);have hp:PK (Oy y t).Ac (Oy y t).n (Oy y t).Ab 0 (.rest (IQ y t).s (IQ y t).k) 0:=by
  have e:(Oy y t).Ab=rz 0 (Gz (32+64*t) y.cells.toNat I 0 0 (y.Aa.getD t .nil))++[.halt]:=eF;refine⟨λj x hj=>?_,?_⟩
  .rw[e,JU];exact(JT (Jm.1 hj).1).trans hj
  .show(Oy y t).Ab[0+(Gz _ _ _ _ _ _).length]?=_;rw[e,JU,JL (by rw[CO];exact Jf _),CO];show[GI.halt][(Gz (32+64*(t:Int)) y.cells.toNat I 0 0 (y.Aa.getD t .nil)).length-_]?=_;rw[Qy];rfl
 have hm:Mt (Oy y t).n (Oy y t).cells ⟨λ_=>0,0⟩ D9 D9 (IQ y t) zPM:=⟨λ_ _=>rfl,λ_ _=>rfl,⟨⟨hw,UG⟩,trivial⟩,λhb=>by cases hb⟩;have AmD:C9 (IQ y t)<=54790:=by
  show 1+AW (y.Aa.getD t .nil)+1<=54790;omega
 obtain⟨j,lt',hr,g',ha,q',rfl,hk,hle⟩:=Rn.outside (x:=Oy y t) (k:=0) (P:=λj g'=>∃q',g'=DN q'/\IC D9 (IQ y t) q'/\j+Se (Oy y t) (DN q')<=C9 (IQ y t)) (lt:=(A0.th t).lt) hx hp rfl hm AC;exact⟨q',hk,j,lt',hr,ha,Y⟩
theorem start:∃G,Agn (Oy y) (J y.Aa) y.cells.toNat 54790 0 (R0 y) A0 G/\∀t,t<J y.Aa->∃q',G t=DN q'/\IC D9 (IQ y t) q':=by
 have hC:=T7 h;have key:∀t,∃g,t<J y.Aa->∃q',g=DN q'/\IC D9 (IQ y t) q'/\nT (Oy y t) 54790 (A0.th t).lt (DN q'):=λt=>by
  by_cases ht:t<J y.Aa
  .obtain⟨q',hk,ho⟩:=Aaz h ht;exact⟨DN q',λ_=>⟨q',rfl,hk,ho⟩⟩
  .exact⟨DN (IQ y 0),λh=>Jk h ht⟩
 obtain⟨G,hG⟩:=Classical.axiomOfChoice key;refine⟨G,⟨fA h,λt ht _=>?_,λt ht=>?_,by show(0:Int)<=0/\(0:Int)<=0;decide,λt ht=>?_,⟨λt c v ht hc hv=>?_,λt a v ht hv=>?_,λt ht=>?_,λt t' c ht IJ hc hx=>?_,λc hc _=>⟨0,rfl,Do,by show(0:Int)<=0;decide⟩⟩,λt ht h0=>Jk rfl h0⟩,λt ht=>?_⟩
 .obtain⟨q',e,_,j,lt',h1,h2,h3⟩:=hG t ht;rw[e];exact⟨j,lt',h1,h2,Y⟩
 .obtain⟨q',e,_,j,lt',h1,h2,h3⟩:=hG t ht;have:=tX (Oy y t) q';rw[e];exact⟨by rw[this.2];omega,λ_=>Y⟩
 .obtain⟨q',e,_⟩:=hG t ht;have:=EK 0 q';rw[e,this.2.2.1,this.2.2.2];show(0<=(0:Int)/\(0:Int)<=0)/\(0:Int)<=0/\(0:Int)<=0;decide
 .obtain⟨q',e,_⟩:=hG t ht;have Xu:B6 (G t) c=U v:=hv;rw[e,(EK 0 q').1] at Xu;cases Xu
 .obtain⟨q',e,_⟩:=hG t ht;have Xu:(a,v)∈[]++AL y.cells.toNat (G t):=hv;rw[e,(EK _ q').2.1] at Xu;cases Xu
 .obtain⟨q',e,_⟩:=hG t ht;show([]++AL y.cells.toNat (G t)).Pairwise aP;rw[e,(EK _ q').2.1];exact .nil
 .obtain⟨q',e,_⟩:=hG t ht;have DT:(B6 (G t) c).isSome=V\/∃v,(8+c,v)∈[]++AL y.cells.toNat (G t):=hx;rw[e,(EK y.cells.toNat q').1,(EK y.cells.toNat q').2.1] at DT;rcases DT with DT|⟨v,hv⟩
  .cases DT
  .cases hv
 .obtain⟨q',e,hk,_⟩:=hG t ht;exact⟨q',e,hk⟩
end
def ndT (f z:List Int) (u:List Bool) (b:Bool) (x:Nd):Prop:=
 (x.kind=103\/x.kind=112)->(∃i:Nat,f[i]?=U x.first/\z[i]?=U x.size)/\u[x.first.toNat]?=U V/\(x.kind=112->b=V)
structure VsT (f z:List Int) (c:Int):Prop where
 len:J z=J f
 lt:∀(i:Nat) (a s:Int),f[i]?=U a->z[i]?=U s->0<=a/\1<=s/\a+s<=c
 ap:∀(i j:Nat) (a s e:Int),i<j->f[i]?=U a->z[i]?=U s->f[j]?=U e->a+s<=e
structure TI (r:RS):Prop where
 vs:VsT r.first r.size r.p.cells
 pl:J r.p.BX=J r.p.Aa
 all:∀(k:Nat) l u b,r.p.Aa[k]?=U l->r.p.Ap[k]?=U u->r.p.BX[k]?=U b->∀x,x∈l->ndT r.first r.size u b x
structure NK (r q:RS):Prop where
 sh:q.Ax=r.Ax
 f:q.first=r.first
 z:q.size=r.size
 th:q.p.Aa=r.p.Aa
 c:q.p.cells=r.p.cells
 tl:J q.p.Ap=J r.p.Ap
 pl:J q.p.BX=J r.p.BX
 t1:∀(k:Nat) (u':List Bool),q.p.Ap[k]?=U u'->∃u:List Bool,r.p.Ap[k]?=U u/\J u'=J u/\∀i:Nat,u[i]?=U V->u'[i]?=U V
 p1:∀(k:Nat) (b':Bool),q.p.BX[k]?=U b'->∃b:Bool,r.p.BX[k]?=U b/\(b=V->b'=V)
section
variable {R:RS} {n:Nat} (hg:LG R n) (hi:TI R) (hT:R.p.Aa≠[])
include hg hi hT
omit hg in
end
structure PT (p:RP) (f z:List Int):Prop where
 vs:VsT f z p.cells
 tl:J p.Ap=J p.Aa
 pl:J p.BX=J p.Aa
 tc:∀t,t∈p.Ap->(J t:Int)=p.cells
 all:∀(k:Nat) l u b,p.Aa[k]?=U l->p.Ap[k]?=U u->p.BX[k]?=U b->∀x,x∈l->ndT f z u b x
def PRt (f z:List Int) (u:List Bool) (c:Nat):Prop:=∃(i:Nat) (a s:Int),f[i]?=U a/\z[i]?=U s/\a<=c/\(c:Int)<a+s/\u[a.toNat]?=U V
def PWt (f z:List Int) (u:List Bool) (b:Bool) (c:Nat):Prop:=PRt f z u c/\b=V
def PR (p:RP) (f z:List Int) (t:Nat):Nat->Prop:=PRt f z (p.Ap.getD t [])
def PW (p:RP) (f z:List Int) (t:Nat):Nat->Prop:=PWt f z (p.Ap.getD t []) (p.BX.getD t I)
section
variable {y:qL} {p:RP} (h:PS y p) {f z:List Int} (hp:PT p f z)
include h
include hp
end
structure RR where
 pc:Nat
 v:List Int
 Dz:List Int
 Al:List Int
 Bq:Nat
 An:Int
variable {r:RR}
def RR.start:RR:=⟨0,[0,0,0,0],[0,0,0],[],0,0⟩
def RR.get (r:RR) (a:At):Int:=if a.AX then r.v.getD a.v.toNat 0 else a.v
def RR.step (r:RR) (x:Nd) (cs:List Int):(RR×List Int)×Bool:=
 if x.kind=115 then
  if x.op.size=0 then (({r with pc:=r.pc+1,v:=r.v.set x.v.toNat (r.get x.a)},cs),V) else
  match BP x.op (r.get x.a) (r.get x.b) with
  |none=>(({r with pc:=r.pc+1,An:=1},cs),I)
  |some u=>(({r with pc:=r.pc+1,v:=r.v.set x.v.toNat u},cs),V)
 else if x.kind=103 then
  if r.get x.AN<0\/x.size<=r.get x.AN then (({r with pc:=r.pc+1,An:=2},cs),I) else
  (({r with pc:=r.pc+1,v:=r.v.set x.v.toNat (cs.getD (x.first+r.get x.AN).toNat 0)},cs),V)
 else if x.kind=112 then
  if r.get x.AN<0\/x.size<=r.get x.AN then (({r with pc:=r.pc+1,An:=2},cs),I) else
  (({r with pc:=r.pc+1},cs.set (x.first+r.get x.AN).toNat (r.get x.a)),V)
 else if x.kind=111 then (({r with pc:=r.pc+1,Al:=r.Al++[r.get x.a]},cs),V)
 else if x.kind=122 then (({r with pc:=if r.get x.a=0 then x.CN.toNat else r.pc+1},cs),V)
 else if x.kind=108 then (({r with pc:=r.pc+1,Dz:=r.Dz.set x.Ah.toNat x.n},cs),V)
 else if x.kind=98 then
  (({r with pc:=if 0<r.Dz.getD x.Ah.toNat 0-1 then x.CN.toNat else r.pc+1,Dz:=r.Dz.set x.Ah.toNat (r.Dz.getD x.Ah.toNat 0-1)},cs),V)
 else (({r with pc:=r.pc+1},cs),V)
section
variable {r:RR} {x:Nd} {cs:List Int} {a b u:Int}
theorem tK (h:x.kind=115) (hz:x.op.size=0) (ha:r.get x.a=a):r.step x cs=(({r with pc:=r.pc+1,v:=r.v.set x.v.toNat a},cs),V):=by
 unfold RR.step;rw[Jd h,Jd hz,ha]
theorem tJ (h:x.kind=115) (hz:¬x.op.size=0) (ha:r.get x.a=a) (hb:r.get x.b=b) (hm:BP x.op a b=U u):r.step x cs=(({r with pc:=r.pc+1,v:=r.v.set x.v.toNat u},cs),V):=by
 unfold RR.step;rw[Jd h,In hz,ha,hb,hm]
theorem tI (h:x.kind=115) (hz:¬x.op.size=0) (ha:r.get x.a=a) (hb:r.get x.b=b) (hm:BP x.op a b=Z):r.step x cs=(({r with pc:=r.pc+1,An:=1},cs),I):=by
 unfold RR.step;rw[Jd h,In hz,ha,hb,hm]
theorem AaJ (h:x.kind=103) (ha:r.get x.AN=a) (hi:¬(a<0\/x.size<=a)):r.step x cs=(({r with pc:=r.pc+1,v:=r.v.set x.v.toNat (cs.getD (x.first+a).toNat 0)},cs),V):=by
 unfold RR.step;rw[In (by rw[h];decide),Jd h,ha,In hi]
theorem tM (h:x.kind=103) (ha:r.get x.AN=a) (hi:a<0\/x.size<=a):r.step x cs=(({r with pc:=r.pc+1,An:=2},cs),I):=by
 unfold RR.step;rw[In (by rw[h];decide),Jd h,ha,Jd hi]
theorem AaH (h:x.kind=112) (ha:r.get x.AN=a) (hb:r.get x.a=b) (hi:¬(a<0\/x.size<=a)):r.step x cs=(({r with pc:=r.pc+1},cs.set (x.first+a).toNat b),V):=by
 unfold RR.step;rw[In (by rw[h];decide),In (by rw[h];decide),Jd h,ha,hb,In hi]
theorem tL (h:x.kind=112) (ha:r.get x.AN=a) (hi:a<0\/x.size<=a):r.step x cs=(({r with pc:=r.pc+1,An:=2},cs),I):=by
 unfold RR.step;rw[In (by rw[h];decide),In (by rw[h];decide),Jd h,ha,Jd hi]
theorem o6 (h:x.kind=111) (ha:r.get x.a=a):r.step x cs=(({r with pc:=r.pc+1,Al:=r.Al++[a]},cs),V):=by
 unfold RR.step;rw[In (by rw[h];decide),In (by rw[h];decide),In (by rw[h];decide),Jd h,ha]
theorem AaF (h:x.kind=122) (ha:r.get x.a=a):r.step x cs=(({r with pc:=if a=0 then x.CN.toNat else r.pc+1},cs),V):=by
 unfold RR.step;rw[In (by rw[h];decide),In (by rw[h];decide),In (by rw[h];decide),In (by rw[h];decide),Jd h,ha]
theorem AaI (h:x.kind=108):r.step x cs=(({r with pc:=r.pc+1,Dz:=r.Dz.set x.Ah.toNat x.n},cs),V):=by
 unfold RR.step;rw[In (by rw[h];decide),In (by rw[h];decide),In (by rw[h];decide),In (by rw[h];decide),In (by rw[h];decide),Jd h]
theorem o7 (h:x.kind=98) (ha:r.Dz.getD x.Ah.toNat 0-1=a):r.step x cs=(({r with pc:=if 0<a then x.CN.toNat else r.pc+1,Dz:=r.Dz.set x.Ah.toNat a},cs),V):=by
 unfold RR.step;rw[In (by rw[h];decide),In (by rw[h];decide),In (by rw[h];decide),In (by rw[h];decide),In (by rw[h];decide),In (by rw[h];decide),Jd h,ha]
end
inductive AlA (x:Nd) (r:RR) (n:Nat):Prop
 |s (k:x.kind=115) (v:0<=x.v/\x.v<4) (o:x.op.size=0\/x.op∈B7) (b:DP x.b)
 |g (k:x.kind=103) (v:0<=x.v/\x.v<4) (a:DP x.AN) (f:0<=x.first/\x.first+x.size<=n)
 |p (k:x.kind=112) (a:DP x.AN) (f:0<=x.first/\x.first+x.size<=n)
 |o (k:x.kind=111)
 |z (k:x.kind=122) (t:0<=x.CN)
 |l (k:x.kind=108) (d:0<=x.Ah/\x.Ah<3)
 |b (k:x.kind=98) (d:0<=x.Ah/\x.Ah<3) (q:1<=r.Dz.getD x.Ah.toNat 0/\r.Dz.getD x.Ah.toNat 0<=4) (t:0<=x.CN)
structure VO (x:Nd) (r:RR) (n:Nat):Prop where
 vl:J r.v=4
 rl:J r.Dz=3
 a:DP x.a
 k:AlA x r n
inductive Fl (l:List Nd):Nat->RR->RR->Prop
 |done {r:RR} (h:r.An≠0):Fl l 0 r r
 |halt {r:RR} (h:r.An=0) (hl:l[r.pc]?=Z):Fl l 0 r {r with An:=10}
 |Ao {r:RR} {x:Nd} (h:r.An=0) (hx:l[r.pc]?=U x) (hk:x.kind=40):Fl l 0 r r
 |step {n:Nat} {r r':RR} {x:Nd} (h:r.An=0) (hx:l[r.pc]?=U x) (hk:x.kind≠40) (hg:x.kind≠103/\x.kind≠112) (hb:VO x r 0/\J r.Al<=60000) (k:Fl l n (r.step x []).1.1 r'):Fl l (n+1) r r'
inductive M7 (l:List Nd):Nat->RR->List Int->RR->List Int->Bool->Prop
 |DU {r:RR} {cs:List Int} {x:Nd} (hx:l[r.pc]?=U x) (hk:x.kind=41):M7 l 0 r cs r cs V
 |CS {r r':RR} {cs cs':List Int} {x:Nd} (hx:l[r.pc]?=U x) (hk:x.kind≠41) (hb:VO x r (J cs)/\J r.Al<=60000) (hs:r.step x cs=((r',cs'),I)):M7 l 0 r cs r' cs' I
 |step {n:Nat} {r r1 r':RR} {cs cs1 cs':List Int} {x:Nd} {b:Bool} (hx:l[r.pc]?=U x) (hk:x.kind≠41) (hb:VO x r (J cs)/\J r.Al<=60000) (hs:r.step x cs=((r1,cs1),V)) (k:M7 l n r1 cs1 r' cs' b):M7 l (n+1) r cs r' cs' b
inductive I2 (l:List Nd):RR->List Int->RR->List Int->Prop
 |ok {r r1 r2:RR} {cs cs1:List Int} {n m:Nat} (h:M7 l n {r with Bq:=J r.Al,pc:=r.pc+1} cs r1 cs1 V) (k:Fl l m {r1 with pc:=r1.pc+1} r2):I2 l r cs r2 cs1
 |CS {r r1:RR} {cs cs1:List Int} {n:Nat} (h:M7 l n {r with Bq:=J r.Al,pc:=r.pc+1} cs r1 cs1 I):I2 l r cs {r1 with Al:=r1.Al.take (J r.Al)} cs
theorem Fl.WK {a b:RR} (h:Fl l n r a) (k:Fl l m r b):a=b/\n=m:=by
 induction h generalizing m with
 |done h=>cases k<;>grind
 |halt h hl=>cases k<;>grind
 |Ao h hx hk=>cases k<;>grind
 |step h hx hk hg _ _ ih=>cases k<;>grind
theorem M7.WK {a b:RR} {x y:Bool} (h:M7 l n r cs a ca x) (k:M7 l m r cs b cb y):a=b/\ca=cb/\x=y:=by
 induction h generalizing m with
 |DU hx hk=>cases k<;>grind
 |CS hx hk _ hs=>cases k<;>grind
 |step hx hk _ hs _ ih=>cases k<;>grind
theorem I2.WK {a b:RR} (h:I2 l r cs a ca) (k:I2 l r cs b cb):a=b/\ca=cb:=by
 cases h with
 |ok h1 h2=>cases k<;>grind [h1.WK,h2.WK]
 |CS h1=>cases k<;>grind [h1.WK]
def Vq (l m:List Nd) (p:Nat):Prop:=∀j x,m[j]?=U x->l[p+j]?=U x
theorem C6 {m:List Nd} {x:Nd} (h:Vq l (x::m) p):l[p]?=U x/\Vq l m (p+1):=
 ⟨h 0 x rfl,λj y hy=>by rw[show p+1+j=p+(j+1) by omega];exact h (j+1) y hy⟩
theorem Wo {a b:List Nd} (h:Vq l (a++b) p):Vq l a p/\Vq l b (p+J a):=
 ⟨λj x hx=>h j x (by rw[JT AC];exact hx),λj x hx=>by
   rw[Js];exact h (J a+j) x (by rw[JL Y,Nat.add_sub_cancel_left];exact hx)⟩
def aW (l:List Nd):KK->Nat->Prop
 |.done,p=>p=J l
 |.rest s k,p=>Vq l (Ca s k.dp p) p/\aW l k (p+Dh s)
 |.loop b s k,p=>∃C4,p=C4+Dh b/\Vq l (Ca b (k.dp+1) C4) C4/\l[p]?=U {Nd.of 98 with CN:=(C4:Nat),Ah:=k.dp}/\Vq l (Ca s k.dp (p+1)) (p+1)/\aW l k (p+1+Dh s)
 |.Ao _ s k,p=>l[p]?=U (Nd.of 41)/\Vq l (Ca s k.dp (p+1)) (p+1)/\aW l k (p+1+Dh s)
def RdK (Dz:List Int) (R:Nat->Int):KK->Prop
 |.done=>True
 |.rest _ k=>RdK Dz R k
 |.loop _ _ k=>Dz.getD k.dp 0=R k.Ah/\RdK Dz R k
 |.Ao _ _ k=>RdK Dz R k
theorem RdK.CA {Dz rnd':List Int} {R R':Nat->Int} {k:KK} (h:RdK Dz R k) (hR:∀d,d<k.Ah->R' d=R d) (hr:∀d,d<k.dp->rnd'.getD d 0=Dz.getD d 0):RdK rnd' R' k:=by
 induction k with
 |done=>trivial
 |rest s k ih=>exact ih h hR λd hd=>hr d (Qk hd)
 |loop b s k ih=>exact⟨by rw[hR k.Ah (JG _),hr k.dp (JG _)];exact h.1,ih h.2 (λd hd=>hR d (Qk hd)) λd hd=>hr d (Qk hd)⟩
 |Ao b s k ih=>exact ih h hR λd hd=>hr d (Qk hd)
structure FI (l:List Nd) (n:Nat) (C:Nat->Int) (B:List Int) (q:KS) (r:RR) (cs:List Int):Prop where
 MP:aW l (.rest q.s q.k) r.pc
 vl:J r.v=4
 v:∀i,i<4->r.v.getD i 0=q.L i
 rl:J r.Dz=3
 Dz:RdK r.Dz q.R q.k
 st:r.An=0
 Al:r.Al=B++q.o
 cl:J cs=n
 cv:∀c,c<n->cs.getD c 0=(q.A5 c).getD (C c)
theorem FI.get (h:FI l n C B q r cs) {a:At} (ha:DP a):r.get a=DW q.L a:=by
 grind [RR.get,DW,DP,FI]
theorem nk {x:Nd} {k:Nat} (hk:x.kind=k) (h:k≠m:=by decide):x.kind≠m:=by rw[hk];exact h
def I1 (l:List Nd) (r:RR) (cs:List Int) (r':RR) (cs':List Int):Prop:=∃x,l[r.pc]?=U x/\x.kind≠40/\x.kind≠41/\(x.kind=103\/x.kind=112->cs≠[])/\r.step x cs=((r',cs'),V)/\r'.Bq=r.Bq/\VO x r (J cs)
theorem ok0:DP ⟨I,0⟩:=by grind [DP]
theorem I1.mk {r':RR} {cs':List Int} {x:Nd} {k:Nat} (hx:l[r.pc]?=U x) (hk:x.kind=k) (hs:r.step x cs=((r',cs'),V)) (hg:k=103\/k=112->cs≠[]) (so:r'.Bq=r.Bq) (sf:VO x r (J cs)) (h1:k≠40:=by decide) (h2:k≠41:=by decide):I1 l r cs r' cs':=
 ⟨x,hx,by rw[hk];exact h1,by rw[hk];exact h2,by rw[hk];exact hg,hs,so,sf⟩
theorem gf {L:Nat->Int} {v:List Int} (x:Int) (hl:J v=4) (hi:i<4) (h:∀j,j<4->v.getD j 0=L j):∀j,j<4->(v.set i x).getD j 0=CA L i x j:=λj hj=>by
 rw[B4 _ _ _ _ _ Y];grind [CA]
section
variable {l:List Nd} {n:Nat} {C:Nat->Int} {B:List Int} {q q':KS} {r:RR} {cs:List Int} {cells:Int} (hw:NP cells q.R (.rest q.s q.k)) (hn:q.k.C7=V->n=cells.toNat) (h:FI l n C B q r cs)
include hw hn h
theorem uW (hs:OY (λc=>U (C c)) q=U q'):FI l n C B q' r cs\/∃r' cs',I1 l r cs r' cs'/\FI l n C B q' r' cs':=by
 obtain⟨s,k,L,R,A5,o⟩:=q;obtain⟨pc,v,Dz,Al,Bq,An⟩:=r;obtain⟨⟨Fi,_⟩,No⟩:=hw;have Z0:∀{a:At},DP a->RR.get ⟨pc,v,Dz,Al,Bq,An⟩ a=DW L a:=λha=>h.get ha
 obtain⟨hp,FK,hv,FQ,Vx,Ay,ho,Cs,VB⟩:=h;dsimp only at Fi No hp FK hv FQ Vx Ay ho VB hn;cases s with
 |nil=>
  obtain⟨_,hp⟩:=hp;rw[show pc+Dh .nil=pc from rfl] at hp;cases k with
  |done=>cases hs
  |Ao b s k=>cases hs
  |rest s k=>
   cases hs;exact .inl ⟨hp,FK,hv,FQ,Vx,Ay,ho,Cs,VB⟩
  |loop b s k=>
   obtain⟨C4,e,h1,h2,h3,h4⟩:=hp;obtain⟨⟨hr1,Lz⟩,_⟩:=No;obtain⟨eD,kb⟩:=Vx;have hlen:k.dp<J Dz:=Y
   have hdp:(0:Int)<=(k.dp:Int)/\(k.dp:Int)<3:=by have:J Dz=3:=FQ;omega
   have mw:∀x,RdK (Dz.set k.dp x) (CA R k.Ah x) k:=λx=>kb.CA (λd hd=>BA _ _ Y) λd hd=>by rw[B4 _ _ _ _ _ hlen,In Y]
   change (if R k.Ah-1=0 then _ else _)=_ at hs;by_cases h0:R k.Ah-1=0
   .rw[Jd h0] at hs;cases hs;refine .inr ⟨⟨pc+1,v,Dz.set k.dp (R k.Ah-1),Al,Bq,An⟩,cs,I1.mk (k:=98) h2 rfl ((o7 rfl (a:=R k.Ah-1) (by show Dz.getD k.dp 0-1=_;rw[eD])).trans ?_) Y rfl ⟨FK,FQ,ok0,.b rfl hdp (by show 1<=Dz.getD k.dp 0/\Dz.getD k.dp 0<=4;rw[eD];exact⟨Y,Y⟩) (JK _)⟩,⟨⟨h3,h4⟩,FK,hv,by show(Dz.set _ _).length=3;rw[Jp];exact FQ,mw _,Ay,ho,Cs,VB⟩⟩;rw[In Y];rfl
   .rw[In h0] at hs;cases hs;refine .inr ⟨⟨C4,v,Dz.set k.dp (R k.Ah-1),Al,Bq,An⟩,cs,I1.mk (k:=98) h2 rfl ((o7 rfl (a:=R k.Ah-1) (by show Dz.getD k.dp 0-1=_;rw[eD])).trans ?_) Y rfl ⟨FK,FQ,ok0,.b rfl hdp (by show 1<=Dz.getD k.dp 0/\Dz.getD k.dp 0<=4;rw[eD];exact⟨Y,Y⟩) (JK _)⟩,⟨⟨h1,by show aW l _ (C4+Dh b);rw[<-e];exact⟨C4,e,h1,h2,h3,h4⟩⟩,FK,hv,by show(Dz.set _ _).length=3;rw[Jp];exact FQ,⟨?_,mw _⟩,Ay,ho,Cs,VB⟩⟩
    .rw[Jd Y];rfl
    .show(Dz.set _ _).getD _ _=CA R k.Ah _ k.Ah;rw[B4 _ _ _ _ _ hlen,Jd rfl,BK]
 |set x op a b t=>
  obtain⟨On,Fe⟩:=hp;obtain⟨h1,h2⟩:=C6 On;obtain⟨hx,I7,ha,hb,_⟩:=Fi;have XI:aW l (.rest t k) (pc+1):=⟨h2,by rw[show pc+1+Dh t=pc+Dh (.set x op a b t) by simp only[Dh];omega];exact Fe⟩;have e1:∀u,((⟨pc+1,v.set x.toNat u,Dz,Al,Bq,An⟩:RR).v).length=4:=λu=>by show(v.set _ _).length=4;rw[Jp];exact FK
  change Option.map _ (if op.size=0 then U (DW L a) else BP op (DW L a) (DW L b))=_ at hs;by_cases hz:op.size=0
  .rw[Jd hz] at hs;cases hs;refine .inr ⟨⟨pc+1,v.set x.toNat (DW L a),Dz,Al,Bq,An⟩,cs,I1.mk (k:=115) h1 rfl (tK rfl hz (Z0 ha)) Y rfl ⟨FK,FQ,ha,.s rfl hx I7 hb⟩,⟨XI,e1 _,gf _ FK Y hv,FQ,Vx,Ay,ho,Cs,VB⟩⟩
  .rw[In hz] at hs;cases hm:BP op (DW L a) (DW L b) with
   |none=>rw[hm] at hs;cases hs
   |some u=>
    rw[hm] at hs;cases hs;refine .inr ⟨⟨pc+1,v.set x.toNat u,Dz,Al,Bq,An⟩,cs,I1.mk (k:=115) h1 rfl (tJ rfl hz (Z0 ha) (Z0 hb) hm) Y rfl ⟨FK,FQ,ha,.s rfl hx I7 hb⟩,⟨XI,e1 _,gf _ FK Y hv,FQ,Vx,Ay,ho,Cs,VB⟩⟩
 |get x f z a t=>
  obtain⟨On,Fe⟩:=hp;obtain⟨h1,h2⟩:=C6 On;obtain⟨hx,hf,ha,hi,_⟩:=Fi;have hn':=hn hi;have XI:aW l (.rest t k) (pc+1):=⟨h2,by rw[show pc+1+Dh t=pc+Dh (.get x f z a t) by simp only[Dh];omega];exact Fe⟩;change (if DW L a<0\/z<=DW L a then Z else _)=_ at hs;split at hs
  .cases hs
  .rename_i hb;have hc:(f+DW L a).toNat<n:=Y
   have hu:((A5 (f+DW L a).toNat).or (U (C (f+DW L a).toNat)))=U (cs.getD (f+DW L a).toNat 0):=by rw[VB _ hc];cases A5 (f+DW L a).toNat<;>rfl
   rw[hu] at hs;cases hs;refine .inr ⟨⟨pc+1,v.set x.toNat (cs.getD (f+DW L a).toNat 0),Dz,Al,Bq,An⟩,cs,I1.mk (k:=103) h1 rfl (AaJ rfl (Z0 ha) hb) (λ_ h0=>by rw[h0] at Cs;have:(0:Nat)=n:=Cs;omega) rfl ⟨FK,FQ,ok0,.g rfl hx ha ⟨hf.1,by show f+z<=(J cs:Int);rw[show J cs=n from Cs];omega⟩⟩,⟨XI,by show(v.set _ _).length=4;rw[Jp];exact FK,gf _ FK Y hv,FQ,Vx,Ay,ho,Cs,VB⟩⟩
 |put f z i a t=>
  obtain⟨On,Fe⟩:=hp;obtain⟨h1,h2⟩:=C6 On;obtain⟨hf,hi0,ha,hi,_⟩:=Fi;have hn':=hn hi;have XI:aW l (.rest t k) (pc+1):=⟨h2,by rw[show pc+1+Dh t=pc+Dh (.put f z i a t) by simp only[Dh];omega];exact Fe⟩;change (if DW L i<0\/z<=DW L i then Z else _)=_ at hs;split at hs
  .cases hs
  .rename_i hb;cases hs;refine .inr ⟨⟨pc+1,v,Dz,Al,Bq,An⟩,cs.set (f+DW L i).toNat (DW L a),I1.mk (k:=112) h1 rfl (AaH rfl (Z0 hi0) (Z0 ha) hb) (λ_ h0=>by rw[h0] at Cs;have:(0:Nat)=n:=Cs;omega) rfl ⟨FK,FQ,ha,.p rfl hi0 ⟨hf.1,by show f+z<=(J cs:Int);rw[show J cs=n from Cs];omega⟩⟩,⟨XI,FK,hv,FQ,Vx,Ay,ho,by rw[Jp];exact Cs,λc hc=>?_⟩⟩;rw[B4 _ _ _ _ _ Y];show _=(Fo A5 _ _ c).getD _;unfold Fo;split
   .rfl
   .exact VB c hc
 |out a t=>
  obtain⟨On,Fe⟩:=hp;obtain⟨h1,h2⟩:=C6 On;obtain⟨ha,_⟩:=Fi;have XI:aW l (.rest t k) (pc+1):=⟨h2,by rw[show pc+1+Dh t=pc+Dh (.out a t) by simp only[Dh];omega];exact Fe⟩;change (if k.C7=V then _ else _)=_ at hs;split at hs
  .cases hs;refine .inr ⟨⟨pc+1,v,Dz,Al++[DW L a],Bq,An⟩,cs,I1.mk (k:=111) h1 rfl (o6 rfl (Z0 ha)) Y rfl ⟨FK,FQ,ha,.o rfl⟩,⟨XI,FK,hv,FQ,Vx,Ay,by show Al++_=_;rw[ho,Jj],Cs,VB⟩⟩
  .cases hs
 |atomic b t=>cases hs
 |Ew a b t=>
  obtain⟨On,Fe⟩:=hp;obtain⟨h1,h2⟩:=C6 On;obtain⟨h3,h4⟩:=Wo h2;rw[CX] at h4;obtain⟨ha,_⟩:=Fi;have XI:aW l (.rest t k) (pc+1+Dh b):=⟨h4,by rw[show pc+1+Dh b+Dh t=pc+Dh (.Ew a b t) by simp only[Dh];omega];exact Fe⟩;change U (if DW L a=0 then _ else _)=_ at hs;refine .inr ⟨⟨if DW L a=0 then pc+1+Dh b else pc+1,v,Dz,Al,Bq,An⟩,cs,I1.mk (k:=122) h1 rfl (AaF rfl (Z0 ha)) Y rfl ⟨FK,FQ,ha,.z rfl (JK _)⟩,?_⟩;split at hs
  .rename_i h0;cases hs;rw[Jd h0];exact⟨XI,FK,hv,FQ,Vx,Ay,ho,Cs,VB⟩
  .rename_i h0;cases hs;rw[In h0];exact⟨⟨h3,XI⟩,FK,hv,FQ,Vx,Ay,ho,Cs,VB⟩
 |loop m b t=>
  obtain⟨On,Fe⟩:=hp;obtain⟨h1,h2⟩:=C6 On;obtain⟨h3,h4⟩:=Wo h2;rw[CX] at h4;obtain⟨h5,h6⟩:=C6 h4;obtain⟨_,hd,_⟩:=Fi;have hlen:k.dp<J Dz:=Y
  have hdp:(0:Int)<=(k.dp:Int)/\(k.dp:Int)<3:=Y
  cases hs;refine .inr ⟨⟨pc+1,v,Dz.set k.dp m,Al,Bq,An⟩,cs,I1.mk (k:=108) h1 rfl (AaI rfl) Y rfl ⟨FK,FQ,ok0,.l rfl hdp⟩,⟨⟨h3,pc+1,rfl,h3,h5,h6,?_⟩,FK,hv,by show(Dz.set _ _).length=3;rw[Jp];exact FQ,⟨by show(Dz.set _ _).getD _ _=_;rw[B4 _ _ _ _ _ hlen,Jd rfl];show _=CA R k.Ah m k.Ah;rw[BK],?_⟩,Ay,ho,Cs,VB⟩⟩
  .rw[show pc+1+Dh b+1+Dh t=pc+Dh (.loop m b t) by simp only[Dh];omega];exact Fe
  .exact Vx.CA (λd hd=>BA _ _ (Qj hd)) λd hd=>by show(Dz.set _ _).getD _ _=_;rw[B4 _ _ _ _ _ hlen,In Y]
theorem AiL {a:At} {t:Bj} (hs:q.s=.out a t):∃r',I1 l r cs r' cs/\FI l n C B (KI q) r' cs:=by
 obtain⟨s,k,L,R,A5,o⟩:=q;obtain⟨pc,v,Dz,Al,Bq,An⟩:=r;obtain⟨⟨Fi,_⟩,No⟩:=hw;have Z0:∀{a:At},DP a->RR.get ⟨pc,v,Dz,Al,Bq,An⟩ a=DW L a:=λha=>h.get ha
 obtain⟨hp,FK,hv,FQ,Vx,Ay,ho,Cs,VB⟩:=h;dsimp only at hs;subst hs;obtain⟨On,Fe⟩:=hp;obtain⟨h1,h2⟩:=C6 On;obtain⟨ha,_⟩:=Fi;have XI:aW l (.rest t k) (pc+1):=⟨h2,by rw[show pc+1+Dh t=pc+Dh (.out a t) by simp only[Dh];omega];exact Fe⟩;refine⟨⟨pc+1,v,Dz,Al++[DW L a],Bq,An⟩,I1.mk (k:=111) h1 rfl (o6 rfl (Z0 ha)) Y rfl ⟨FK,FQ,ha,.o rfl⟩,⟨XI,FK,hv,FQ,Vx,Ay,?_,Cs,VB⟩⟩;show Al++_=B++(o++_);have bU:Al=B++o:=ho;rw[bU,Jj]
theorem uV {t:Int} (ht:Br q=U t):∃x r',l[r.pc]?=U x/\x.kind≠40/\x.kind≠41/\(x.kind=103\/x.kind=112->q.k.C7=V)/\r.step x cs=((r',cs),I)/\r'.An=t/\r'.Al=r.Al/\r'.Bq=r.Bq/\VO x r (J cs):=by
 obtain⟨s,k,L,R,A5,o⟩:=q;obtain⟨pc,v,Dz,Al,Bq,An⟩:=r;obtain⟨⟨Fi,_⟩,No⟩:=hw;have Z0:∀{a:At},DP a->RR.get ⟨pc,v,Dz,Al,Bq,An⟩ a=DW L a:=λha=>h.get ha
 obtain⟨hp,FK,hv,FQ,Vx,Ay,ho,Cs,VB⟩:=h;unfold Br at ht;dsimp only at ht Fi;split at ht
 .rename_i x op a b u;obtain⟨On,Fe⟩:=hp;obtain⟨h1,h2⟩:=C6 On;obtain⟨hx,I7,ha,hb,_⟩:=Fi;split at ht
  .rename_i hc;cases ht;refine⟨_,⟨pc+1,v,Dz,Al,Bq,1⟩,h1,nk (k:=115) rfl,nk (k:=115) rfl,λhx=>hx.elim (λe=>Jk e (nk (k:=115) rfl)) (λe=>Jk e (nk (k:=115) rfl)),tI rfl hc.1 AC AC hc.2,rfl,rfl,rfl,FK,FQ,ha,.s rfl hx I7 hb⟩
  .cases ht
 .rename_i x f z a u;obtain⟨On,Fe⟩:=hp;obtain⟨h1,h2⟩:=C6 On;obtain⟨hx,hf,ha,hi,_⟩:=Fi;split at ht
  .rename_i hc;cases ht;refine⟨_,⟨pc+1,v,Dz,Al,Bq,2⟩,h1,nk (k:=103) rfl,nk (k:=103) rfl,AC,tM rfl AC hc,rfl,rfl,rfl,FK,FQ,ok0,.g rfl hx ha AC⟩
  .cases ht
 .rename_i f z i a u;obtain⟨On,Fe⟩:=hp;obtain⟨h1,h2⟩:=C6 On;obtain⟨hf,hi0,ha,hi,_⟩:=Fi;split at ht
  .rename_i hc;cases ht;refine⟨_,⟨pc+1,v,Dz,Al,Bq,2⟩,h1,nk (k:=112) rfl,nk (k:=112) rfl,AC,tL rfl AC hc,rfl,rfl,rfl,FK,FQ,ha,.p rfl hi0 AC⟩
  .cases ht
 .cases ht
end
section
section
variable {cells:Int} {rd:Nat->Option Int} {q q':KS} (hw:NP cells q.R (.rest q.s q.k))
include hw
theorem ZK (hs:OY rd q=U q'):NP cells q'.R (.rest q'.s q'.k)/\C9 q'<C9 q:=by
 obtain⟨s,k,L,R,A5,o⟩:=q;obtain⟨⟨Fi,Ln⟩,No⟩:=hw;dsimp only at Fi No Ln;cases s with
 |nil=>
  cases k with
  |done=>cases hs
  |Ao b s k=>cases hs
  |rest s k=>cases hs;exact⟨No,by show KC (.rest s k) R<1+0+KC (.rest s k) R;omega⟩
  |loop b s k=>
   obtain⟨⟨⟨hr1,Lz⟩,hd⟩,hb,ht,hk⟩:=No;have hR:∀v d,d<k.Ah->CA R k.Ah v d=R d:=λv d h=>BA _ _ Y
   change (if R k.Ah-1=0 then _ else _)=_ at hs;split at hs
   .rename_i h0;cases hs;refine⟨⟨ht,SA _ _ _ _ (hR _) hk⟩,?_⟩;show 1+AW s+KC k (CA R k.Ah (R k.Ah-1))<1+0+(6+((R k.Ah).toNat-1)*(6+AW b)+AW s+KC k R);rw[Sf k R _ (hR _)];omega
   .rename_i h0;cases hs;refine⟨⟨hb,⟨⟨by grind [BK],by grind [BK]⟩,hd⟩,hb,ht,SA _ _ _ _ (hR _) hk⟩,?_⟩;show 1+AW b+(6+((CA R k.Ah (R k.Ah-1) k.Ah).toNat-1)*(6+AW b)+AW s+KC k (CA R k.Ah (R k.Ah-1)))<1+0+(6+((R k.Ah).toNat-1)*(6+AW b)+AW s+KC k R);rw[BK,Sf k R _ (hR _),show(R k.Ah).toNat-1=((R k.Ah-1).toNat-1)+1 by omega,jC];omega
 |set x op a b t=>
  change Option.map _ _=_ at hs;rw[Ji] at hs;obtain⟨_,_,rfl⟩:=hs;exact⟨⟨⟨Fi.2.2.2.2,Ln⟩,No⟩,by show 1+AW t+KC k R<1+(5+AW t)+KC k R;omega⟩
 |get x f z a t=>
  change (if _ then Z else Option.map _ _)=_ at hs;split at hs
  .cases hs
  rw[Ji] at hs;obtain⟨_,_,rfl⟩:=hs;exact⟨⟨⟨Fi.2.2.2.2,Ln⟩,No⟩,by show 1+AW t+KC k R<1+(60+AW t)+KC k R;omega⟩
 |put f z i a t=>
  change (if _ then Z else _)=_ at hs;split at hs
  .cases hs
  cases hs;exact⟨⟨⟨Fi.2.2.2.2,Ln⟩,No⟩,by show 1+AW t+KC k R<1+(12+AW t)+KC k R;omega⟩
 |out a t=>
  change (if _ then _ else Z)=_ at hs;split at hs
  .cases hs;exact⟨⟨⟨Fi.2,Ln⟩,No⟩,by show 1+AW t+KC k R<1+(6+AW t)+KC k R;omega⟩
  .cases hs
 |atomic b t=>cases hs
 |Ew a b t=>
  change U (if _ then _ else _)=_ at hs;obtain⟨_,hd,hb,ht⟩:=Fi;split at hs
  .cases hs;exact⟨⟨⟨ht,Ln.2⟩,No⟩,by show 1+AW t+KC k R<1+(4+AW b+AW t)+KC k R;omega⟩
  .cases hs;exact⟨⟨⟨hb,Ln.1⟩,⟨ht,Ln.2⟩,No⟩,by show 1+AW b+(1+AW t+KC k R)<1+(4+AW b+AW t)+KC k R;omega⟩
 |loop m b t=>
  obtain⟨hm,hd,hb,ht⟩:=Fi;have hR:∀v d,d<k.Ah->CA R k.Ah v d=R d:=λv d h=>BA _ _ Y
  cases hs;refine⟨⟨⟨hb,Ln.1⟩,⟨⟨by grind [BK],by grind [BK]⟩,hd⟩,⟨hb,Ln.1⟩,⟨ht,Ln.2⟩,SA _ _ _ _ (hR _) No⟩,?_⟩;show 1+AW b+(6+((CA R k.Ah m k.Ah).toNat-1)*(6+AW b)+AW t+KC k (CA R k.Ah m))<1+(2+m.toNat*(6+AW b)+AW t)+KC k R;rw[BK,Sf k R _ (hR _)];obtain⟨j,hj⟩:∃j,m.toNat=j+1:=⟨m.toNat-1,Y⟩<;>grind [Nat.succ_mul]
omit hw in
theorem mf (hs:OY rd q=U q'):J q'.o<=J q.o+1:=by
 grind [OY,Option.map_eq_some_iff]
omit hw in
theorem mh (hs:OY (λc=>U (C c)) q=Z):(q.s=.nil/\(q.k=.done\/∃b s k,q.k=.Ao b s k))\/(∃b t,q.s=.atomic b t)\/(∃t,Br q=U t)\/∃a t,q.s=.out a t/\q.k.C7=I:=by
 obtain⟨s,k,L,R,A5,o⟩:=q;cases s with
 |nil=>
  cases k with
  |done=>grind
  |Ao b s k=>grind
  |rest s k=>cases hs
  |loop b s k=>change (if _ then _ else _)=_ at hs;split at hs<;>cases hs
 |set x op a b t=>
  change Option.map _ (if op.size=0 then _ else _)=_ at hs;rw[Option.map_eq_none_iff] at hs;split at hs
  .cases hs
  .rename_i h0;exact .inr (.inr (.inl ⟨1,by grind [Br]⟩))
 |get x f z a t=>
  change (if DW L a<0\/z<=DW L a then Z else Option.map _ _)=_ at hs;split at hs
  .rename_i h0;exact .inr (.inr (.inl ⟨2,by grind [Br]⟩))
  grind
 |put f z i a t=>
  change (if DW L i<0\/z<=DW L i then Z else _)=_ at hs;split at hs
  .rename_i h0;exact .inr (.inr (.inl ⟨2,by grind [Br]⟩))
  .cases hs
 |out a t=>
  change (if k.C7=V then _ else Z)=_ at hs;grind
 |atomic b t=>grind
 |Ew a b t=>cases hs
 |loop m b t=>cases hs
theorem Abx {a:At} {t:Bj} (hs:q.s=.out a t):NP cells (KI q).R (.rest (KI q).s (KI q).k)/\C9 (KI q)<C9 q/\(KI q).k=q.k:=by
 obtain⟨s,k,L,R,A5,o⟩:=q;dsimp only at hs;subst hs;obtain⟨⟨Fi,Ln⟩,No⟩:=hw;exact⟨⟨⟨Fi.2,Ln⟩,No⟩,by show 1+AW t+KC k R<1+(6+AW t)+KC k R;omega,rfl⟩
end
inductive Ff:KS->KS->Prop
 |nil (q:KS):Ff q q
 |cons {q r u:KS} (h:OY D9 q=U r) (k:Ff r u):Ff q u
 |out {q u:KS} {a:At} {t:Bj} (h:q.s=.out a t) (hi:q.k.C7=I) (k:Ff (KI q) u):Ff q u
theorem Ff.trans {r u:KS} (h:Ff q r) (k:Ff r u):Ff q u:=by
 induction h<;>grind [cons,out]
theorem IC.Afp {r:KS} (h:IC D9 q r):Ff q r:=by
 induction h with
 |nil q=>exact .nil q
 |cons h _ ih=>exact .cons h ih
def IA (q:KS):Prop:=q.s=.nil/\q.k=.done
def Dl (q:KS):Prop:=∃b t,q.s=.atomic b t
theorem Aft {k:KK} (h:k.C7=I):¬∃b s k',k=.Ao b s k':=λ⟨b,s,k',e⟩=>by rw[e] at h;cases h
variable {l:List Nd} {cells:Int}
theorem AhA {a:At} {t:Bj} (h:q.s=.out a t):(KI q).o.length=J q.o+1:=by grind [KI]
theorem Afn (hw:NP cells q.R (.rest q.s q.k)) (hi:q.k.C7=I) (C:Nat->Int):OY (λc=>U (C c)) q=OY D9 q:=by
 obtain⟨s,k,L,R,A5,o⟩:=q;obtain⟨⟨Fi,Ln⟩,No⟩:=hw;cases s with
 |get x f z a t=>exact Jk (Fi.2.2.2.1:k.C7=V) (by rw[show k.C7=I from hi];grind)
 |_=>rfl
theorem AhZ (h:FI l 0 (λ_=>0) B q r []) (hw:NP cells q.R (.rest q.s q.k)) (hi:q.k.C7=I) (hK:J B+J q.o<=60000):
  (Dl q->∃x,l[r.pc]?=U x/\x.kind=40)/\(IA q->l[r.pc]?=Z)/\∀t,Br q=U t->∃r',Fl l 1 r r'/\r'.An=t/\r'.Al=r.Al/\r'.Bq=r.Bq:=by
 refine⟨λ⟨b,t,e⟩=>?_,λ⟨e1,e2⟩=>?_,λt ht=>?_⟩
 .have hp:=h.MP;rw[e] at hp;exact⟨_,(C6 hp.1).1,rfl⟩
 .have hp:=h.MP;rw[e1,e2] at hp;have:r.pc+Dh .nil=J l:=hp.2;grind [Dh]
 .obtain⟨x,r',h1,h2,h3,h4,h5,h6,h7,h8,h9⟩:=uV hw AC h ht;have hg:x.kind≠103/\x.kind≠112:=AC;have ht0:t≠0:=λe=>by rcases Oj ht with e'|e'<;>rw[e'] at e<;>cases e
  refine⟨r',.step h.st h1 h2 hg ⟨h9,by rw[h.Al,GT];exact hK⟩ ?_,h6,h7,h8⟩;rw[h5];exact .done (by rw[h6];exact ht0)
theorem Afe (hk:Ff q q') {B:List Int} {r:RR} (h:FI l 0 (λ_=>0) B q r []) (hw:NP cells q.R (.rest q.s q.k)) (hi:q.k.C7=I) (hK:J B+J q.o+C9 q<=60000):
  ∃r',FI l 0 (λ_=>0) B q' r' []/\NP cells q'.R (.rest q'.s q'.k)/\q'.k.C7=I/\r'.Bq=r.Bq/\(C9 q'<=C9 q/\J q'.o+C9 q'<=J q.o+C9 q)/\∀n u,Fl l n r' u->∃m,Fl l m r u:=by
 induction hk generalizing r with
 |nil q=>grind
 |cons hs _ ih=>
  have iV:=mi (rd:=D9) (rd':=λc=>U ((λ_=>(0:Int)) c)) (λc x h=>by cases h) hs;obtain⟨Fi,BM⟩:=ZK hw hs;have hi1:=(Ly hs).trans hi;have ho:=mf hs;rcases uW hw AC h iV with h1|⟨r1,cs1,⟨x,hx,GZ,MU,rV,Ay,hso,sf⟩,h1⟩;grind
  .have Ns:cs1=[]:=Jn h1.cl;subst Ns;obtain⟨r',a1,a2,a3,a4,a5,a6⟩:=ih h1 Fi hi1 Y;exact nai
 |out hs eC _ ih=>
  obtain⟨Fi,BM,ek⟩:=Abx hw hs;have ho:=AhA hs;obtain⟨r1,⟨x,hx,GZ,MU,rV,Ay,hso,sf⟩,h1⟩:=AiL hw AC h hs;obtain⟨r',a1,a2,a3,a4,a5,a6⟩:=ih h1 Fi (by rw[ek];exact hi) Y;exact nai
theorem Ml:∀(N:Nat) {q:KS},C9 q<=N->NP cells q.R (.rest q.s q.k)->q.k.C7=I->∃q',Ff q q'/\(IA q'\/Dl q'\/∃t,Br q'=U t):=by
 intro N;induction N with
 |zero=>grind [C9,KC]
 |succ N ih=>
  intro q h hw hi;cases hs:OY (λc=>U ((λ_=>(0:Int)) c)) q with
  |none=>
   rcases mh hs with⟨h1,h2|h2⟩|h1|h1|⟨a,t,h1,h2⟩
   .exact⟨q,.nil q,.inl ⟨h1,h2⟩⟩
   grind [Aft]
   .exact⟨q,.nil q,.inr (.inl h1)⟩
   .exact⟨q,.nil q,AC⟩
   .obtain⟨Fi,BM,ek⟩:=Abx hw h1;obtain⟨q',k,e⟩:=ih (q:=KI q) Y Fi (by rw[ek];exact hi);exact⟨q',.out h1 h2 k,e⟩
  |some q1=>
   obtain⟨Fi,BM⟩:=ZK hw hs;obtain⟨q',k,e⟩:=ih (q:=q1) Y Fi ((Ly hs).trans hi);exact⟨q',.cons (by rw[<-Afn hw hi (λ_=>0)];exact hs) k,e⟩
end
section
variable {l:List Nd} {cells:Int} {n:Nat} {C:Nat->Int} {B:List Int}
abbrev rdC (C:Nat->Int):Nat->Option Int:=λc=>U (C c)
theorem Acx (hn:n=cells.toNat) {q q':KS} (hk:IC (rdC C) q q') {r:RR} {cs:List Int} (h:FI l n C B q r cs) (hw:NP cells q.R (.rest q.s q.k)) (hK:J B+J q.o+C9 q<=60000):
  ∃r' cs',FI l n C B q' r' cs'/\NP cells q'.R (.rest q'.s q'.k)/\r'.Bq=r.Bq/\(C9 q'<=C9 q/\J q'.o+C9 q'<=J q.o+C9 q)/\∀k u cu b,M7 l k r' cs' u cu b->∃m,M7 l m r cs u cu b:=by
 induction hk generalizing r cs with
 |nil q=>grind
 |cons hs _ ih=>
  obtain⟨Fi,BM⟩:=ZK hw hs;have ho:=mf hs;rcases uW hw AC h hs with h1|⟨r1,cs1,⟨x,hx,GZ,MU,rV,Ay,hso,sf⟩,h1⟩;grind
  .obtain⟨r',cs',a1,a2,a3,a4,a5⟩:=ih h1 Fi Y;refine⟨r',cs',a1,a2,AC,Y,λk u cu b a=>?_⟩;obtain⟨m,k'⟩:=a5 k u cu b a;exact⟨m+1,.step hx MU ⟨sf,by rw[h.Al,GT];omega⟩ Ay k'⟩
theorem Ah7:∀(N:Nat) {q:KS},C9 q<=N->NP cells q.R (.rest q.s q.k)->q.k.C7=V->∃q',IC (rdC C) q q'/\((q'.s=.nil/\∃b s k,q'.k=.Ao b s k)\/∃t,Br q'=U t):=by
 intro N;induction N with
 |zero=>grind [C9,KC]
 |succ N ih=>
  intro q h hw hi;cases hs:OY (rdC C) q with
  |none=>
   rcases mh hs with⟨h1,h2|h2⟩|⟨b,t,h1⟩|h1|⟨a,t,h1,h2⟩
   .rw[h2] at hi;cases hi
   .exact⟨q,.nil q,AC⟩
   .rw[h1] at hw;have:=hw.1.1.1;rw[hi] at this;cases this
   .exact⟨q,.nil q,.inr h1⟩
   grind
  |some q1=>
   obtain⟨Fi,BM⟩:=ZK hw hs;obtain⟨q',k,e⟩:=ih (q:=q1) Y Fi ((Ly hs).trans hi);exact⟨q',.cons hs k,e⟩
theorem Gn (h:q.s=.atomic b s):Cw q=⟨b,.Ao b s q.k,q.L,q.R,D9,[]⟩:=by unfold Cw;rw[h]
theorem GC (h:q.s=.atomic b s):BR q q2=⟨s,q.k,q2.L,q2.R,D9,[]⟩:=by unfold BR;rw[h]
theorem kO (hb:Dl q):(Cw q).o.length=0:=by obtain⟨b,s,e⟩:=hb;rw[Gn e];rfl
theorem UN (hb:Dl q) (hi:q.k.C7=I) (hw:NP cells q.R (.rest q.s q.k)):NP cells (Cw q).R (.rest (Cw q).s (Cw q).k)/\(Cw q).k.C7=V/\C9 (Cw q)<C9 q:=by
 obtain⟨b,s,e⟩:=hb;rw[Gn e];unfold C9;rw[e] at hw⊢;obtain⟨⟨h1,h2⟩,h3⟩:=hw;exact⟨⟨⟨h1.2.2.1,h2.1.1⟩,⟨hi,h1.2.1⟩,⟨h1.2.2.1,h2.1.1,h2.1.2⟩,⟨by rw[<-hi];exact h1.2.2.2,h2.2⟩,h3⟩,rfl,by grind [AW,KC]⟩
theorem ng (hb:Dl q) {r:RR} (h:FI l 0 (λ_=>0) B q r []) {cs:List Int} (hl:J cs=n) (hc:∀c,c<n->cs.getD c 0=C c):
  FI l n C r.Al (Cw q) {r with Bq:=J r.Al,pc:=r.pc+1} cs:=by
 obtain⟨b,s,e⟩:=hb;have hp:=h.MP;rw[e] at hp;obtain⟨On,Fe⟩:=hp;obtain⟨h1,h2⟩:=C6 On;obtain⟨h3,h4⟩:=Wo h2;rw[CX] at h4;obtain⟨h5,h6⟩:=C6 h4;rw[Gn e];refine⟨⟨h3,h5,h6,?_⟩,h.vl,h.v,h.rl,h.Dz,h.st,(Jr _).symm,hl,hc⟩<;>grind [Dh]
theorem Adk (e:q.s=.atomic b s) (hk:q2.k=.Ao b s q.k) (hs:q2.s=.nil) {r:RR} {cs:List Int} (h:FI l n C B q2 r cs):
  (∃x,l[r.pc]?=U x/\x.kind=41)/\FI l 0 (λ_=>0) r.Al (BR q q2) {r with pc:=r.pc+1} []:=by
 obtain⟨hp,FK,hv,FQ,Vx,Ay,ho,Cs,VB⟩:=h;rw[hk,hs] at hp;rw[hk] at Vx;obtain⟨_,hp⟩:=hp;rw[show r.pc+Dh .nil=r.pc from rfl] at hp;obtain⟨h1,h2,h3⟩:=hp;rw[GC e];exact⟨⟨_,h1,rfl⟩,⟨h2,h3⟩,FK,hv,FQ,Vx,Ay,AC,rfl,AC⟩
def ud (A5:Nat->Option Int) (C:Nat->Int):Nat->Int:=λc=>(A5 c).getD (C c)
theorem aR (e:q.s=.atomic b s) (hk:q2.k=.Ao b s q.k) (hw:NP cells q2.R (.rest q2.s q2.k)) (hi:q.k.C7=I):NP cells (BR q q2).R (.rest (BR q q2).s (BR q q2).k)/\(BR q q2).k.C7=I/\C9 (BR q q2)<C9 q2:=by
 rw[GC e];unfold C9;rw[hk] at hw⊢;obtain⟨h1,h2,h3,h4,h5⟩:=hw;exact⟨⟨AC,h5⟩,hi,by grind [KC]⟩
theorem vf (hn:n=cells.toNat) {q q2:KS} (hb:Dl q) (hi:q.k.C7=I) (hw:NP cells q.R (.rest q.s q.k)) {r:RR} (h:FI l 0 (λ_=>0) B q r []) {cs:List Int} (hl:J cs=n) (hc:∀c,c<n->cs.getD c 0=C c) (hK:J r.Al+C9 q<=60000)
  (hk:IC (rdC C) (Cw q) q2) (hs:q2.s=.nil) (hsk:∃b s k,q2.k=.Ao b s k):∃r2 cs',FI l 0 (λ_=>0) (r.Al++q2.o) (BR q q2) r2 []/\NP cells (BR q q2).R (.rest (BR q q2).s (BR q q2).k)/\(BR q q2).k.C7=I/\(C9 (BR q q2)<C9 q/\(r.Al++q2.o).length+(BR q q2).o.length+C9 (BR q q2)<=J r.Al+C9 q)/\
   r2.Al=r.Al++q2.o/\r2.Bq=J r.Al/\J cs'=n/\(∀c,c<n->cs'.getD c 0=ud q2.A5 C c)/\∀m u,Fl l m r2 u->I2 l r cs u cs':=by
 obtain⟨w1,w2,w3⟩:=UN hb hi hw;have ho:=kO hb;obtain⟨r1,cs1,a1,a2,a3,a4,a5⟩:=Acx hn hk (ng hb h hl hc) w1 Y;obtain⟨b,s,e⟩:=hb;have MU:q2.k=.Ao b s q.k:=by
  obtain⟨b',s',k',e'⟩:=hsk;have h1:(Cw q).k.OC=U (b,s,q.k):=by rw[Gn e];rfl
  have h2:=(hk.Ao h1).1;rw[e'] at h2;cases h2;exact e'
 obtain⟨⟨x,hx,hx2⟩,h3⟩:=Adk e MU hs a1;obtain⟨w4,w5,w6⟩:=aR e MU a2 hi;refine⟨{r1 with pc:=r1.pc+1},cs1,by rw[<-a1.Al];exact h3,w4,w5,⟨Y,by rw[GT,GC e];rw[GC e] at w6;grind⟩,a1.Al,a3,a1.cl,a1.cv,λm u k=>?_⟩;obtain⟨m',k'⟩:=a5 0 r1 cs1 V (.DU hx hx2);exact .ok k' k
theorem nJ (hn:n=cells.toNat) {q q2:KS} (hb:Dl q) (hi:q.k.C7=I) (hw:NP cells q.R (.rest q.s q.k)) {r:RR} (h:FI l 0 (λ_=>0) B q r []) {cs:List Int} (hl:J cs=n) (hc:∀c,c<n->cs.getD c 0=C c) (hK:J r.Al+C9 q<=60000)
  (hk:IC (rdC C) (Cw q) q2) {t:Int} (ht:Br q2=U t):∃u,I2 l r cs u cs/\u.An=t/\u.Al=r.Al/\u.Bq=J r.Al:=by
 obtain⟨w1,w2,w3⟩:=UN hb hi hw;have ho:=kO hb;obtain⟨r1,cs1,a1,a2,a3,a4,a5⟩:=Acx hn hk (ng hb h hl hc) w1 Y;obtain⟨x,r',b1,b2,b3,b4,b5,b6,b7,b8,b9⟩:=uV a2 AC a1 ht;obtain⟨m',k'⟩:=a5 0 r' cs1 I (.CS b1 b3 ⟨b9,by rw[a1.Al,GT];omega⟩ b5);refine⟨_,.CS k',b6,?_,AC⟩;show r'.Al.take _=_;rw[b7,a1.Al,jB]
structure At0 (l:List Nd) (cells:Int) (q:KS) (r:RR):Prop where
 AN:Dl q/\FI l 0 (λ_=>0) (r.Al.take (J r.Al-J q.o)) q r []/\NP cells q.R (.rest q.s q.k)/\q.k.C7=I
 big:J r.Al+C9 q<=60000
def Thr (l:List Nd) (cells:Int) (q:KS) (r:RR):Prop:=(r.An≠0\/At0 l cells q r)/\J r.Al<=60000
theorem AfS (h:FI l 0 (λ_=>0) B q r []):FI l 0 (λ_=>0) (r.Al.take (J r.Al-J q.o)) q r []:=by
 refine⟨h.MP,h.vl,h.v,h.rl,h.Dz,h.st,?_,h.cl,h.cv⟩;have:=h.Al;rw[this,GT,f8,jB]
theorem Ym (hk:Ff q q') {r:RR} (h:FI l 0 (λ_=>0) B q r []) (hw:NP cells q.R (.rest q.s q.k)) (hi:q.k.C7=I) (he:IA q'\/Dl q'\/∃t,Br q'=U t) (hK:J B+J q.o+C9 q<=60000):
  ∃m u,Fl l m r u/\u.Al=B++q'.o/\u.Bq=r.Bq/\(IA q'->u.An=10)/\(∀t,Br q'=U t->u.An=t)/\(Dl q'->At0 l cells q' u/\C9 q'<=C9 q)/\J u.Al<=60000:=by
 obtain⟨r',a1,a2,a3,a4,a5,a6⟩:=Afe hk h hw hi hK;obtain⟨b1,b2,b3⟩:=AhZ a1 a2 a3 Y;have hB:(B++q'.o).length+C9 q'<=60000:=by rw[GT];omega
 rcases he with he|he|⟨t,he⟩
 .obtain⟨m,k⟩:=a6 0 _ (.halt a1.st (b2 he));refine⟨m,_,k,a1.Al,a4,λ_=>rfl,λt ht=>?_,λ⟨b,s,e⟩=>?_,by show J r'.Al<=_;rw[a1.Al];omega⟩
  .unfold Br at ht;rw[he.1] at ht;cases ht
  .rw[he.1] at e;cases e
 .obtain⟨x,hx,hx2⟩:=b1 he;obtain⟨m,k⟩:=a6 0 _ (.Ao a1.st hx hx2);refine⟨m,_,k,a1.Al,a4,λh0=>?_,λt ht=>?_,λ_=>⟨⟨⟨he,AfS a1,a2,a3⟩,by rw[a1.Al];exact hB⟩,a5.1⟩,by rw[a1.Al];omega⟩
  .obtain⟨b,s,e⟩:=he;rw[h0.1] at e;cases e
  .obtain⟨b,s,e⟩:=he;unfold Br at ht;rw[e] at ht;cases ht
 .obtain⟨u,h1,h2,h3,h4⟩:=b3 t he;obtain⟨m,k⟩:=a6 _ _ h1;refine⟨m,_,k,h3.trans a1.Al,AC,λh0=>?_,λt' ht=>?_,λ⟨b,s,e⟩=>?_,by rw[h3,a1.Al];omega⟩
  .unfold Br at he;rw[h0.1] at he;cases he
  .rw[he] at ht;cases ht;exact h2
  grind [Br]
theorem Ai2 (hn:n=cells.toNat) {q:KS} {r:RR} (h:At0 l cells q r) {cs:List Int} (hl:J cs=n):∃u cs' q',I2 l r cs u cs'/\J cs'=n/\Thr l cells q' u/\C9 q'<C9 q:=by
 obtain⟨⟨hb,hf,hw,hi⟩,hK⟩:=h;obtain⟨w1,w2,w3⟩:=UN hb hi hw;obtain⟨q2,hk,he⟩:=Ah7 (C:=λc=>cs.getD c 0) (C9 (Cw q)) AC w1 w2;rcases he with⟨h1,h2⟩|⟨t,ht⟩
 .obtain⟨r2,cs',a1,a2,a3,a4,a5,a6,a7,a8,a9⟩:=vf hn hb hi hw hf hl AC hK hk h1 h2;obtain⟨q3,k3,e3⟩:=Ml (C9 (BR q q2)) AC a2 a3;obtain⟨m,u,b1,b2,b3,b4,b5,b6,b7⟩:=Ym k3 a1 a2 a3 e3 Y;rcases e3 with e3|e3|⟨t,e3⟩
  .exact⟨u,cs',BR q q2,AC,a7,⟨AC,b7⟩,a4.1⟩
  .exact⟨u,cs',q3,AC,a7,⟨AC,b7⟩,AC⟩
  .exact⟨u,cs',BR q q2,AC,a7,⟨.inl (by rw[b5 t e3];intro e0;rcases Oj e3 with e'|e'<;>rw[e'] at e0<;>cases e0),b7⟩,a4.1⟩
 .obtain⟨u,k,e1,e2,_⟩:=nJ hn hb hi hw hf hl AC hK hk ht;exact⟨u,cs,Cw q,k,hl,⟨.inl (by rw[e1];intro e0;rcases Oj ht with e'|e'<;>rw[e'] at e0<;>cases e0),by rw[e2];omega⟩,w3⟩
theorem cY (hK:AW s<=54780):([]:List Int).length+(⟨s,.done,λ_=>0,λ_=>0,D9,[]⟩:KS).o.length+C9 ⟨s,.done,λ_=>0,λ_=>0,D9,[]⟩<=60000:=by show 0+0+(1+AW s+1)<=_;omega
theorem AdL (hw:WF cells s 0 I/\AB s) (hK:AW s<=54780):∃m u q',Fl (Ca s 0 0) m .start u/\Thr (Ca s 0 0) cells q' u/\C9 q'<=C9 ⟨s,.done,λ_=>0,λ_=>0,D9,[]⟩:=by
 have h0:FI (Ca s 0 0) 0 (λ_=>0) [] ⟨s,.done,λ_=>0,λ_=>0,D9,[]⟩ .start []:=
  ⟨⟨λj x hx=>by show(Ca s 0 0)[0+j]?=_;rw[JU];exact hx,by show 0+Dh s=_;rw[CX,JU]⟩,rfl,λi hi=>by match i,hi with|0,_=>rfl|1,_=>rfl|2,_=>rfl|3,_=>rfl,rfl,trivial,rfl,rfl,rfl,AC⟩
 have w0:NP cells (λ_=>0) (.rest s .done):=⟨hw,trivial⟩;obtain⟨q3,k3,e3⟩:=Ml (cells:=cells) (q:=⟨s,.done,λ_=>0,λ_=>0,D9,[]⟩) _ (Jf _) w0 rfl;obtain⟨m,u,b1,b2,b3,b4,b5,b6,b7⟩:=Ym k3 h0 w0 rfl e3 (cY hK);rcases e3 with e3|e3|⟨t,e3⟩
 .exact⟨m,u,_,b1,⟨AC,b7⟩,Jf _⟩
 .exact⟨m,u,q3,b1,⟨AC,b7⟩,AC⟩
 .exact⟨m,u,_,b1,⟨.inl (by rw[b5 t e3];intro e0;rcases Oj e3 with e'|e'<;>rw[e'] at e0<;>cases e0),b7⟩,Jf _⟩
end
structure Ev where
 t:Nat
 τ:Nat
 q:KS
 q2:KS
 rd:Nat->Option Int
 k:Int
 w:Option Int
variable {E E':List Ev}
def Ev.wr (e:Ev) (c:Nat) (w:Int):Prop:=e.w=U w/\(e.q2.A5 c).isSome=V
def tn (E:List Ev) (c:Nat) (k v:Int):Prop:=
 (∃e,e∈E/\∃w,e.w=U w/\e.q2.A5 c=U v/\w<=k/\∀e',e'∈E->∀w',e'.wr c w'->w'<=k->w'<=w)\/(v=0/\∀e,e∈E->∀w,e.wr c w->k<w)
def En (E:List Ev) (c:Nat) (v w:Int):Prop:=
 (∃e,e∈E/\e.w=U w/\e.q2.A5 c=U v/\∀e',e'∈E->∀w',e'.wr c w'->w'<=w)\/(v=0/\w=0/\∀e,e∈E->∀w,¬e.wr c w)
def iM (E:List Ev):Prop:=∀e e',e∈E->e'∈E->∀w,e.w=U w->e'.w=U w->e=e'
theorem tn.fP {k:Int} (hu:iM E) (h:tn E c k v) (h':tn E c k v'):v=v':=by
 rcases h with⟨e,he,w,hw,hm,hk,hl⟩|⟨hv,hl⟩
 .rcases h' with⟨e',BG,w',K7,eA,LS,rU⟩|⟨Xu,rU⟩
  .have h1:=hl e' BG w' ⟨K7,by rw[eA];rfl⟩ LS;have h2:=rU e he w ⟨hw,by rw[hm];rfl⟩ hk;have e1:w=w':=Y
   subst e1;have:=hu e e' he BG w hw K7;grind
  .have:=rU e he w ⟨hw,by rw[hm];rfl⟩;omega
 .rcases h' with⟨e',BG,w',K7,eA,LS,rU⟩|⟨Xu,rU⟩
  .have:=hl e' BG w' ⟨K7,by rw[eA];rfl⟩;omega
  grind
theorem En.fP {w':Int} (hu:iM E) (h:En E c v w) (h':En E c v' w'):v=v'/\w=w':=by
 rcases h with⟨e,he,hw,hm,hl⟩|⟨hv,hw,hl⟩
 .rcases h' with⟨e',BG,K7,eA,rU⟩|⟨Xu,K7,rU⟩
  .have a1:=hl e' BG w' ⟨K7,by rw[eA];rfl⟩;have a2:=rU e he w ⟨hw,by rw[hm];rfl⟩;have e1:w=w':=Y
   subst e1;have:=hu e e' he BG w hw K7;grind
  .exact Jk ⟨hw,by rw[hm];rfl⟩ (rU e he w)
 .rcases h' with⟨e',BG,K7,eA,rU⟩|⟨Xu,K7,rU⟩
  .exact Jk ⟨K7,by rw[eA];rfl⟩ (hl e' BG w')
  grind
theorem En.isV {k:Int} (h:En E c v w) (hk:w<=k):tn E c k v:=by
 rcases h with⟨e,he,hw,hm,hl⟩|⟨hv,hw,hl⟩
 .exact .inl ⟨e,he,w,hw,hm,hk,AC⟩
 .exact .inr AC
theorem tn.cons {k:Int} (h:tn E c k v) {e0:Ev} (hn:∀w,e0.wr c w->k<w):tn (e0::E) c k v:=by
 rcases h with⟨e,he,w,hw,hm,hwk,hl⟩|⟨hv,hl⟩
 .refine .inl ⟨e,.tail _ he,w,hw,hm,hwk,λe' BG w' K7 LS=>?_⟩<;>grind
 .refine .inr ⟨hv,λe' BG w' K7=>?_⟩<;>grind
theorem En.cons (h:En E c v w) {e0:Ev} (hn:∀w,¬e0.wr c w):En (e0::E) c v w:=by
 rcases h with⟨e,he,hw,hm,hl⟩|⟨hv,hw,hl⟩
 .refine .inl ⟨e,.tail _ he,hw,hm,λe' BG w' K7=>?_⟩<;>grind
 .refine .inr ⟨hv,hw,λe' BG w' K7=>?_⟩<;>grind
theorem En.Ahz {v0 w0:Int} (h:En E c v w) {e0:Ev} (hw:e0.w=U w0) (hm:e0.q2.A5 c=U v0) (hl:w<=w0):En (e0::E) c v0 w0:=by
 refine .inl ⟨e0,.head _,hw,hm,λe' BG w' K7=>?_⟩;cases BG with
 |head=>have e1:=K7.1;rw[hw] at e1;grind
 |tail _ BG=>
  rcases h with⟨e,he,h1,h2,h3⟩|⟨h1,h2,h3⟩;grind [h3 e' BG w' K7];grind [h3 e' BG w']
theorem En.le (h:En E c v w):∀e,e∈E->∀w',e.wr c w'->w'<=w:=λe he w' K7=>by
 rcases h with⟨_,_,_,_,h3⟩|⟨_,_,h3⟩<;>grind
def DOk (n:Nat) (Z95:List (Nat×Int)):Prop:=
 (∀pre c u post,c<n->Z95=pre++(8+c,u)::post->∀x,(c,x)∉post)/\∀c x,c<n->(c,x)∈Z95->∃u,(8+c,u)∈Z95
theorem DOk.nil (n:Nat):DOk n []:=⟨λpre c u post _ h=>(by cases pre<;>cases h),AC⟩
theorem DOk.tail {p:Nat×Int} {Z95:List (Nat×Int)} (h:DOk n (p::Z95)):DOk n Z95:=by
 refine⟨λpre c u post hc e=>h.1 (p::pre) c u post hc (by rw[e];rfl),λc x hc hx=>?_⟩;obtain⟨u,hu⟩:=h.2 c x hc (.tail _ hx);cases hu with
 |head=>exact Jk hx (h.1 [] c u Z95 hc rfl x)
 |tail _ hu=>exact⟨u,hu⟩
theorem Ya (p:Nat×Int) (Z95:List (Nat×Int)) (v:Int) (a:Nat):vw (p::Z95) v a=vw Z95 (if p.1=a then p.2 else v) a:=rfl
structure MV (T n:Nat) (sm:Nat->Int) (H:Nat->Nat->Option Int) (Z95:Nat->List (Nat×Int)) (E:List Ev):Prop where
 free:∀c,c<n->(∀t,t<T->H t c=Z/\∀v,(8+c,v)∉Z95 t)->∃v w,En E c v w/\sm (8+c)=2*w/\sm c=v
 B6:∀t c lv,t<T->c<n->H t c=U lv->∃v w,En E c v w/\lv=2*w/\sm c=v
 todo:∀t c u,t<T->c<n->(8+c,u)∈Z95 t->∃v w,En E c v w/\u=2*w/\vw (Z95 t) (sm c) c=v
 dok:∀t,t<T->DOk n (Z95 t)
section
variable {T n:Nat} {sm:Nat->Int} {N:Int} {H:Nat->Nat->Option Int} {Z95:Nat->List (Nat×Int)} {E:List Ev} (hl:LK T n sm N H Z95) (h:MV T n sm H Z95 E) (h6:n<=6)
include hl h h6
omit h6 in
theorem MV.Ck {t:Nat} {u:Int} {r:List (Nat×Int)} (ht:t<T) (hd:Z95 t=(a,u)::r):MV T n (CA sm a u) H (A7 Z95 t r) E:=by
 have NJ:(a,u)∈Z95 t:=by rw[hd];grind
 have hdk:=h.dok t ht;have bS:∀t' p,p∈A7 Z95 t r t'->p∈Z95 t':=λt' p hp=>by
  grind [A7]
 have GY:∀c,c<n->a=c->∃u',(8+c,u')∈Z95 t:=λc hc e=>hdk.2 c u hc (by rw[<-e];exact NJ)
 refine⟨λc hc hx=>?_,λt' c lv IJ hc hH=>?_,λt' c u' IJ hc hu=>?_,λt' IJ=>?_⟩
 .by_cases ha:a=8+c
  .subst ha;obtain⟨v,w,h1,h2,h3⟩:=h.todo t c u ht hc NJ;rw[hd] at h3 hdk;rw[Ya,In AC,FM (hdk.1 [] c u r hc rfl)] at h3;grind [BK,BA]
  .have ho:∀t',t' < T->H t' c=Z/\∀v,(8+c,v)∉Z95 t':=λt' IJ=>⟨AC,λv hv=>by
      grind [Au,Ba]⟩
   grind [BA,MV]
 grind [BA,LK,MV];grind [Ya,Au,CA,Ba,LK,MV]
 .by_cases he:t'=t
  .subst he;rw[Au];rw[hd] at hdk;exact hdk.tail
  grind [Ba,MV]
theorem LK.Ah4 (hc:c<n) (he:sm (8+c)=2*w):∀t,t<T->H t c=Z/\∀v,(8+c,v)∉Z95 t:=λt ht=>by
 have:=h;constructor
 .cases hH:H t c<;>grind [LK]
 grind [LK]
theorem MV.Wm {t:Nat} {lv:Int} (ht:t<T) (hc:c<n) (he:sm (8+c)=lv) (hw:∃w,lv=2*w/\0<=w/\w<=N):MV T n (CA sm (8+c) (lv+1)) (A7 H t (Fo (H t) c lv)) Z95 E:=by
 obtain⟨w0,hw0,_⟩:=hw;have Xy:=hl.Ah4 h h6 hc (by rw[he];exact hw0);have hs:∀d,d<n->CA sm (8+c) (lv+1) d=sm d:=λd hd=>BA _ _ Y
 have hH:∀t' d,(t'≠t\/d≠c)->A7 H t (Fo (H t) c lv) t' d=H t' d:=λt' d hd=>by
  unfold A7 Fo;by_cases h1:t'=t
  .rw[Jd h1];grind
  grind
 have hHt:A7 H t (Fo (H t) c lv) t c=U lv:=by rw[Au];unfold Fo;rw[Jd rfl]
 refine⟨λd hd hx=>?_,λt' d lv' IJ hd hv=>?_,λt' d u IJ hd hu=>?_,h.dok⟩
 .by_cases hdc:d=c;grind
  .obtain⟨v,w,h1,h2,h3⟩:=h.free d hd λt' IJ=>⟨by rw[<-hH t' d (.inr hdc)];exact(hx t' IJ).1,(hx t' IJ).2⟩<;>grind [BA]
 grind [MV];grind [MV]
omit h6 in
theorem MV.Ak8 {t:Nat} {l:List (Nat×Int)} (ht:t<T) (hD:(∃c,c<n/\(H t c).isSome=V)\/l≠[]->Z95 t=[]) (hdk:DOk n l)
  (GY:∀c u,c<n->(8+c,u)∈l->(H t c).isSome=V) (hH:∀c lv v w,c<n->H t c=U lv->lv=2*w->En E c v w->∃v' w',En E' c v' w'/\(8+c,2*w')∈l/\(∀u,(8+c,u)∈l->u=2*w')/\vw l v c=v')
  (hE:∀c v w,c<n->H t c=Z->En E c v w->En E' c v w):MV T n sm (A7 H t D9) (A7 Z95 t (Z95 t++l)) E':=by
 have ZV:∀{t' c:Nat},t'≠t->t'<T->c<n->((H t' c).isSome=V\/∃v,(8+c,v)∈Z95 t')->H t c=Z:=λ{t' c} hne IJ hc hx=>by
  cases hHc:H t c<;>grind [LK]
 refine⟨λc hc hx=>?_,λt' c lv IJ hc hv=>?_,λt' c u IJ hc hu=>?_,λt' IJ=>?_⟩
 .have hHt:H t c=Z:=by
   cases hHc:H t c<;>grind [Au,MV]
  obtain⟨v,w,h1,h2,h3⟩:=h.free c hc λt' IJ=>by
   by_cases he:t'=t;grind [Au]
   .have:=hx t' IJ;rw[Ba _ _ he,Ba _ _ he] at this;exact this
  grind
 .by_cases he:t'=t
  .subst he;rw[Au] at hv;cases hv
  .rw[Ba _ _ he] at hv;grind [MV]
 .by_cases he:t'=t
  .subst he;rw[Au] at hu⊢;rcases Jq.1 hu with hu|hu
   .have Xw:l=[]:=AC;have hHt:H t' c=Z:=by
     cases hHc:H t' c<;>grind [MV]
    grind [MV]
   .have hs:=GY c u hc hu;obtain⟨lv,hlv⟩:=JE.1 hs;obtain⟨v,w,h1,h2,h3⟩:=h.B6 t' c lv IJ hc hlv;obtain⟨v',w',h4,h5,h6,h7⟩:=hH c lv v w hc hlv h2 h1;exact⟨v',w',h4,h6 u hu,by rw[hD (.inl ⟨c,hc,hs⟩),JF,h3];exact h7⟩
  grind [Ba,MV]
 .by_cases he:t'=t
  .subst he;rw[Au];by_cases Xw:l=[]<;>grind [MV]
  grind [Ba,MV]
end
theorem MV.mono (h:MV T n sm H Z95 E) (hE:∀c v w,c<n->En E c v w->En E' c v w):MV T n sm H Z95 E':=
 ⟨λc hc hx=>(let ⟨v,w,h1,h2⟩:=h.free c hc hx;⟨v,w,AC,h2⟩),λt c lv ht hc hv=>(let ⟨v,w,h1,h2⟩:=h.B6 t c lv ht hc hv;⟨v,w,AC,h2⟩),λt c u ht hc hu=>(let ⟨v,w,h1,h2⟩:=h.todo t c u ht hc hu;⟨v,w,AC,h2⟩),h.dok⟩
theorem MV.Po {sm':Nat->Int} (h:MV T n sm H Z95 E) (hs:∀a,a≠16->sm' a=sm a) (h6:n<=6):MV T n sm' H Z95 E:=
 ⟨λc hc hx=>by rw[hs _ Y,hs _ Y];exact h.free c hc hx,λt c lv ht hc hv=>by rw[hs _ Y];grind [MV],λt c u ht hc hu=>by rw[hs _ Y];grind [MV],h.dok⟩
theorem oI (A B:List (Nat×Int)) (v:Int) (a:Nat):vw (A++B) v a=vw B (vw A v a) a:=by unfold vw;rw[QE]
theorem Ahb (hf:∀d p,f d=U p->p.1=d) {n c:Nat} {x:Int} (hc:c<n) (hx:f c=U (c,x)) (v:Int):∀k,k<=c->vw (KD f n k) v c=x:=by
 have AnQ:∀m k v,n-k=m->c<k->vw (KD f n k) v c=v:=λm k v _ hk=>FM λu hu=>by
  grind [CY]
 intro k hk;induction hm:c-k generalizing k v with
 |zero=>
  grind [KD,Ya]
 |succ m ih=>
  rw[GX f Y,oI];grind
theorem uq {g:Nat->Option (Nat×Int)} (h6:n<=6) (hf:∀d p,f d=U p->p.1=d) (hg:∀d p,g d=U p->p.1=8+d) (hfg:∀d,d<n->(f d).isSome=V->(g d).isSome=V):DOk n (KD f n 0++KD g n 0):=by
 refine⟨λpre c u post hc e x hx=>?_,λc x hc hx=>?_⟩
 .rcases List.append_eq_append_iff.1 e with⟨m,h1,h2⟩|⟨m,h1,h2⟩
  .have:(c,x)∈KD g n 0:=by rw[h2];grind
   grind [CY]
  .cases m with
   |nil=>
    have:(c,x)∈KD g n 0:=by rw[<-JF (KD g n 0),<-h2];grind
    grind [CY]
   |cons p m=>
    have e1:(8+c,u)=p:=AC
    have:(8+c,u)∈KD f n 0:=by rw[h1,e1];grind
    grind [CY]
 grind [CY,Option.isSome_iff_exists]
theorem WQ (g:Gt) (d:Nat) (p:Nat×Int) (h:EO g d=U p):p.1=d:=by
 grind [EO,Option.map_eq_some_iff]
theorem Wl (g:Gt) (d:Nat) (p:Nat×Int) (h:D1 g d=U p):p.1=8+d:=by
 grind [D1]
theorem WS (g:Gt) (d:Nat) (p:Nat×Int) (h:Fc g d=U p):p.1=8+d:=by
 grind [Fc,Option.map_eq_some_iff]
section
variable {T n:Nat} {sm:Nat->Int} {N:Int} {H:Nat->Nat->Option Int} {Z95:Nat->List (Nat×Int)} {E:List Ev} (hl:LK T n sm N H Z95) (h:MV T n sm H Z95 E) (h6:n<=6) {t:Nat} (ht:t<T) {g:Gt} (hH:H t=g.BE)
include hl h h6 ht hH
theorem MV.decide (GY:Ub g n n) (hD:Z95 t=[]) {e0:Ev} (hw:e0.w=U g.wv) (hm:e0.q2.A5=g.q.A5) (hle:∀c v w,c<n->(g.BE c).isSome=V->En E c v w->w<=g.wv):
  MV T n sm (A7 H t D9) (A7 Z95 t (Z95 t++(KD (EO g) n 0++KD (D1 g) n 0))) (e0::E):=by
 have hs:∀c,c<n->(g.BE c).isSome=(g.q.A5 c).isSome:=λc hc=>by rw[GY c hc,JC hc,Qo]
 have hlc:∀c u,c<n->(8+c,u)∈KD (EO g) n 0++KD (D1 g) n 0->(g.q.A5 c).isSome=V/\u=2*g.wv:=λc u hc hu=>by
  rcases Jq.1 hu with hu|hu
  .obtain⟨d,_,h2,h3⟩:=CY.1 hu;have:8+c=d:=WQ g d _ h3;omega
  grind [CY,D1]
 refine MV.Ak8 hl h ht AC (uq h6 (WQ g) (Wl g) λd _ hd=>?_) AC (λc lv v w hc hv e Ui=>?_) λc v w hc hn Ui=>?_
 grind [EO,D1]
 .rw[hH] at hv;have h1:(g.q.A5 c).isSome=V:=by rw[<-hs c hc,hv];rfl
  obtain⟨x,hx⟩:=JE.1 h1;refine⟨x,g.wv,Ui.Ahz hw (by rw[hm];exact hx) AC,Jc _ (CY.2 ⟨c,AC,hc,by unfold D1;rw[Jd h1]⟩),AC,?_⟩;rw[oI,Ahb (WQ g) hc (by unfold EO;rw[hx];rfl) _ 0 AC];exact FM λu hu=>by
   obtain⟨d,_,h2,h3⟩:=CY.1 hu;have:c=8+d:=Wl g d _ h3;omega
 .rw[hH] at hn;have h1:=hs c hc;rw[hn] at h1;refine Ui.cons λw' K7=>?_
  have h2:=K7.2;rw[hm,<-h1] at h2;cases h2
omit h6 in
theorem MV.Alp (h6:n<=6) (hD:(∃c,c<n/\(g.BE c).isSome=V)->Z95 t=[]):MV T n sm (A7 H t D9) (A7 Z95 t (Z95 t++KD (Fc g) n 0)) E:=by
 have hlc:∀c u,c<n->(8+c,u)∈KD (Fc g) n 0->g.BE c=U u:=λc u hc hu=>by
  grind [CY,Fc,Option.map_eq_some_iff]
 refine MV.Ak8 hl h ht (λhx=>hD ?_) ?_ AC (λc lv v w hc hv e Ui=>?_) AC
 .rcases hx with⟨c,hc,hx⟩|hx
  .exact⟨c,hc,by rw[<-hH];exact hx⟩
  .cases hb:KD (Fc g) n 0<;>grind [Fc,CY,List.mem_cons_self,Option.map_eq_some_iff]
 .have:=uq (f:=λ_=>Z) (g:=Fc g) (n:=n) h6 AC (WS g) AC;rw[Vo (λ_=>Z) n AC,JF] at this;exact this
 .rw[hH] at hv;refine⟨v,w,Ui,CY.2 ⟨c,AC,hc,by grind [Fc]⟩,AC,FM λu hu=>?_⟩;obtain⟨d,_,h2,h3⟩:=CY.1 hu;have:c=8+d:=WS g d _ h3;omega
end
