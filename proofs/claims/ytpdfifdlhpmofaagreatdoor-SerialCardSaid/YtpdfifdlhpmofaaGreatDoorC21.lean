/- Part 21 of the proof. -/
import Derived.Test.YtpdfifdlhpmofaaGreatDoorC20
import Derived.Test.YtpdfifdlhpmofaaGreatDoorC16
set_option linter.unusedVariables false
set_option linter.unusedSimpArgs false
set_option maxHeartbeats 0
set_option maxRecDepth 99999
namespace Go.Proofs.YtpdfifdlhpmofaaGreatDoor
open Go.RowKit
open Value renaming slice->m9,string->qA,bool->qB,tuple->qC,agg->qD,pointer->qE
open Ending renaming returned->qF
open Obj renaming cells->qG
open Option renaming none->Z,some->U
open Bool renaming true->V,false->I
open Go.Lib renaming hid->D
open List renaming length->J
theorem nad {p:Prop} (h:p:=by
 intro d i n b o hw hn h;obtain⟨h0,h1,h2⟩:=ih d i n b o hw.2.2.2.2 hn h;refine⟨h0,λhi=>by grind [AW,Mq],λhi=>?_⟩;have:=h2 hi;simp only[AW,Mq];grind):p:=h
theorem naf {p:Prop} (h:p:=by
 rw[h] at Bg;cases Bg;exact Xl.Gb h6 ht hl hrw rfl rfl (by unfold AH;rw[h]) AC r):p:=h
theorem nag {p:Prop} (h:p:=by
 refine⟨A,_,.nil A,.ev Aw hi rfl rfl (λh=>by cases h),?_⟩;unfold Al.CU;rw[set_set];refine h.set hB hT hk ?_;obtain⟨a1,a2,a3,a4,a5,a6,a7,a8,a9⟩:=hK;exact⟨by show(M.th k).pc+1=(A.th k).lt.pc+1;rw[a1],a2,a3,a4,a5,a6,a7,rfl,a9⟩):p:=h
theorem nah {p:Prop} (h:p:=by
 have h3:=p1 d hd;have h4:=p4 d hw.2.1;have h5:60*((4 ^ (3-(d+1)):Nat):Int)*IE b<=60*((4 ^ (3-d):Nat):Int)*IE b:=Int.mul_le_mul_of_nonneg_right Y (Tq b);simp only[Mq,IE];rw[Qk,Qk];omega):p:=h
theorem nai {p:Prop} (h:p:=by
 exact⟨j+1,B,Y,by rw[show i+(j+1)=i+1+j by omega];exact hb,h⟩):p:=h
theorem naj {p:Prop} (h:p:=by
 refine⟨r',a1,a2,a3,AC,Y,λn u k=>?_⟩;obtain⟨m,k'⟩:=a6 n u k;exact⟨m+1,.step h.st hx GJ AC ⟨sf,by rw[h.An,GT];omega⟩ (by rw[Aw];exact k')⟩):p:=h
theorem nao {p:Prop} (h:p:=by
 rw[h] at Bg;cases Bg;refine⟨rfl,⟨λ_=>B8.aP (by unfold Dw;rw[h]),λc lv h2=>?_⟩,.inl Ri⟩;cases h2;exact(hvw _).symm):p:=h
theorem nar {p:Prop} (h:p:=by
 rw[h] at Bg;cases Bg;refine Xl.same hl rfl ?_ ?_ hrw
 .rw[show AH n (G t)=[] by unfold AH;rw[h]];rfl
 grind [Dj,CS]):p:=h
theorem nat {p:Prop} (h:p:=by
 show(M.th k).pc+1=(A0.th k).lt.pc+1;rw[pA]):p:=h
theorem nau {p:Prop} (h:p:=by
 unfold Al.SC;rw[fV,hp];show Al.wv ((M.Cm k).th k).waits ((M.Cm k).mem.getD _ 0) _=_;rw[e1];exact h0.sm n hc):p:=h
theorem naA {p:Prop} (h:p:=by
 rw[h] at Bg;cases Bg;exact⟨rfl,Cl.kp (B8.aP (by unfold Dw;rw[h])) r.kp,.inl Ri⟩):p:=h
theorem naE {p:Prop} (h:p:=by
 unfold EM at hf;cases hm:g.q.A3 d<;>grind):p:=h
variable {g g':Gt} {i n c d a T m p:Nat} {b:Bj} {v Ac K cells:Int} {bad:Bool} {x:Cx} {Ab:List GI} {s lt:LT} {q r:KS} {X:Nat->Cx} {sw:List (Nat×Int)} {G:Nat->Gt} {rd:Nat->Option Int} {Tk:Nat->Prop} {sm C:Nat->Int} {mem B cs:List Int} {l:List Nd} {rt:CH} {R:Al}
structure AT where
 lt:LT
 sw:List (Nat×Int)
 st:Int
 out:List Int
structure AM where
 sm:Nat->Int
 th:Nat->AT
variable {A A':AM}
def vw (sw:List (Nat×Int)) (v:Int) (a:Nat):Int:=sw.foldl (λv p=>if p.1=a then p.2 else v) v
def Ek.Agf:Ek->Bool
 |.KL .. =>V
 |.Em .. =>V
 |_=>I
def vE (sm:Nat->Int) (sw:List (Nat×Int)):Ek->Int
 |.ld _ a=>vw sw (sm a) a
 |.KL _ a b _=>if sm a=b then 1 else 0
 |.Em _ a _=>sm a
 |_=>0
def mE (sm:Nat->Int):Ek->Nat->Int
 |.KL _ a b c=>if sm a=b then Cv sm a c else sm
 |.Em _ a k=>Cv sm a (sm a+k)
 |_=>sm
def tE (sm:Nat->Int) (s:AT) (e:Ek):AT where
 lt:=Tu e (vE sm s.sw e) s.lt
 sw:=match e with|.st a u=>s.sw++[(a,u)]|_=>s.sw
 st:=match e with|.stop t=>t|_=>s.st
 out:=match e with|.out u=>s.out++[u]|_=>s.out
inductive AS (X:Nat->Cx) (A:AM) (t:Nat):Bool->AM->Prop
 |C7 {a:Nat} {u:Int} {r:List (Nat×Int)} (h:(A.th t).sw=(a,u)::r):AS X A t V ⟨Cv A.sm a u,A5 A.th t {A.th t with sw:=r}⟩
 |Pl {lt':LT} (h0:(A.th t).st=0) (h:ps1 (X t).Ac (X t).Ab (A.th t).lt=U lt'):AS X A t I ⟨A.sm,A5 A.th t {A.th t with lt:=lt'}⟩
 |ev {i:GI} {e:Ek} (h0:(A.th t).st=0) (hc:(X t).Ab[(A.th t).lt.pc]?=U i) (hx:bt (X t).Ac i (A.th t).lt.x=Z) (he:evk i (A.th t).lt.x=U e) (hd:e.Agf=V->(A.th t).sw=[]):AS X A t I ⟨mE A.sm e,A5 A.th t (tE A.sm (A.th t) e)⟩
def Ww (x:Cx) (M:Nat) (lt:LT) (g:Gt):Prop:=∃j lt',Gc x.Ac x.Ab j lt lt'/\KR x g lt'/\j+Pn x g<=M
inductive Xm (x:Cx) (n:Nat) (A:AM) (g:Gt) (t:Nat):Bool->AM->Gt->Prop
 |C7 {a:Nat} {u:Int} {r:List (Nat×Int)} (h:(A.th t).sw=(a,u)::r):Xm x n A g t V ⟨Cv A.sm a u,A5 A.th t {A.th t with sw:=r}⟩ g
 |Pl {lt':LT} (hm:∀m,Ww x m (A.th t).lt g->∃m',m=m'+1/\Ww x m' lt' g):Xm x n A g t I ⟨A.sm,A5 A.th t {A.th t with lt:=lt'}⟩ g
 |stop {s:Int} (he:Pb g=U (.stop s)) (h0:(A.th t).st=0):Xm x n A g t I ⟨A.sm,A5 A.th t (tE A.sm (A.th t) (.stop s))⟩ g
 |ev {e:Ek} {bad:Bool} {g':Gt} (he:Pb g=U e) (h0:(A.th t).st=0) (hs:∀s,e≠ .stop s) (hd:e.Agf=V->(A.th t).sw=[]) (hn:Nx n g (vE A.sm (A.th t).sw e) bad g') {j:Nat} {lt':LT} (hr:Gc x.Ac x.Ab j (tE A.sm (A.th t) e).lt lt') (ha:KR x g' lt') (hp:if bad then j+Pn x g'<=Dy g.q0+40 else j+1+Pn x g'<=Pn x g):Xm x n A g t I ⟨mE A.sm e,A5 A.th t (tE A.sm (A.th t) e)⟩ g'
def AgD (A:AM) (t:Nat) (g:Gt):Prop:=∀e,Pb g=U e->(∀s,e≠ .stop s)->(∃c lv,g.ph=.Fp c lv)\/(0<=vE A.sm (A.th t).sw e/\vE A.sm (A.th t).sw e<3000000000000000000)
structure Vx (x:Cx) (M:Nat) (g:Gt):Prop where
 q0:Dy g.q0<=M+27
 go:(∀c,g.ph≠ .ba c)->Pn x g<=M
theorem sH (x:Cx) (q:KS):Dy q<=Pn x (DJ q)+27/\(DJ q).q0=q:=by
 have:=YO q;unfold DJ;split
 .exact⟨by show Dy q<=Dy q-27+27;omega,rfl⟩
 .refine⟨?_,rfl⟩;show Dy q<=Dy q-Nc q.s+27;have:Nc q.s<=27:=by cases q.s<;>simp[Nc]
  omega
theorem I7.q0 (h:I7 g i g'):g'.q0=g.q0\/∃q',g'=DJ q':=by
 cases h<;>grind
theorem KM.q0 (h:KM n g c g'):g'.q0=g.q0\/∃q',g'=DJ q':=by
 cases h with
 |fr _ _ _ _ _=>grind
 |stop g' _ k=>exact k.q0
theorem RO.q0 (h:RO n g c g'):g'.q0=g.q0\/∃q',g'=DJ q':=by
 cases h with
 |pu _ _ _ _ _=>grind
 |stop g' _ k=>exact k.q0
theorem Me.q0 (h:Me n g c g'):g'.q0=g.q0\/∃q',g'=DJ q':=by
 cases h with
 |lo _ _ _ _ _=>grind
 |stop g' _ k=>exact k.q0
theorem M6.q0 (h:M6 n g c g'):g'.q0=g.q0:=by cases h<;>rfl
theorem EO.q0 (h:EO n g c g'):g'.q0=g.q0:=by cases h<;>rfl
theorem gJ.q0 (h:gJ n b g g'):g'.q0=g.q0\/∃q',g'=DJ q':=by
 cases h with
 |CR _ _ _=>exact .inl rfl
 |get _ _ _=>exact .inl rfl
 |TD q' g' _ _ _ h=>exact .inl h.q0
 |Gf q' g' _ _ _ h=>exact h.q0
theorem Nx.q0 (h:Nx n g v bad g'):g'.q0=g.q0\/∃q',g'=DJ q':=by
 cases h with
 |out _ q' _=>grind
 |Of _ _ g' r=>exact r.q0
 |Kg _ _=>grind
 |dB _ _ g' r=>exact .inl r.q0
 |Fp _=>grind
 |Fy _ _ _ g' r=>exact r.q0
 |dA _ _ g' r=>exact .inl r.q0
 |VC _ _=>grind
 |wQ _ _ g' r=>exact .inl r.q0
 |U1 _ _ g' r=>exact .inl r.q0
 |wP _ _ g' r=>exact .inl r.q0
 |xa _ g' r=>exact r.q0
 |lo _ _ g' r=>exact r.q0
 |lob _ _ g' r=>exact .inl r.q0
 |pu _ g' r=>exact r.q0
 |fr _ g' r=>exact r.q0
 |te _ g' r=>exact r.q0
 |ba _ g' r=>exact .inl r.q0
theorem vr (h:EO n g c g') (M:Nat) (hq:Dy g.q0<=M+27):(∀c,g'.ph≠ .ba c)->Pn x g'<=M:=by
 intro hb;cases h with
 |ba c' _ _ _ _=>grind
 |Of _=>show Dy g.q0-27<=M;omega
theorem Nx.Gb (h:Nx n g v bad g') (hb:bad=V\/∃c,g.ph=.ba c):∃c,EO n g c g':=by
 cases h<;>grind
theorem Ahi (h:Nx n g v bad g') {M j:Nat} (hp:Vx x M g) (hj:if bad then j+Pn x g'<=Dy g.q0+40 else j+1+Pn x g'<=Pn x g):Vx x M g':=by
 have tD:(∀c,g'.ph≠ .ba c)->Pn x g'<=M:=by
  by_cases hb:bad=V\/∃c,g.ph=.ba c
  .obtain⟨c,r⟩:=h.Gb hb;exact vr r M hp.q0
  grind [Vx]
 refine⟨?_,tD⟩;rcases h.q0 with e|⟨q',rfl⟩;grind [Vx];grind [sH x q',DJ]
theorem Gc.ie {t u:LT} (h:Gc Ac Ab n s t) (h1:ps1 Ac Ab s=U u) (h2:ps1 Ac Ab t=Z):∃m,n=m+1/\Gc Ac Ab m u t:=by
 cases h<;>grind
theorem Gc.stuck {t:LT} (h:Gc Ac Ab n s t) (h1:ps1 Ac Ab s=Z):n=0/\t=s:=by
 cases h<;>grind
theorem YN {i:GI} (h:Ab[s.pc]?=U i) (he:bt Ac i s.x=Z):ps1 Ac Ab s=Z:=by grind [ps1]
theorem U5 {t:Int} (h:Bz q=U t):t=1\/t=2:=by
 grind [Bz]
theorem XP {s:Int} (h:Pb g=U (.stop s)):g.ph=.node/\s≠0/\((s=10/\g.q.s=.nil)\/Bz g.q=U s):=by
 unfold Pb at h;cases BJ:g.ph with
 |node=>
  rw[BJ] at h;replace h:(match g.q.s with|.nil=>U (.stop 10)|.out a _=>if g.q.k.Db then Z else U (.out (DV g.q.L a))|_=>(Bz g.q).map .stop)=U (Ek.stop s):=h;have key:(Bz g.q).map Ek.stop=U (.stop s)->g.ph=.node/\s≠0/\((s=10/\g.q.s=.nil)\/Bz g.q=U s):=λh=>by
   cases hk:Bz g.q with
   |none=>rw[hk] at h;cases h
   |some u=>
    rw[hk] at h;cases h;exact⟨BJ,by have:=U5 hk;omega,.inr rfl⟩
  rw[<-BJ];cases hqs:g.q.s with
  |nil=>rw[hqs] at h;cases h;exact⟨rfl,Do,.inl ⟨rfl,rfl⟩⟩
  |out a r=>
   rw[hqs] at h;replace h:(if g.q.k.Db then Z else U (.out (DV g.q.L a)))=U (Ek.stop s):=h;split at h<;>cases h
  |_=>rw[hqs] at h;have:=key h;rw[hqs] at this;exact⟨rfl,this.2⟩
 |pu c=>rw[BJ] at h;replace h:(g.q.A3 c).map (Ek.st c ·)=U (.stop s):=h;cases hm:g.q.A3 c with|none=>rw[hm] at h;cases h|some u=>rw[hm] at h;cases h
 |te i=>rw[BJ] at h;replace h:(g.q.o[i]?).map Ek.out=U (.stop s):=h;cases hm:g.q.o[i]? with|none=>rw[hm] at h;cases h|some u=>rw[hm] at h;cases h
 |ba c=>rw[BJ] at h;replace h:(g.Bi c).map (Ek.st (8+c) ·)=U (.stop s):=h;cases hm:g.Bi c with|none=>rw[hm] at h;cases h|some u=>rw[hm] at h;cases h
 |_=>rw[BJ] at h;cases h
theorem AdX {M:Nat} {t:Nat} (hx:Nr (X t)) (hn:(X t).n=n) (ht:(A.th t).st=0->Ww (X t) (M+67) (A.th t).lt g) (hp:Vx (X t) M g) (AlZ:(A.th t).st=0->AgD A t g) {fl:Bool} (h:AS X A t fl A'):
  ∃g',Xm (X t) n A g t fl A' g'/\Vx (X t) M g'/\((A'.th t).st=0->Ww (X t) (M+67) (A'.th t).lt g'):=by
 cases h with
 |C7 h=>exact⟨g,.C7 h,hp,λh0=>by grind [Am]⟩
 |Pl h0 h=>
  obtain⟨j,lt',hr,ha,hle⟩:=ht h0;obtain⟨i,e,hi,hx1,_⟩:=gD hx ha;obtain⟨m,rfl,Mj⟩:=hr.ie h (YN hi hx1);refine⟨g,.Pl λm hm=>?_,hp,λ_=>by simp only[Am];exact⟨m,lt',Mj,ha,Y⟩⟩;obtain⟨j2,lt2,LB,pO,Ah7⟩:=hm;obtain⟨i2,e2,hi2,hx2,_⟩:=gD hx pO;obtain⟨m2,rfl,Al2⟩:=LB.ie h (YN hi2 hx2);exact⟨m-1,Y,m2,lt2,Al2,pO,Y⟩
 |ev h0 hc hx1 he hd=>
  rename_i i e;obtain⟨j,lt',hr,ha,hle⟩:=ht h0;obtain⟨rfl,rfl⟩:=hr.stuck (YN hc hx1);obtain⟨i',e',pI,_,Bg,hg⟩:=gD hx ha;rw[hc] at pI;cases pI;rw[he] at Bg;cases Bg;by_cases hs:∃s,e=.stop s
  .obtain⟨s,rfl⟩:=hs;refine⟨g,.stop hg h0,hp,λh1=>?_⟩;simp only[Am] at h1;exact Jk h1 (XP hg).2.1
  .have V9:∀s,e≠ .stop s:=AC;obtain⟨j,lt2,LB,g',pO,bad,pD,hpt⟩:=Adp hx ha hg V9 (AlZ h0 e hg V9);rw[hn] at pD;rw[JH] at hpt;refine⟨g',.ev hg h0 V9 hd pD LB pO hpt,Ahi pD hp hpt,λ_=>?_⟩;simp only[Am];refine⟨j,lt2,LB,pO,?_⟩<;>grind [Vx]
section
def CS (g:Gt):Bool:=match g.ph with
 |.VC _=>V
 |.U1 .. =>V
 |.xa=>V
 |.lo _=>V
 |_=>I
def BR (g:Gt):Nat->Option Int:=if CS g then g.Bi else D9
def EM (g:Gt) (d:Nat):Option (Nat×Int):=(g.q.A3 d).map λv=>(d,v)
def D0 (g:Gt) (d:Nat):Option (Nat×Int):=if (g.q.A3 d).isSome then U (8+d,2*g.wv) else Z
def EZ (g:Gt) (d:Nat):Option (Nat×Int):=(g.Bi d).map λv=>(8+d,v)
def AH (n:Nat) (g:Gt):List (Nat×Int):=match g.ph with
 |.pu c=>Kv (EM g) n c++Kv (D0 g) n 0
 |.fr c=>Kv (D0 g) n c
 |.ba c=>Kv (EZ g) n c
 |_=>[]
theorem ZW (h:(g.q.A3 d).isSome=I):EM g d=Z:=by unfold EM;cases hm:g.q.A3 d<;>grind
theorem Zb (h:(g.q.A3 d).isSome=I):D0 g d=Z:=by grind [D0]
theorem T0 (h:(g.Bi d).isSome=I):EZ g d=Z:=by unfold EZ;cases hm:g.Bi d<;>grind
theorem Ef (n:Nat) (q:KS):BR (DJ q)=D9/\AH n (DJ q)=[]/\(DJ q).rv=0/\(DJ q).wv=0:=by
 have:DJ q=⟨.Of,q,q,D9,D9,0,0⟩\/DJ q=⟨.node,q,q,D9,D9,0,0⟩:=by
  grind [DJ]
 rcases this with e|e<;>rw[e]<;>exact⟨rfl,rfl,rfl,rfl⟩
variable {n:Nat} {g g':Gt}
def dk (g g':Gt):Prop:=(g'.rv=g.rv\/g'.rv=0)/\(g'.wv=g.wv\/g'.wv=0)
theorem dk.refl:dk g g:=⟨AC,AC⟩
theorem I7.Uk (h:I7 g i g'):BR g'=D9/\AH n g'=[]/\dk g g':=by
 cases h with
 |te _=>exact⟨rfl,rfl,dk.refl⟩
 |out q' _ _=>have:=Ef n q';exact⟨this.1,AC,AC,AC⟩
theorem KM.Uk (h:KM n g c g'):BR g'=D9/\AH n g'=Kv (D0 g) n c/\dk g g':=by
 cases h with
 |fr c' h1 h2 h3 h4=>exact⟨rfl,(UZ _ _ h1 λd du tG _=>Zb AC).symm,dk.refl⟩
 |stop g' h k=>rw[U0 _ _ λd h1 h2=>Zb AC];exact k.Uk
theorem RO.Uk (h:RO n g c g'):BR g'=D9/\AH n g'=Kv (EM g) n c++Kv (D0 g) n 0/\dk g g':=by
 cases h with
 |pu c' h1 h2 h3 h4=>exact⟨rfl,by rw[UZ (EM g) n h1 λd du tG _=>ZW AC];rfl,dk.refl⟩
 |stop g' h k=>rw[U0 (EM g) _ λd h1 h2=>ZW AC];exact k.Uk
theorem Me.Uk (h:Me n g c g'):(BR g'=g.Bi/\AH n g'=[]/\dk g g')\/(BR g'=D9/\AH n g'=Kv (EM g) n 0++Kv (D0 g) n 0/\dk g g'):=by
 cases h with
 |lo c' _ _ _ _=>exact .inl ⟨rfl,rfl,dk.refl⟩
 |stop g' _ k=>exact .inr k.Uk
theorem M6.Uk (h:M6 n g c g'):BR g'=g.Bi/\AH n g'=[]/\dk g g':=by
 cases h<;>exact⟨rfl,rfl,dk.refl⟩
theorem EO.Uk (h:EO n g c g'):BR g'=D9/\AH n g'=Kv (EZ g) n c/\dk g g':=by
 cases h with
 |ba c' h1 h2 h3 h4=>exact⟨rfl,(UZ _ _ h1 λd du tG _=>T0 AC).symm,dk.refl⟩
 |Of h=>rw[U0 _ _ λd h1 h2=>T0 AC];exact⟨rfl,rfl,.inr rfl,.inr rfl⟩
theorem gJ.Uk (h:gJ n b g g') (hl:g.Bi=D9):BR g'=D9/\AH n g'=[]/\dk g g':=by
 cases h with
 |CR _ _ _=>exact⟨rfl,rfl,dk.refl⟩
 |get _ _ _=>exact⟨rfl,rfl,dk.refl⟩
 |TD q' g' _ _ _ h=>
  have:=h.Uk;exact⟨this.1.trans hl,this.2.1,this.2.2⟩
 |Gf q' g' _ _ _ h=>exact h.Uk
structure L1 (X:Nat->Cx) (T n M:Nat) (K:Int) (A:AM) (G:Nat->Gt):Prop where
 th:∀t,t<T->(A.th t).st=0->Ww (X t) (M+67) (A.th t).lt (G t)
 pt:∀t,t<T->Vx (X t) M (G t)
 c0:0<=A.sm 16/\A.sm 16<=K
 rv:∀t,t<T->(0<=(G t).rv/\(G t).rv<=A.sm 16)/\0<=(G t).wv/\(G t).wv<=A.sm 16
 lk:LK T n A.sm (A.sm 16) (λt=>BR (G t)) λt=>(A.th t).sw++AH n (G t)
 D1:∀t,t<T->(A.th t).st≠0->(G t).ph=.node
theorem T6 (h:KR x g lt):((g.ph=.xa\/∃c,g.ph=.lo c)->TH g x.n x.n)/\(∀c lv,g.ph=.U1 c lv->c<x.n/\aP g lv)/\(CS g=I->(∃c,g.ph=.pu c\/g.ph=.fr c\/g.ph=.ba c)\/(∃i,g.ph=.te i)\/g.Bi=D9)/\
  (∀c,g.ph=.pu c->c<x.n/\(g.q.A3 c).isSome=V)/\(∀c,g.ph=.fr c->c<x.n/\(g.q.A3 c).isSome=V)/\(∀c,g.ph=.ba c->c<x.n/\(g.Bi c).isSome=V):=by
 unfold KR at h;unfold CS;cases BJ:g.ph with
 |node=>rw[BJ] at h;grind
 |Of=>rw[BJ] at h;grind
 |Kg c=>rw[BJ] at h;obtain⟨b,s,ab,p0,v,r,h,_⟩:=h;simp[h.Bi]
 |Fp c lv=>rw[BJ] at h;obtain⟨⟨b,s,ab,p0,v,r,h,_⟩,_⟩:=h;simp[h.Bi]
 |Fy c lv y=>rw[BJ] at h;obtain⟨⟨b,s,ab,p0,v,r,h,_⟩,_⟩:=h;simp[h.Bi]
 |VC c=>simp
 |U1 c lv=>rw[BJ] at h;simp;exact⟨h.1,h.2.2.2.1⟩
 |xa=>rw[BJ] at h;grind
 |lo c=>rw[BJ] at h;grind
 |pu c=>rw[BJ] at h;grind
 |fr c=>rw[BJ] at h;grind
 |te i=>simp
 |ba c=>rw[BJ] at h;grind
theorem N7 (G:Nat->Gt) (t:Nat) (g':Gt):(λu=>BR (A5 G t g' u))=A5 (λu=>BR (G u)) t (BR g'):=by
 funext u;unfold A5;split<;>rfl
theorem Yl (A:AM) (G:Nat->Gt) (t:Nat) (a:AT) (g':Gt):(λu=>(A5 A.th t a u).sw++AH n (A5 G t g' u))=A5 (λu=>(A.th u).sw++AH n (G u)) t (a.sw++AH n g'):=by
 funext u;unfold A5;split<;>rfl
theorem AdQ (P:Int->Prop) (hv:P v) (h:∀u,(a,u)∈sw->P u):P (vw sw v a):=by
 induction sw generalizing v with
 |nil=>exact hv
 |cons p r ih=>
  refine ih ?_ λu hu=>h u (Id _ hu)<;>grind
theorem FJ (h:∀u,(a,u)∉sw):vw sw v a=v:=by
 induction sw generalizing v with
 |nil=>rfl
 |cons p r ih=>
  have:¬p.1=a:=AC;show vw r (if p.1=a then p.2 else v) a=v;rw[In this];grind
theorem L1.see {M:Nat} (h:L1 X T n M K A G) (h6:n<=6) (hX:∀t,t<T->Nr (X t)/\(X t).n=n) (hK:K<1000000000000000000) {t:Nat} (ht:t<T) (h0:(A.th t).st=0):AgD A t (G t):=by
 obtain⟨j,lt',_,ha,_⟩:=h.th t ht h0;have az:=h.c0;have tB:∀c,c<n->0<=vw (A.th t).sw (A.sm (8+c)) (8+c)/\vw (A.th t).sw (A.sm (8+c)) (8+c)<3000000000000000000:=λc hc=>by
  refine AdQ (λv=>0<=v/\v<3000000000000000000) ?_ λu hu=>?_
  grind [h.lk.val]
  .rcases h.lk.todo t _ u ht (IR _ hu) with h1|⟨c',h1,h2,⟨w,h3,h4,h5⟩,_⟩<;>grind
 have AmB:0<=vw (A.th t).sw (A.sm 16) 16/\vw (A.th t).sw (A.sm 16) 16<3000000000000000000:=by
  rw[FJ]
  .omega
  .intro u hu;rcases h.lk.todo t _ u ht (IR _ hu) with h1|⟨c',h1,h2,_⟩<;>omega
 have hn:=(hX t ht).2;intro e he hs;unfold KR at ha;unfold Pb at he;cases BJ:(G t).ph with
 |node=>
  grind [vE,Bz]
 |Of=>rw[BJ] at he;cases he;exact .inr AmB
 |Kg c=>rw[BJ] at he ha;cases he;obtain⟨b,s,ab,p0,v,r,hg,_⟩:=ha;exact .inr (tB c (by rw[<-hn];exact hg.Mh.lt))
 |Fp c lv=>grind
 |Fy c lv y=>rw[BJ] at he ha;cases he;obtain⟨⟨b,s,ab,p0,v,r,hg,_⟩,_⟩:=ha;exact .inr (tB c (by rw[<-hn];exact hg.Mh.lt))
 |VC c=>rw[BJ] at he ha;cases he;exact .inr (tB c (by rw[<-hn];exact ha.1))
 |U1 c lv=>rw[BJ] at he;cases he;right;show 0<=(if _ then (1:Int) else 0)/\(if _ then (1:Int) else 0)<_;split<;>decide
 |xa=>rw[BJ] at he;cases he;right;show 0<=A.sm 16/\A.sm 16<_;omega
 |lo c=>rw[BJ] at he ha;cases he;exact .inr (tB c (by rw[<-hn];exact ha.1))
 |pu c=>rw[BJ] at he;replace he:((G t).q.A3 c).map (Ek.st c ·)=U e:=he;right;cases hm:(G t).q.A3 c with|none=>rw[hm] at he;cases he|some u=>rw[hm] at he;cases he;exact⟨QE _,by show(0:Int)<_;decide⟩
 |fr c=>rw[BJ] at he;cases he;right;exact⟨QE _,by show(0:Int)<_;decide⟩
 |te i=>rw[BJ] at he;replace he:((G t).q.o[i]?).map Ek.out=U e:=he;right;cases hm:(G t).q.o[i]? with|none=>rw[hm] at he;cases he|some u=>rw[hm] at he;cases he;exact⟨QE _,by show(0:Int)<_;decide⟩
 |ba c=>rw[BJ] at he;replace he:((G t).Bi c).map (Ek.st (8+c) ·)=U e:=he;right;cases hm:(G t).Bi c with|none=>rw[hm] at he;cases he|some u=>rw[hm] at he;cases he;exact⟨QE _,by show(0:Int)<_;decide⟩
theorem dk.ok {N N':Int} (h:dk g g') (hN:N<=N') (hr:(0<=g.rv/\g.rv<=N)/\0<=g.wv/\g.wv<=N):(0<=g'.rv/\g'.rv<=N')/\0<=g'.wv/\g'.wv<=N':=by
 obtain⟨h1,h2⟩:=h;rcases h1 with h1|h1<;>rcases h2 with h2|h2<;>rw[h1,h2]<;>omega
section
variable {T:Nat} {sm:Nat->Int} {N:Int} {H:Nat->Nat->Option Int} {Z95:Nat->List (Nat×Int)} (h6:n<=6) {t:Nat} (ht:t<T)
include h6 ht
theorem AeV (h:LK T n sm N H Z95) {c:Nat} (hH:H t=g.Bi) (hr:EO n g 0 g'):LK T n sm N (A5 H t (BR g')) (A5 Z95 t (Z95 t++AH n g')):=by
 obtain⟨e1,e2,_⟩:=hr.Uk;have _:=c;rw[e1,e2];refine h.decide h6 ht (λa v hv=>?_) (cX (λd p hp=>?_) n 0) λc hc hs=>?_
 .obtain⟨d,_,hd,hf⟩:=CY.1 hv;unfold EZ at hf;cases hl:g.Bi d with
  |none=>rw[hl] at hf;cases hf
  |some w=>
   rw[hl] at hf;cases hf;have dw:H t d=U v:=by rw[hH];exact hl
   exact .inr ⟨d,hd,rfl,by rw[dw];rfl,(h.BR t d v ht hd dw).2.1⟩
 .unfold EZ at hp;cases hl:g.Bi d<;>grind
 .rw[hH] at hs;obtain⟨v,hv⟩:=JA.1 hs;exact⟨v,CY.2 ⟨c,AC,hc,by grind [EZ]⟩⟩
theorem AhD (h:LK T n sm N H Z95) (hH:H t=g.Bi) (hl:TH g n n) (hw:0<=g.wv/\g.wv<=N):LK T n sm N (A5 H t D9) (A5 Z95 t (Z95 t++(Kv (EM g) n 0++Kv (D0 g) n 0))):=by
 have Agv:∀d,d<n->(g.Bi d).isSome=(g.q.A3 d).isSome:=λd hd=>by rw[hl d hd,J3 hd];rfl
 refine h.decide h6 ht (λa v hv=>?_) ?_ λc hc hs=>?_
 .rcases Jp.1 hv with hv|hv
  .obtain⟨d,_,hd,hf⟩:=CY.1 hv;exact naE
  .obtain⟨d,_,hd,hf⟩:=CY.1 hv;unfold D0 at hf;split at hf
   .rename_i hs;cases hf;exact .inr ⟨d,hd,rfl,by rw[hH,Agv d hd];exact hs,g.wv,rfl,hw⟩
   .cases hf
 .rw[QR];refine⟨?_,cX (λd p hp=>by grind [D0]) n 0,λp hp q _ h8 _=>?_⟩
  .refine List.Pairwise.imp_of_mem (λ{p q} hp _ _ h8=>?_) (List.pairwise_of_forall (R:=λ_ _=>True) AC);obtain⟨d,_,hd,hf⟩:=CY.1 hp;exact naE
  .obtain⟨d,_,hd,hf⟩:=CY.1 hp;exact naE
 .rw[hH,Agv c hc] at hs;exact⟨2*g.wv,Jc _ (CY.2 ⟨c,AC,hc,by unfold D0;rw[Jb hs]⟩)⟩
end
theorem Afx {e:Ek} (h:g.ph=.node) (he:Pb g=U e):(∃u,e=.out u)\/∃s,e=.stop s:=by
 grind [Pb,Bz]
theorem Dj (h:CS g=I):BR g=D9:=by grind [BR]
theorem Kx (h:CS g=V):BR g=g.Bi:=by grind [BR]
structure Xl (n T:Nat) (A:AM) (G:Nat->Gt) (t:Nat) (e:Ek) (g':Gt):Prop where
 Of:A.sm 16<=mE A.sm e 16/\mE A.sm e 16<=A.sm 16+1
 rv:(0<=g'.rv/\g'.rv<=mE A.sm e 16)/\0<=g'.wv/\g'.wv<=mE A.sm e 16
 lk:LK T n (mE A.sm e) (mE A.sm e 16) (A5 (λu=>BR (G u)) t (BR g')) (A5 (λu=>(A.th u).sw++AH n (G u)) t ((tE A.sm (A.th t) e).sw++AH n g'))
section
variable {T:Nat} {A:AM} {G:Nat->Gt} {t:Nat} (h6:n<=6) (ht:t<T) (hl:LK T n A.sm (A.sm 16) (λu=>BR (G u)) λu=>(A.th u).sw++AH n (G u))
 (hrw:(0<=(G t).rv/\(G t).rv<=A.sm 16)/\0<=(G t).wv/\(G t).wv<=A.sm 16) {e:Ek}
include hl
theorem Xl.same (h1:mE A.sm e=A.sm) (h2:(tE A.sm (A.th t) e).sw++AH n g'=(A.th t).sw++AH n (G t)) (h3:BR g'=BR (G t)) (h4:(0<=g'.rv/\g'.rv<=A.sm 16)/\0<=g'.wv/\g'.wv<=A.sm 16):Xl n T A G t e g':=by
 refine⟨by rw[h1];omega,by rw[h1];exact h4,?_⟩;rw[h1,h2,h3,show A5 (λu=>BR (G u)) t (BR (G t))=λu=>BR (G u) from Dp _ t,show A5 (λu=>(A.th u).sw++AH n (G u)) t ((A.th t).sw++AH n (G t))=λu=>(A.th u).sw++AH n (G u) from Dp (λu=>(A.th u).sw++AH n (G u)) t];exact hl
include h6 ht hrw
theorem Xl.Gb (h1:mE A.sm e=A.sm) (h2:(tE A.sm (A.th t) e).sw=(A.th t).sw) (h3:AH n (G t)=[]) (h4:CS (G t)=V\/(G t).Bi=D9) (hr:EO n (G t) 0 g'):Xl n T A G t e g':=by
 by_cases hu:CS (G t)=V
 .refine⟨by rw[h1];omega,by rw[h1];exact hr.Uk.2.2.ok AC hrw,?_⟩;have:=AeV h6 ht hl (c:=0) (Kx hu) hr;rw[h1,h2];rw[show(A.th t).sw++AH n g'=(A.th t).sw++AH n (G t)++AH n g' by rw[h3,Jo]];exact this
 .have h5:=h4.resolve_left hu;have hi:=hr.Uk;refine Xl.same hl h1 ?_ ?_ (hi.2.2.ok (QE _) hrw)
  .rw[h2,h3,hi.2.1,U0 _ _ λd _ _=>T0 (by rw[h5];rfl)]
  .rw[hi.1,Dj (by simpa using hu)]
theorem Xl.wK (az:0<=A.sm 16) {c:Nat} {w:Int} (h1:mE A.sm e=A.sm\/mE A.sm e=Cv A.sm 16 (A.sm 16+1)) (h2:(tE A.sm (A.th t) e).sw=(A.th t).sw) (h3:AH n (G t)=[]) (h4:CS (G t)=V) (h5:TH (G t) n n) (hw:0<=w/\w<=mE A.sm e 16) (hr:Me n {(G t) with wv:=w} c g'):Xl n T A G t e g':=by
 have hN:A.sm 16<=mE A.sm e 16/\mE A.sm e 16<=A.sm 16+1:=by
  rcases h1 with h1|h1<;>rw[h1]
  .omega
  .rw[BK];omega
 have hs:∀c,c<n->mE A.sm e (8+c)=A.sm (8+c):=λc hc=>by
  rcases h1 with h1|h1<;>rw[h1];grind [Bp]
 have hb:=hl.bz hN.1 hs;have hH:=Kx h4;have Aj4:(0<=({(G t) with wv:=w}:Gt).rv/\({(G t) with wv:=w}:Gt).rv<=mE A.sm e 16)/\0<=({(G t) with wv:=w}:Gt).wv/\({(G t) with wv:=w}:Gt).wv<=mE A.sm e 16:=AC;rcases hr.Uk with⟨e1,e2,e3⟩|⟨e1,e2,e3⟩
 .refine⟨hN,e3.ok (QE _) Aj4,?_⟩<;>grind [Dp]
 .refine⟨hN,e3.ok AC Aj4,?_⟩;have:=AhD (g:={(G t) with wv:=w}) h6 ht hb hH h5 hw;rw[h2,e1,e2];rw[show(A.th t).sw++(Kv (EM {(G t) with wv:=w}) n 0++Kv (D0 {(G t) with wv:=w}) n 0)=(A.th t).sw++AH n (G t)++(Kv (EM {(G t) with wv:=w}) n 0++Kv (D0 {(G t) with wv:=w}) n 0) by rw[h3,Jo]];exact this
end
theorem AjH {t:Nat} (h6:n<=6) (hxn:x.n=n) (ht:t<T) (hl:LK T n A.sm (A.sm 16) (λu=>BR (G u)) λu=>(A.th u).sw++AH n (G u)) (az:0<=A.sm 16)
  (hrw:(0<=(G t).rv/\(G t).rv<=A.sm 16)/\0<=(G t).wv/\(G t).wv<=A.sm 16) {lt:LT} (ha:KR x (G t) lt) {e:Ek} {bad:Bool} (he:Pb (G t)=U e) (hn:Nx n (G t) (vE A.sm (A.th t).sw e) bad g'):
  Xl n T A G t e g':=by
 obtain⟨k1,k2,k3,k4,k5,k6⟩:=T6 ha;rw[hxn] at k1 k2 k4 k5 k6;have Bg:=he;unfold Pb at Bg;have hU:∀b,CS (G t)=b->CS (G t)=b:=AC;cases hn with
 |out h q' k=>
  have hi:=Ef n q';have hb:mE A.sm e=A.sm/\(tE A.sm (A.th t) e).sw=(A.th t).sw:=by
   rcases Afx h he with⟨u,rfl⟩|⟨s,rfl⟩<;>exact⟨rfl,rfl⟩
  refine Xl.same hl hb.1 ?_ ?_ ?_<;>grind [AH,Dj,CS]
 |Of h h0 _ r=>
  rw[h] at Bg;cases Bg;obtain⟨i1,i2,i3⟩:=r.Uk rfl;have hv:vE A.sm (A.th t).sw (.ld 1 16)=A.sm 16:=FJ λu hu=>by
   exact naz
  refine Xl.same hl rfl ?_ ?_ (i3.ok (QE _) AC)
  .rw[i2,show AH n (G t)=[] by unfold AH;rw[h]];rfl
  grind [Dj,CS]
 |Kg h hv=>
  exact nar
 |dB h _ _ r=>
  exact naf
 |Fp h=>
  exact nar
 |Fy h hv h0 _ r=>
  rw[h] at Bg;cases Bg;obtain⟨i1,i2,i3⟩:=r.Uk (by grind [CS]);refine Xl.same hl rfl ?_ ?_ (i3.ok AC hrw)
  .rw[i2,show AH n (G t)=[] by unfold AH;rw[h]];rfl
  grind [Dj,CS]
 |dA h hv _ r=>
  exact naf
 |VC h hv=>
  rw[h] at Bg;cases Bg;refine Xl.same hl rfl ?_ ?_ hrw
  .rw[show AH n (G t)=[] by unfold AH;rw[h]];rfl
  grind [Kx,CS]
 |wQ h _ _ r=>
  exact naf
 |U1 h hv _ r=>
  rename_i c lv;rw[h] at Bg;cases Bg;obtain⟨hc,w,Fu,Mi,Ld⟩:=k2 c lv h;have Vc:(if A.sm (8+c)=lv then (1:Int) else 0)≠0:=hv;have Rk:A.sm (8+c)=lv:=by
   grind
  have hm:mE A.sm (.KL 3 (8+c) lv (lv+1))=Cv A.sm (8+c) (lv+1):=by show(if _ then _ else _)=_;rw[Jb Rk]
  have bp:Cv A.sm (8+c) (lv+1) 16=A.sm 16:=Bp _ _ Y;obtain⟨i1,i2,i3⟩:=r.Uk;refine⟨by rw[hm,bp];omega,by rw[hm,bp];exact i3.ok AC hrw,?_⟩;have:=hl.TD h6 ht hc Rk ⟨w,Fu,Mi,Y⟩;rw[hm,bp,i1,i2,<-show AH n (G t)=[] by unfold AH;rw[h]];rw[show A5 (λu=>(A.th u).sw++AH n (G u)) t ((tE A.sm (A.th t) (.KL 3 (8+c) lv (lv+1))).sw++AH n (G t))=λu=>(A.th u).sw++AH n (G u) from Dp (λu=>(A.th u).sw++AH n (G u)) t];have e:BR (G t)=(G t).Bi:=Kx (by unfold CS;rw[h]);grind
 |wP h hv _ r=>
  rename_i c lv;rw[h] at Bg;cases Bg;have Vc:(if A.sm (8+c)=lv then (1:Int) else 0)=0:=hv;have Rk:¬A.sm (8+c)=lv:=AC;exact Xl.Gb h6 ht hl hrw (by show(if _ then _ else _)=_;rw[In Rk]) rfl (by unfold AH;rw[h]) AC r
 |xa h _ r=>
  rw[h] at Bg;cases Bg;refine Xl.wK h6 ht hl hrw az (.inr rfl) rfl (by unfold AH;rw[h]) (by unfold CS;rw[h]) AC ?_ r;show 0<=A.sm 16+1/\A.sm 16+1<=Cv A.sm 16 (A.sm 16+1) 16;rw[BK];omega
 |lo h hv _ r=>
  rw[h] at Bg;cases Bg;exact Xl.wK (w:=(G t).wv) h6 ht hl hrw az (.inl rfl) rfl (by unfold AH;rw[h]) (by unfold CS;rw[h]) AC hrw.2 r
 |lob h _ _ r=>
  exact naf
 |pu h _ r=>
  rename_i c;rw[h] at Bg;replace Bg:((G t).q.A3 c).map (Ek.st c ·)=U e:=Bg;obtain⟨hc,hm⟩:=k4 c h;obtain⟨u,hu⟩:=JA.1 hm;rw[hu] at Bg;cases Bg;obtain⟨i1,i2,i3⟩:=r.Uk;refine Xl.same hl rfl ?_ ?_ (i3.ok AC hrw)
  .rw[i2,show AH n (G t)=Kv (EM (G t)) n c++Kv (D0 (G t)) n 0 by unfold AH;rw[h],GR (EM (G t)) hc,show EM (G t) c=U (c,u) by grind [EM]];show((A.th t).sw++[(c,u)])++_=_;simp
  grind [Dj,CS]
 |fr h _ r=>
  rename_i c;rw[h] at Bg;cases Bg;obtain⟨hc,hm⟩:=k5 c h;obtain⟨i1,i2,i3⟩:=r.Uk;refine Xl.same hl rfl ?_ ?_ (i3.ok AC hrw)
  .rw[i2,show AH n (G t)=Kv (D0 (G t)) n c by unfold AH;rw[h],GR (D0 (G t)) hc,show D0 (G t) c=U (8+c,2*(G t).wv) by unfold D0;rw[Jb hm]];show((A.th t).sw++[(8+c,2*(G t).wv)])++_=_;simp
  grind [Dj,CS]
 |te h _ r=>
  rename_i i;rw[h] at Bg;replace Bg:((G t).q.o[i]?).map Ek.out=U e:=Bg;obtain⟨i1,i2,i3⟩:=r.Uk (n:=n);have hb:mE A.sm e=A.sm/\(tE A.sm (A.th t) e).sw=(A.th t).sw:=by
   cases ho:(G t).q.o[i]? with
   |none=>rw[ho] at Bg;cases Bg
   |some u=>rw[ho] at Bg;cases Bg;exact⟨rfl,rfl⟩
  grind [Xl.same,i3.ok (Int.le_refl _) hrw,AH,Dj,CS]
 |ba h _ r=>
  rename_i c;rw[h] at Bg;replace Bg:((G t).Bi c).map (Ek.st (8+c) ·)=U e:=Bg;obtain⟨hc,hm⟩:=k6 c h;obtain⟨u,hu⟩:=JA.1 hm;rw[hu] at Bg;cases Bg;obtain⟨i1,i2,i3⟩:=r.Uk;refine Xl.same hl rfl ?_ ?_ (i3.ok AC hrw)
  .rw[i2,show AH n (G t)=Kv (EZ (G t)) n c by unfold AH;rw[h],GR (EZ (G t)) hc,show EZ (G t) c=U (8+c,u) by grind [EZ]];show((A.th t).sw++[(8+c,u)])++_=_;simp
  grind [Dj,CS]
theorem L1.step {M:Nat} (h:L1 X T n M K A G) (h6:n<=6) (hX:∀t,t<T->Nr (X t)/\(X t).n=n) (hK:K<1000000000000000000) {t:Nat} (ht:t<T) {fl:Bool} (hs:AS X A t fl A'):
  ∃g',Xm (X t) n A (G t) t fl A' g'/\L1 X T n M (K+1) A' (A5 G t g')/\(fl=V->A'.sm 16=A.sm 16):=by
 obtain⟨hx,hxn⟩:=hX t ht;obtain⟨g',hg,hp,Ex⟩:=AdX hx hxn (h.th t ht) (h.pt t ht) (λh0=>h.see h6 hX hK ht h0) hs;refine⟨g',hg,?_⟩;have AlC:∀u,u≠t->A'.th u=A.th u:=λu hu=>by cases hg<;>exact A6 _ _ hu
 have hTh:∀u,u<T->(A'.th u).st=0->Ww (X u) (M+67) (A'.th u).lt (A5 G t g' u):=λu hu h0=>by
  grind [Am,A6,L1]
 have hPt:∀u,u<T->Vx (X u) M (A5 G t g' u):=λu hu=>by
  grind [Am,A6,L1]
 have az:=h.c0;have tu:A5 G t (G t)=G:=Dp G t;cases hg with
 |C7 Ri=>
  rename_i a u r;rw[tu] at hTh hPt⊢;have Gq:=h.lk.C7 h6 ht (t:=t) (a:=a) (u:=u) (r:=r++AH n (G t)) AC;have bp:Cv A.sm a u 16=A.sm 16:=Bp _ _ (by
    rcases h.lk.todo t a u ht AC with h1|⟨c,h1,h2,_⟩<;>omega)
  refine⟨⟨hTh,hPt,AC,λv hv=>by grind [L1],?_,λv hv h0=>?_⟩,AC⟩
  .show LK T n (Cv A.sm a u) (Cv A.sm a u 16) _ _;rw[bp];have e:=Yl (n:=n) A G t {A.th t with sw:=r} (G t);rw[tu] at e;grind
  grind [Am,L1]
 |Pl hm=>
  rename_i lt';rw[tu] at hTh hPt⊢;grind [Am,L1]
 |stop he h0=>
  rename_i s;rw[tu] at hTh hPt⊢;grind [tE,A5,XP he,L1]
 |ev he h0 yO hd hn hr_ ha_ hp_=>
  rename_i e bad j_ lt_;obtain⟨j,lt',_,ha,_⟩:=h.th t ht h0;have hl:=AjH h6 hxn ht h.lk az.1 (h.rv t ht) ha he hn;have h1:=hl.Of;refine⟨⟨hTh,hPt,AC,λv hv=>?_,?_,λv hv h2=>?_⟩,AC⟩;grind [Am,A6,L1,Xl]
  .show LK T n (mE A.sm e) (mE A.sm e 16) _ (λv=>(A5 A.th t _ v).sw++_);rw[N7,Yl];exact hl.lk
  .by_cases hvt:v=t
   .subst hvt;have:(A5 A.th v (tE A.sm (A.th v) e) v).st≠0:=h2;rw[Am] at this;have e2:(tE A.sm (A.th v) e).st=(A.th v).st:=by
     cases e with
     |stop s=>grind
     |_=>rfl
    rw[e2] at this;grind
   grind [A6,L1]
end
section
section
variable (PR PW:Nat->Prop)
def TS:Bj->Prop
 |.nil=>True
 |.set _ _ _ _ r=>TS r
 |.get _ f s _ r=>(0<=f/\∀c:Nat,f<=c->(c:Int)<f+s->PR c)/\TS r
 |.put f s _ _ r=>(0<=f/\∀c:Nat,f<=c->(c:Int)<f+s->PW c)/\TS r
 |.out _ r=>TS r
 |.atomic b r=>TS b/\TS r
 |.Es _ b r=>TS b/\TS r
 |.loop _ b r=>TS b/\TS r
def TK:KK->Prop
 |.done=>True
 |.rest s k=>TS PR PW s/\TK k
 |.loop b s k=>TS PR PW b/\TS PR PW s/\TK k
 |.Ao b s k=>TS PR PW b/\TS PR PW s/\TK k
structure TQ (q:KS):Prop where
 s:TS PR PW q.s
 k:TK PR PW q.k
 m:∀c,(q.A3 c).isSome=V->PW c
structure TG (g:Gt):Prop where
 q0:TQ PR PW g.q0
 q:TQ PR PW g.q
 rd:∀c,(g.rd c).isSome=V->PR c
 Bi:∀c,(g.Bi c).isSome=V->PW c
end
variable {PR PW:Nat->Prop}
theorem AhG (h:Ot rd q=U r) (t:TQ PR PW q):TQ PR PW r:=by
 obtain⟨ts,tk,tm⟩:=t;unfold Ot at h;split at h
 .split at h
  .rename_i hk;cases h;rw[hk] at tk;exact⟨tk.1,tk.2,tm⟩
  .rename_i hk;have tk':=tk;rw[hk] at tk';split at h
   .cases h;exact⟨tk'.2.1,tk'.2.2,tm⟩
   .cases h;exact⟨tk'.1,tk,tm⟩
  .cases h
 .rename_i hs;rw[hs] at ts;simp only[Jj] at h;obtain⟨_,_,rfl⟩:=h;exact⟨ts,tk,tm⟩
 .rename_i hs;rw[hs] at ts;split at h
  .cases h
  .simp only[Jj] at h;obtain⟨_,_,rfl⟩:=h;exact⟨ts.2,tk,tm⟩
 .rename_i hs;rw[hs] at ts;split at h
  .cases h
  .rename_i hr;cases h;refine⟨ts.2,tk,λc hc=>?_⟩;have lG:(En q.A3 _ _ c).isSome=V:=hc;unfold En at lG;split at lG
   .rename_i he;subst he;have h0:=ts.1.1;exact ts.1.2 _ Y Y
   .exact tm c lG
 .rename_i hs;rw[hs] at ts;split at h
  .cases h;exact⟨ts,tk,tm⟩
  .cases h
 .rename_i hs;rw[hs] at ts;cases h;split
  .exact⟨ts.2,tk,tm⟩
  .exact⟨ts.1,⟨ts.2,tk⟩,tm⟩
 .rename_i hs;rw[hs] at ts;cases h;exact⟨ts.1,⟨ts.1,ts.2,tk⟩,tm⟩
 .cases h
theorem Ij.tq (h:Ij rd q r) (t:TQ PR PW q):TQ PR PW r:=by
 induction h with
 |nil q=>exact t
 |cons h _ ih=>exact ih (AhG h t)
theorem Afj (t:TQ PR PW q) (y:Int):TQ PR PW (ZC q y):=by
 unfold ZC;split
 .rename_i hs;have:=t.s;rw[hs] at this;exact⟨this.2,t.k,t.m⟩
 .exact t
theorem Aeo (t:TQ PR PW q):TQ PR PW (IY q):=by
 unfold IY;split
 .rename_i hs;have:=t.s;rw[hs] at this;exact⟨this,t.k,t.m⟩
 .exact t
theorem u4 (t:TQ PR PW q):TQ PR PW (Cw q):=by
 unfold Cw;split
 .rename_i hs;have:=t.s;rw[hs] at this;exact⟨this.1,⟨this.1,this.2,t.k⟩,λ_ h=>(by cases h)⟩
 .exact t
theorem yu {q0:KS} (t:TQ PR PW q0):TQ PR PW (BS q0 q):=by
 unfold BS;split
 .rename_i hs;have:=t.s;rw[hs] at this;exact⟨this.2,t.k,λ_ h=>(by cases h)⟩
 .exact t
variable {n:Nat} {g g':Gt}
theorem fC (t:TQ PR PW q):TG PR PW (DJ q):=⟨t,t,λ_ h=>(by cases h),λ_ h=>(by cases h)⟩
theorem I7.tg (h:I7 g i g') (t:TG PR PW g):TG PR PW g':=by
 cases h with
 |te _=>exact⟨t.q0,t.q,t.rd,t.Bi⟩
 |out q' _ k=>exact fC (k.tq (yu t.q0))
theorem KM.tg (h:KM n g c g') (t:TG PR PW g):TG PR PW g':=by
 cases h with
 |fr _ _ _ _ _=>exact⟨t.q0,t.q,t.rd,t.Bi⟩
 |stop g' _ k=>exact k.tg t
theorem RO.tg (h:RO n g c g') (t:TG PR PW g):TG PR PW g':=by
 cases h with
 |pu _ _ _ _ _=>exact⟨t.q0,t.q,t.rd,t.Bi⟩
 |stop g' _ k=>exact k.tg t
theorem Me.tg (h:Me n g c g') (t:TG PR PW g):TG PR PW g':=by
 cases h with
 |lo _ _ _ _ _=>exact⟨t.q0,t.q,t.rd,t.Bi⟩
 |stop g' _ k=>exact k.tg t
theorem M6.tg (h:M6 n g c g') (t:TG PR PW g):TG PR PW g':=by
 cases h<;>exact⟨t.q0,t.q,t.rd,t.Bi⟩
theorem EO.tg (h:EO n g c g') (t:TG PR PW g):TG PR PW g':=by
 cases h with
 |ba _ _ _ _ _=>exact⟨t.q0,t.q,t.rd,t.Bi⟩
 |Of _=>exact⟨t.q0,t.q0,λ_ h=>(by cases h),λ_ h=>(by cases h)⟩
theorem gJ.tg (h:gJ n b g g') (t:TG PR PW g):TG PR PW g':=by
 cases h with
 |CR q' k _=>exact⟨t.q0,k.tq t.q,t.rd,t.Bi⟩
 |get q' c k=>exact⟨t.q0,k.tq t.q,t.rd,t.Bi⟩
 |TD q' g' k _ _ h=>exact h.tg ⟨t.q0,k.tq t.q,t.rd,t.Bi⟩
 |Gf q' g' k _ _ h=>exact h.tg ⟨t.q0,k.tq t.q,t.rd,t.Bi⟩
theorem bQ {f:Nat->Option Int} {P:Nat->Prop} (hf:∀d,(f d).isSome=V->P d) (hc:P c) (h:(En f c v d).isSome=V):P d:=by
 unfold En at h;split at h
 .rename_i he;rw[he];exact hc
 .exact hf d h
theorem Nx.tg (h:Nx n g v bad g') (t:TG PR PW g) (h3:∀c lv y,g.ph=.Fy c lv y->PR c) (h2:∀c lv,g.ph=.U1 c lv->PW c):TG PR PW g':=by
 cases h with
 |out _ q' k=>exact fC (k.tq (Aeo t.q))
 |Of _ _ _ r=>exact r.tg ⟨t.q0,u4 t.q0,λ_ h=>(by cases h),λ_ h=>(by cases h)⟩
 |Kg _ _=>exact⟨t.q0,t.q,t.rd,t.Bi⟩
 |dB _ _ _ r=>exact r.tg t
 |Fp _=>exact⟨t.q0,t.q,t.rd,t.Bi⟩
 |Fy h _ _ _ r=>exact r.tg ⟨t.q0,Afj t.q _,λc hc=>bQ t.rd (h3 _ _ _ h) hc,t.Bi⟩
 |dA _ _ _ r=>exact r.tg t
 |VC _ _=>exact⟨t.q0,t.q,t.rd,t.Bi⟩
 |wQ _ _ _ r=>exact r.tg t
 |U1 h _ _ r=>exact r.tg ⟨t.q0,t.q,t.rd,λc hc=>bQ t.Bi (h2 _ _ h) hc⟩
 |wP _ _ _ r=>exact r.tg t
 |xa _ _ r=>exact r.tg ⟨t.q0,t.q,t.rd,t.Bi⟩
 |lo _ _ _ r=>exact r.tg t
 |lob _ _ _ r=>exact r.tg t
 |pu _ _ r=>exact r.tg t
 |fr _ _ r=>exact r.tg t
 |te _ _ r=>exact r.tg t
 |ba _ _ r=>exact r.tg t
theorem mx (h:KR x g lt) (t:TG PR PW g):(∀c,(g.ph=.Kg c\/(∃lv,g.ph=.Fp c lv)\/∃lv y,g.ph=.Fy c lv y)->PR c)/\(∀c,(g.ph=.VC c\/∃lv,g.ph=.U1 c lv)->PW c)/\(∀c,g.ph=.lo c->PR c):=by
 have key:∀{m b s ab c p0 v r},Z7 x g m b s ab c p0 v r->PR c:=λhg=>by
  obtain⟨f,z,a,hs,h1,h2,h3⟩:=hg.stm;have ts:=t.q.s;rw[hs] at ts;have h0:=ts.1.1;exact ts.1.2 _ Y Y
 unfold KR at h;refine⟨λc hc=>?_,λc hc=>?_,λc hc=>?_⟩
 .rcases hc with hc|⟨lv,hc⟩|⟨lv,y,hc⟩<;>rw[hc] at h
  .obtain⟨b,s,ab,p0,v,r,hg,_⟩:=h;exact key hg
  .obtain⟨⟨b,s,ab,p0,v,r,hg,_⟩,_⟩:=h;exact key hg
  .obtain⟨⟨b,s,ab,p0,v,r,hg,_⟩,_⟩:=h;exact key hg
 .rcases hc with hc|⟨lv,hc⟩<;>rw[hc] at h
  .exact t.q.m c h.2.1
  .exact t.q.m c h.2.1
 .rw[hc] at h;exact t.rd c h.2.1
end
section
def Dw (g:Gt):Bool:=match g.ph with
 |.Kg _=>V
 |.Fp .. =>V
 |.Fy .. =>V
 |.VC _=>V
 |.U1 .. =>V
 |.xa=>V
 |.lo _=>V
 |_=>I
def oY (g:Gt):Option (Nat×Int):=match g.ph with
 |.Fp c lv=>U (c,lv)
 |.Fy c lv _=>U (c,lv)
 |.U1 c lv=>U (c,lv)
 |_=>Z
variable {n:Nat} {g g':Gt}
theorem LZ (q:KS):Dw (DJ q)=I:=by
 have:DJ q=⟨.Of,q,q,D9,D9,0,0⟩\/DJ q=⟨.node,q,q,D9,D9,0,0⟩:=by
  unfold DJ;split
  .exact .inl rfl
  .exact .inr rfl
 rcases this with e|e<;>rw[e]<;>rfl
theorem I7.Dw (h:I7 g i g'):Dw g'=I:=by
 cases h with
 |te _=>rfl
 |out q' _ _=>exact LZ q'
theorem KM.Dw (h:KM n g c g'):Dw g'=I:=by
 cases h with
 |fr _ _ _ _ _=>rfl
 |stop g' _ k=>exact k.Dw
theorem RO.Dw (h:RO n g c g'):Dw g'=I:=by
 cases h with
 |pu _ _ _ _ _=>rfl
 |stop g' _ k=>exact k.Dw
theorem EO.Dw (h:EO n g c g'):Dw g'=I:=by cases h<;>rfl
def Kp (g g':Gt):Prop:=Dw g'=I\/(g'.rv=g.rv/\g'.Bi=g.Bi/\oY g'=Z)
theorem Me.kp (h:Me n g c g'):Kp g g':=by
 cases h with
 |lo _ _ _ _ _=>exact .inr ⟨rfl,rfl,rfl⟩
 |stop g' _ k=>exact .inl k.Dw
theorem M6.kp (h:M6 n g c g'):Kp g g':=by cases h<;>exact .inr ⟨rfl,rfl,rfl⟩
theorem gJ.kp (h:gJ n b g g'):Kp g g':=by
 cases h with
 |CR _ _ _=>exact .inl rfl
 |get _ _ _=>exact .inr ⟨rfl,rfl,rfl⟩
 |TD q' g' _ _ _ h=>exact h.kp
 |Gf q' g' _ _ _ h=>exact .inl h.Dw
structure Cl (n:Nat) (Tk:Nat->Prop) (sm:Nat->Int) (g:Gt):Prop where
 aP:Dw g=V->∀c,c<n->Tk c->g.Bi c=Z->∃w,sm (8+c)=2*w/\0<=w/\w<=g.rv
 AN:∀c lv,oY g=U (c,lv)->sm (8+c)=lv
theorem Cl.ina (h:Dw g=I):Cl n Tk sm g:=by
 refine⟨λh2=>(by rw[h] at h2;cases h2),λc lv h2=>?_⟩;unfold oY at h2;unfold Dw at h;split at h2<;>rename_i hp<;>simp[hp] at h;cases h2
theorem Cl.kp (h:∀c,c<n->Tk c->g.Bi c=Z->∃w,sm (8+c)=2*w/\0<=w/\w<=g.rv) (hk:Kp g g'):Cl n Tk sm g':=by
 rcases hk with hk|⟨h1,h2,h3⟩
 .exact Cl.ina hk
 .exact⟨λ_ c hc ht hl=>by rw[h1];exact h c hc ht (by rw[<-h2];exact hl),λc lv h4=>by rw[h3] at h4;cases h4⟩
theorem AfI {t:Nat} (h6:n<=6) (hxn:x.n=n) (ht:t<T) (hl:LK T n A.sm (A.sm 16) (λu=>BR (G u)) λu=>(A.th u).sw++AH n (G u)) (Ri:(A.th t).sw=[])
  (ho:∀u,u<T->u≠t->∀c,c<n->Tk c->BR (G u) c=Z/\∀v,(8+c,v)∉(A.th u).sw++AH n (G u)) (hg:TG Tk Tk (G t)) (B8:Cl n Tk A.sm (G t)) {lt:LT} (ha:KR x (G t) lt) {e:Ek} {bad:Bool} (he:Pb (G t)=U e) (hn:Nx n (G t) (vE A.sm (A.th t).sw e) bad g'):
  bad=I/\Cl n Tk (mE A.sm e) g'/\((tE A.sm (A.th t) e).sw=[]\/Dw g'=I):=by
 obtain⟨c1,c2,c3⟩:=mx ha hg;obtain⟨k1,k2,k3,k4,k5,k6⟩:=T6 ha;have Bg:=he;unfold Pb at Bg;have hcn:∀c,(G t).ph=.Kg c\/(G t).ph=.VC c\/(G t).ph=.lo c->c<n:=λc hc=>by
  have Nl:=ha;unfold KR at Nl;rw[<-hxn];rcases hc with hc|hc|hc<;>rw[hc] at Nl
  .obtain⟨b,s,ab,p0,v,r,hg,_⟩:=Nl;exact hg.Mh.lt
  .exact Nl.1
  .exact Nl.1
 have Gq:∀c,((G t).ph=.Kg c\/(G t).ph=.VC c\/(G t).ph=.lo c)->(G t).Bi c=Z:=λc hc=>by
  have hlt:=hcn c hc;have Nl:=ha;unfold KR at Nl;rcases hc with hc|hc|hc<;>rw[hc] at Nl
  .obtain⟨b,s,ab,p0,v,r,hg,_⟩:=Nl;rw[hg.Bi];rfl
  .have:=Nl.2.2.1 c (by rw[hxn];exact hlt);rw[JJ Y] at this;cases h:(G t).Bi c with
   |none=>rfl
   |some v=>rw[h] at this;cases this
  .have:=Nl.2.2.1;cases h:(G t).Bi c with
   |none=>rfl
   |some v=>rw[h] at this;cases this
 have hvw:∀a,vw (A.th t).sw (A.sm a) a=A.sm a:=λa=>by rw[Ri];rfl
 cases hn with
 |out h q' k=>
  refine⟨rfl,Cl.ina (LZ q'),.inr (LZ q')⟩
 |Of h h0 _ r=>
  rw[h] at Bg;cases Bg;refine⟨rfl,Cl.kp (λc hc VD _=>?_) r.kp,.inl Ri⟩;have hv:vE A.sm (A.th t).sw (.ld 1 16)=A.sm 16:=hvw 16;show∃w,A.sm (8+c)=2*w/\0<=w/\w<=vE A.sm (A.th t).sw (.ld 1 16);rw[hv];refine hl.free c hc λu hu=>?_
  by_cases tn:u=t
  .subst tn;refine⟨by show BR (G u) c=Z;rw[Dj (by unfold CS;rw[h])];rfl,λv hv=>?_⟩;have:(8+c,v)∈(A.th u).sw++AH n (G u):=hv;rw[Ri,show AH n (G u)=[] by unfold AH;rw[h]] at this;cases this
  .exact ho u hu tn c hc VD
 |Kg h hv=>
  exact nao
 |dB h hv _ r=>
  rename_i c;rw[h] at Bg;cases Bg;refine Jk ?_ hv;have:=B8.aP (by unfold Dw;rw[h]) c (hcn c (.inl h)) (c1 c (.inl h)) (Gq c (.inl h));rw[<-hvw] at this;exact this
 |Fp h=>
  rw[h] at Bg;cases Bg;refine⟨rfl,⟨λ_=>B8.aP (by unfold Dw;rw[h]),λc lv h2=>?_⟩,.inl Ri⟩;cases h2;exact B8.AN _ _ (by unfold oY;rw[h])
 |Fy h hv h0 _ r=>
  exact naA
 |dA h hv _ r=>
  rename_i c lv y;rw[h] at Bg;cases Bg;exact Jk ((hvw _).trans (B8.AN c lv (by unfold oY;rw[h]))) hv
 |VC h hv=>
  exact nao
 |wQ h hv _ r=>
  rename_i c;rw[h] at Bg;cases Bg;refine Jk ?_ hv;have:=B8.aP (by unfold Dw;rw[h]) c (hcn c (.inr (.inl h))) (c2 c (.inl h)) (Gq c (.inr (.inl h)));rw[<-hvw] at this;exact this
 |U1 h hv _ r=>
  rename_i c lv;rw[h] at Bg;cases Bg;have Rk:A.sm (8+c)=lv:=B8.AN c lv (by unfold oY;rw[h]);have hm:mE A.sm (.KL 3 (8+c) lv (lv+1))=Cv A.sm (8+c) (lv+1):=by show(if _ then _ else _)=_;rw[Jb Rk]
  refine⟨rfl,Cl.kp (g:={G t with Bi:=En (G t).Bi c lv}) (λd hd VD lz=>?_) r.kp,.inl Ri⟩;have gi:En (G t).Bi c lv d=Z:=lz;unfold En at gi;split at gi
  .cases gi
  .rename_i hdc;rw[hm,Bp _ _ Y];exact B8.aP (by unfold Dw;rw[h]) d hd VD gi
 |wP h hv _ r=>
  rename_i c lv;rw[h] at Bg;cases Bg;have Rk:A.sm (8+c)=lv:=B8.AN c lv (by unfold oY;rw[h]);have Vc:(if A.sm (8+c)=lv then (1:Int) else 0)=0:=hv;rw[Jb Rk] at Vc;cases Vc
 |xa h _ r=>
  rw[h] at Bg;cases Bg;refine⟨rfl,Cl.kp (g:={G t with wv:=_}) (λd hd VD lz=>?_) r.kp,.inl Ri⟩;show∃w,Cv A.sm 16 (A.sm 16+1) (8+d)=2*w/\_;rw[Bp _ _ Y];exact B8.aP (by unfold Dw;rw[h]) d hd VD lz
 |lo h hv _ r=>
  exact naA
 |lob h hv _ r=>
  rename_i c;rw[h] at Bg;cases Bg;refine Jk ?_ hv;have:=B8.aP (by unfold Dw;rw[h]) c (hcn c (.inr (.inr h))) (c3 c h) (Gq c (.inr (.inr h)));rw[<-hvw] at this;exact this
 |pu h _ r=>exact⟨rfl,Cl.ina r.Dw,.inr r.Dw⟩
 |fr h _ r=>exact⟨rfl,Cl.ina r.Dw,.inr r.Dw⟩
 |te h _ r=>exact⟨rfl,Cl.ina r.Dw,.inr r.Dw⟩
 |ba h _ r=>exact⟨rfl,Cl.ina r.Dw,.inr r.Dw⟩
inductive aB (X:Nat->Cx) (k:Nat):AM->AM->Prop
 |nil (A:AM):aB X k A A
 |cons {A B C:AM} (h:AS X A k V B) (r:aB X k B C):aB X k A C
structure uv (X:Nat->Cx) (T n M:Nat) (K:Int) (Tk:Nat->Prop) (A:AM) (G:Nat->Gt) (k:Nat):Prop where
 l1:L1 X T n M K A G
 tg:TG Tk Tk (G k)
 oth:∀u,u<T->u≠k->∀c,c<n->Tk c->BR (G u) c=Z/\∀v,(8+c,v)∉(A.th u).sw++AH n (G u)
def It (X:Nat->Cx) (k:Nat) (A A':AM):Prop:=∃A0 A1,aB X k A A0/\AS X A0 k I A1/\aB X k A1 A'/\(A'.th k).sw=[]
theorem L1.bN {M:Nat} {K':Int} (h:L1 X T n M K A G) (hk:A.sm 16<=K'):L1 X T n M K' A G:=⟨h.th,h.pt,⟨h.c0.1,hk⟩,h.rv,h.lk,h.D1⟩
theorem Sv {k:Nat} {fl:Bool} (h:AS X A k fl A'):∀u,u≠k->A'.th u=A.th u:=λu hu=>by cases h<;>exact A6 _ _ hu
section
variable {X:Nat->Cx} {T M:Nat} {K:Int} {Tk:Nat->Prop} {k:Nat} (h6:n<=6) (hX:∀t,t<T->Nr (X t)/\(X t).n=n) (hk:k<T)
include h6 hX hk
theorem aB.l1 (f:aB X k A A'):L1 X T n M K A G->K<1000000000000000000->L1 X T n M K A' G/\(A'.th k).lt=(A.th k).lt/\(A'.th k).st=(A.th k).st/\(A'.th k).out=(A.th k).out/\((A.th k).sw=[]->A'=A)/\∀u,u≠k->A'.th u=A.th u:=by
 induction f with
 |nil A=>intro h _;exact⟨h,rfl,rfl,rfl,λ_=>rfl,λ_ _=>rfl⟩
 |cons h r ih=>
  rename_i A B C;intro hs hK;obtain⟨g',hg,hl,bp⟩:=hs.step h6 hX hK hk h;have Wb:=Sv h;have L6:g'=G k/\(B.th k).lt=(A.th k).lt/\(B.th k).st=(A.th k).st/\(B.th k).out=(A.th k).out/\(A.th k).sw≠[]:=by
   cases hg with
   |C7 Ri=>refine⟨rfl,?_,?_,?_,by rw[Ri];simp⟩<;>simp only[Am]
  rw[L6.1,Dp] at hl;obtain⟨h2,h3,h4,h5,_,h7⟩:=ih (hl.bN (by rw[bp rfl];exact hs.c0.2)) hK;exact⟨h2,h3.trans L6.2.1,h4.trans L6.2.2.1,h5.trans L6.2.2.2.1,λhe=>Jk he L6.2.2.2.2,λu hu=>(h7 u hu).trans (Wb u hu)⟩
theorem aB.sol (f:aB X k A A') (h:uv X T n M K Tk A G k) (hK:K<1000000000000000000):uv X T n M K Tk A' G k/\(A'.th k).lt=(A.th k).lt/\(A'.th k).st=(A.th k).st/\((A.th k).sw=[]->A'=A):=by
 obtain⟨h1,h2,h3,_,h4,h5⟩:=f.l1 h6 hX hk h.l1 hK;exact⟨⟨h1,h.tg,λu hu hne c hc ht=>by rw[h5 u hne];exact h.oth u hu hne c hc ht⟩,h2,h3,h4⟩
theorem uv.go {A1:AM} (hs:uv X T n M K Tk A G k) (hK:K<1000000000000000000) (h:AS X A k I A1) (h0:(A.th k).st=0):∃g',Xm (X k) n A (G k) k I A1 g'/\uv X T n M (K+1) Tk A1 (A5 G k g') k:=by
 obtain⟨g',hg,hl,_⟩:=hs.l1.step h6 hX hK hk h;obtain⟨j,lt',_,ha,_⟩:=hs.l1.th k hk h0;have Wb:=Sv h;refine⟨g',hg,hl,?_,λu hu hne c hc ht=>?_⟩
 .rw[Am];cases hg with
  |Pl _=>exact hs.tg
  |stop _ _=>exact hs.tg
  |ev he _ _ _ hn _ _ _=>
   obtain⟨c1,c2,c3⟩:=mx ha hs.tg;exact hn.tg hs.tg (λc lv y h=>c1 c (.inr (.inr ⟨lv,y,h⟩))) λc lv h=>c2 c (.inr ⟨lv,h⟩)
 .rw[Wb u hne,A6 _ _ hne];exact hs.oth u hu hne c hc ht
theorem uv.it (hs:uv X T n M K Tk A G k) (hK:K<1000000000000000000-1) (h0:(A.th k).st=0) (hm:Ww (X k) m (A.th k).lt (G k)) (h:It X k A A'):
  (A'.th k).st≠0\/∃G',uv X T n M (K+1) Tk A' G' k/\(A'.th k).sw=[]/\((∃m',m=m'+1/\Ww (X k) m' (A'.th k).lt (G' k)/\((A.th k).sw=[]->Cl n Tk A.sm (G k)->Cl n Tk A'.sm (G' k)))\/
    (¬((A.th k).sw=[]/\Cl n Tk A.sm (G k))/\Cl n Tk A'.sm (G' k)/\Ww (X k) (M+67) (A'.th k).lt (G' k))):=by
 obtain⟨A0,A1,f0,Aw,f1,Ri⟩:=h;obtain⟨s0,e1,e2,e3⟩:=f0.sol h6 hX hk hs Y;rw[<-e1] at hm;have h00:=e2.trans h0;obtain⟨g',hg,s1⟩:=s0.go h6 hX hk Y Aw h00;obtain⟨s2,e4,e5,e6⟩:=f1.sol h6 hX hk s1 Y;by_cases Xu:(A1.th k).st=0
 .right;refine⟨A5 G k g',s2,Ri,?_⟩;rw[e4,Am];have Aff:(A.th k).sw=[]->Cl n Tk A.sm (G k)->Cl n Tk A0.sm (G k)/\(A0.th k).sw=[]:=λh1 h2=>by rw[e3 h1];exact⟨h2,h1⟩
  cases hg with
  |Pl hp=>
   obtain⟨m',rfl,Xs⟩:=hp m hm;refine .inl ⟨m',rfl,by simp only[Am];exact Xs,λh1 h2=>?_⟩;obtain⟨h3,h4⟩:=Aff h1 h2;rw[e6 (by simp only[Am];exact h4)];exact h3
  |stop he _=>
   simp only[Am] at Xu;exact Jk Xu (XP he).2.1
  |ev he pR yO hd hn hr ha hp=>
   rename_i e bad j lt';obtain⟨j0,lt0,hr0,Lp,AnS⟩:=hm;simp only[Am];have B8:(A.th k).sw=[]->Cl n Tk A.sm (G k)->bad=I/\Cl n Tk A'.sm g':=λh1 h2=>by
    obtain⟨h3,h4⟩:=Aff h1 h2;obtain⟨b1,b2,b3⟩:=AfI h6 (hX k hk).2 hk s0.l1.lk h4 s0.oth s0.tg h3 Lp he hn;refine⟨b1,?_⟩;rcases b3 with b3|b3
    .rw[e6 (by simp only[Am];exact b3)];exact b2
    .exact Cl.ina b3
   cases bad with
   |false=>
    have Rm:j+1+Pn (X k) g'<=Pn (X k) (G k):=hp;refine .inl ⟨m-1,Y,⟨j,lt',hr,ha,Y⟩,λh1 h2=>(B8 h1 h2).2⟩
   |true=>
    have Rm:j+Pn (X k) g'<=Dy (G k).q0+40:=hp;have hq:=(s0.l1.pt k hk).q0;obtain⟨c,hb⟩:=hn.Gb (.inl rfl);exact .inr ⟨λ⟨h1,h2⟩=>(by have:=(B8 h1 h2).1;cases this),Cl.ina hb.Dw,j,lt',hr,ha,Y⟩
 .left;rw[e5];exact Xu
end
theorem Aah {M:Nat} {k:Nat} (h6:n<=6) (hX:∀t,t<T->Nr (X t)/\(X t).n=n) (hk:k<T) {A:AM} {G:Nat->Gt} (hs:uv X T n M K Tk A G k) (hK:K<100000000000000000) (hM:M<1000000000) (P:Nat->AM->Prop) (h0:P 0 A)
  (hf:∀i A G (K:Int),P i A->K<1000000000000000000-1->uv X T n M K Tk A G k->(A.th k).st=0->∃A',It X k A A'/\P (i+1) A'):∃i A',i<=2*M+140/\P i A'/\(A'.th k).st≠0:=by
 have Og:∀(m i:Nat) (A:AM) (G:Nat->Gt) (K:Int),P i A->K<1000000000000000000-(m:Int)-2->uv X T n M K Tk A G k->(A.th k).sw=[]->Cl n Tk A.sm (G k)->Ww (X k) m (A.th k).lt (G k)->∃j A',j<=m+1/\P (i+j) A'/\(A'.th k).st≠0:=by
  intro m;induction m with
  |zero=>
   intro i A G K hp hK hs Ri hc hm;by_cases h0:(A.th k).st=0
   .obtain⟨A',hi,Rm⟩:=hf i A G K hp Y hs h0;rcases hs.it h6 hX hk Y h0 hm hi with h|⟨G',_,_,⟨m',h,_⟩|⟨h,_⟩⟩
    .exact⟨1,A',Y,Rm,h⟩
    .omega
    .exact Jk ⟨Ri,hc⟩ h
   .exact⟨0,A,Y,hp,h0⟩
  |succ m ih=>
   intro i A G K hp hK hs Ri hc hm;by_cases h0:(A.th k).st=0
   .obtain⟨A',hi,Rm⟩:=hf i A G K hp Y hs h0;rcases hs.it h6 hX hk Y h0 hm hi with h|⟨G',V9,aV,⟨m',h,Xs,lG⟩|⟨h,_⟩⟩
    .exact⟨1,A',Y,Rm,h⟩
    .obtain rfl:m'=m:=Y
     obtain⟨j,B,hj,hb,h⟩:=ih (i+1) A' G' (K+1) Rm Y V9 aV (lG Ri hc) Xs;exact nai
    .exact Jk ⟨Ri,hc⟩ h
   .exact⟨0,A,Y,hp,h0⟩
 have fD:∀(m i:Nat) (A:AM) (G:Nat->Gt) (K:Int),P i A->K<1000000000000000000-(m:Int)-(M:Int)-100->uv X T n M K Tk A G k->Ww (X k) m (A.th k).lt (G k)->∃j A',j<=m+M+70/\P (i+j) A'/\(A'.th k).st≠0:=by
  intro m;induction m with
  |zero=>
   intro i A G K hp hK hs hm;by_cases h0:(A.th k).st=0
   .obtain⟨A',hi,Rm⟩:=hf i A G K hp Y hs h0;rcases hs.it h6 hX hk Y h0 hm hi with h|⟨G',V9,aV,⟨m',h,_⟩|⟨_,lG,Xs⟩⟩
    .exact⟨1,A',Y,Rm,h⟩
    .omega
    .obtain⟨j,B,hj,hb,h⟩:=Og (M+67) (i+1) A' G' (K+1) Rm Y V9 aV lG Xs;exact nai
   .exact⟨0,A,Y,hp,h0⟩
  |succ m ih=>
   intro i A G K hp hK hs hm;by_cases h0:(A.th k).st=0
   .obtain⟨A',hi,Rm⟩:=hf i A G K hp Y hs h0;rcases hs.it h6 hX hk Y h0 hm hi with h|⟨G',V9,aV,⟨m',h,Xs,_⟩|⟨_,lG,Xs⟩⟩
    .exact⟨1,A',Y,Rm,h⟩
    .obtain rfl:m'=m:=Y
     obtain⟨j,B,hj,hb,h⟩:=ih (i+1) A' G' (K+1) Rm Y V9 Xs;exact nai
    .obtain⟨j,B,hj,hb,h⟩:=Og (M+67) (i+1) A' G' (K+1) Rm Y V9 aV lG Xs;exact nai
   .exact⟨0,A,Y,hp,h0⟩
 by_cases hz:(A.th k).st=0
 .obtain⟨j,B,hj,hb,h⟩:=fD (M+67) 0 A G K h0 Y hs (hs.l1.th k hk hz);exact⟨j,B,Y,by rwa[JH] at hb,h⟩
 .exact⟨0,A,Y,h0,hz⟩
end
namespace Al
def th (M:Al) (k:Nat):CH:=M.ts.getD k CH.new
def CQ (M:Al) (k:Nat) (t:CH):Al:={M with ts:=M.ts.set k t}
def C7 (M:Al) (k:Nat):Al:=match (M.th k).waits with
 |[]=>M
 |p::r=>{mem:=M.mem.set p.1.toNat p.2,ts:=M.ts.set k {M.th k with waits:=r}}
def Mc:Nat->Al->Nat->Al
 |0,M,_=>M
 |n+1,M,k=>Mc n (M.C7 k) k
def Cm (M:Al) (k:Nat):Al:=Mc (M.th k).waits.length M k
def wv (l:List (Int×Int)) (v a:Int):Int:=l.foldl (λv p=>if p.1=a then p.2 else v) v
def SC (M:Al) (k:Nat) (a:Int):Int:=wv (M.th k).waits (M.mem.getD a.toNat 0) a
end Al
def CH.ev (t:CH) (a:Ag):Int:=if a.Dd then t.DA.getD a.v.toNat 0 else a.v
def CH.DD (t:CH) (d v:Int):CH:={t with DA:=t.DA.set d.toNat v}
namespace Al
def TZ (M:Al) (k:Nat) (i:GI):Al:=
 let t:=M.th k
 match i with
 |.Y4 d a=>M.CQ k (t.DD d (t.ev a))
 |.op n d a b=>match BO n (t.ev a) (t.ev b) with
  |none=>M.CQ k {t with Au:=1}
  |some v=>M.CQ k (t.DD d v)
 |.load d a j=>
  let p:=wrap64 (t.ev a+j)
  if p<0\/256<=p then M.CQ k {t with Au:=9} else M.CQ k (t.DD d (M.SC k p))
 |.store a j b=>
  let p:=wrap64 (t.ev a+j)
  if p<0\/256<=p then M.CQ k {t with Au:=9} else
   let M:=if J t.waits=4 then M.C7 k else M
   M.CQ k {M.th k with waits:=(M.th k).waits++[(p,t.ev b)]}
 |.KL d a j b c=>
  let p:=wrap64 (t.ev a+j)
  let M:=M.Cm k
  if p<0\/256<=p then M.CQ k {M.th k with Au:=9} else
   if M.SC k p=t.ev b then {mem:=M.mem.set p.toNat (t.ev c),ts:=M.ts.set k ((M.th k).DD d 1)} else M.CQ k ((M.th k).DD d 0)
 |.Em d a j b=>
  let p:=wrap64 (t.ev a+j)
  let M:=M.Cm k
  if p<0\/256<=p then M.CQ k {M.th k with Au:=9} else {mem:=M.mem.set p.toNat (wrap64 (M.SC k p+t.ev b)),ts:=M.ts.set k ((M.th k).DD d (M.SC k p))}
 |.Ma=>M.Cm k
 |.out a=>M.CQ k {t with out:=t.out++[t.ev a]}
 |.GF q=>M.CQ k {t with pc:=q.toNat}
 |.jz a q=>if t.ev a=0 then M.CQ k {t with pc:=q.toNat} else M
 |.CR s=>M.CQ k {t with Au:=s}
 |.halt=>M.CQ k {t with Au:=10}
def step (Ab:Nat->List GI) (M:Al) (k:Nat):Al:=
 if J M.ts<=k\/(M.th k).Au≠0 then M else match (Ab k)[(M.th k).pc]? with
  |none=>M.CQ k {M.th k with Au:=10}
  |some i=>(M.CQ k {M.th k with pc:=(M.th k).pc+1}).TZ k i
end Al
namespace Al
section
variable (M:Al) (k:Nat)
theorem AcX (d:Int) (a:Ag):M.TZ k (.Y4 d a)=M.CQ k ((M.th k).DD d ((M.th k).ev a)):=rfl
theorem tW (n:ByteArray) (d:Int) (a b:Ag):M.TZ k (.op n d a b)=match BO n ((M.th k).ev a) ((M.th k).ev b) with|none=>M.CQ k {M.th k with Au:=1}|some v=>M.CQ k ((M.th k).DD d v):=rfl
theorem dL (d:Int) (a:Ag) (j:Int):M.TZ k (.load d a j)=if wrap64 ((M.th k).ev a+j)<0\/256<=wrap64 ((M.th k).ev a+j) then M.CQ k {M.th k with Au:=9} else M.CQ k ((M.th k).DD d (M.SC k (wrap64 ((M.th k).ev a+j)))):=rfl
theorem ZN (a:Ag) (j:Int) (b:Ag):M.TZ k (.store a j b)=if wrap64 ((M.th k).ev a+j)<0\/256<=wrap64 ((M.th k).ev a+j) then M.CQ k {M.th k with Au:=9} else
  (if (M.th k).waits.length=4 then M.C7 k else M).CQ k {(if (M.th k).waits.length=4 then M.C7 k else M).th k with waits:=((if (M.th k).waits.length=4 then M.C7 k else M).th k).waits++[(wrap64 ((M.th k).ev a+j),(M.th k).ev b)]}:=rfl
theorem lT (d:Int) (a:Ag) (j:Int) (b c:Ag):M.TZ k (.KL d a j b c)=if wrap64 ((M.th k).ev a+j)<0\/256<=wrap64 ((M.th k).ev a+j) then (M.Cm k).CQ k {(M.Cm k).th k with Au:=9} else
  if (M.Cm k).SC k (wrap64 ((M.th k).ev a+j))=(M.th k).ev b then {mem:=(M.Cm k).mem.set (wrap64 ((M.th k).ev a+j)).toNat ((M.th k).ev c),ts:=(M.Cm k).ts.set k (((M.Cm k).th k).DD d 1)} else (M.Cm k).CQ k (((M.Cm k).th k).DD d 0):=rfl
theorem dK (d:Int) (a:Ag) (j:Int) (b:Ag):M.TZ k (.Em d a j b)=if wrap64 ((M.th k).ev a+j)<0\/256<=wrap64 ((M.th k).ev a+j) then (M.Cm k).CQ k {(M.Cm k).th k with Au:=9} else
  {mem:=(M.Cm k).mem.set (wrap64 ((M.th k).ev a+j)).toNat (wrap64 ((M.Cm k).SC k (wrap64 ((M.th k).ev a+j))+(M.th k).ev b)),ts:=(M.Cm k).ts.set k (((M.Cm k).th k).DD d ((M.Cm k).SC k (wrap64 ((M.th k).ev a+j))))}:=rfl
theorem AcW (a:Ag):M.TZ k (.out a)=M.CQ k {M.th k with out:=(M.th k).out++[(M.th k).ev a]}:=rfl
theorem AcY (q:Int):M.TZ k (.GF q)=M.CQ k {M.th k with pc:=q.toNat}:=rfl
theorem tX (a:Ag) (q:Int):M.TZ k (.jz a q)=if (M.th k).ev a=0 then M.CQ k {M.th k with pc:=q.toNat} else M:=rfl
theorem xT (s:Int):M.TZ k (.CR s)=M.CQ k {M.th k with Au:=s}:=rfl
theorem xU:M.TZ k .halt=M.CQ k {M.th k with Au:=10}:=rfl
end
end Al
def yL (l:List (Int×Int)):List (Nat×Int):=l.filterMap λp=>if p.1<32 then U (p.1.toNat,p.2) else Z
structure WE (Ac:Int) (rt:CH) (mem:List Int) (s:AT):Prop where
 pc:rt.pc=s.lt.pc
 rl:J rt.DA=8
 DA:∀r,r<8->rt.DA.getD r 0=s.lt.x.R r
 Pl:∀o:Nat,o<64->Al.wv rt.waits (mem.getD (Ac+o).toNat 0) (Ac+o)=s.lt.x.m.get o
 sw:s.sw=yL rt.waits
 wa:∀p,p∈rt.waits->0<=p.1/\(p.1<32\/(Ac<=p.1/\p.1<Ac+64))
 wl:J rt.waits<=4
 st:rt.Au=s.st
 out:rt.out=s.out
structure Ug (X:Nat->Cx) (T:Nat) (M:Al) (A:AM):Prop where
 ml:J M.mem=256
 tl:J M.ts=T
 sm:∀a,a<32->M.mem.getD a 0=A.sm a
 th:∀t,t<T->WE (X t).Ac (M.th t) M.mem (A.th t)
theorem B6 {α:Type} (l:List α) (i j:Nat) (v d:α) (h:i<J l):(l.set i v).getD j d=if j=i then v else l.getD j d:=by
 rw[Je,Qw];grind
theorem Tm {M:Al} {k t:Nat} {v:CH} (h:k<J M.ts):Al.th {mem:=mem,ts:=M.ts.set k v} t=if t=k then v else M.th t:=B6 _ _ _ _ _ h
theorem AdO {l:List (Int×Int)} (h:∀p,p∈l->0<=p.1) {a:Nat} (ha:a<32) (v:Int):Al.wv l v a=vw (yL l) v a:=by
 induction l generalizing v with
 |nil=>rfl
 |cons p r ih=>
  show Al.wv r (if p.1=(a:Int) then p.2 else v) a=_;rw[ih AC];have h0:=h p (Jd ..);grind [yL,vw]
section
variable {X:Nat->Cx} {T:Nat} (hB:∀t,t<T->(X t).Ac=32+64*(t:Int)) (hT:T<=3)
include hB hT
theorem Ug.C7 {M:Al} {k:Nat} (h:Ug X T M A) (hk:k<T):∃A',aB X k A A'/\Ug X T (M.C7 k) A'/\((M.C7 k).th k).waits=(M.th k).waits.tail/\(A'.th k).lt=(A.th k).lt/\(A'.th k).st=(A.th k).st/\(A'.th k).out=(A.th k).out/\A'.sm 16=(M.C7 k).mem.getD 16 0:=by
 have hb:=hB k hk;obtain⟨ml,tl,sm,Ex⟩:=h;unfold Al.C7;cases hw:(M.th k).waits with
 |nil=>exact⟨A,.nil A,⟨ml,tl,sm,Ex⟩,by rw[hw];rfl,rfl,rfl,rfl,AC⟩
 |cons p r=>
  have Kf:k<J M.ts:=by rw[tl];exact hk
  have hK:=Ex k hk;obtain⟨gf,N0⟩:=hK.wa p (by rw[hw];exact Jd ..);have hpl:p.1.toNat<J M.mem:=by rw[ml];omega
  have Nk:∀t,t<T->∀o:Nat,o<64->t≠k->(M.mem.set p.1.toNat p.2).getD ((X t).Ac+o).toNat 0=M.mem.getD ((X t).Ac+o).toNat 0:=AC;have pC:∀t,t<T->t≠k->WE (X t).Ac (M.th t) (M.mem.set p.1.toNat p.2) (A.th t):=λt ht hne=>by
   obtain⟨a1,a2,a3,a4,a5,a6,a7,a8,a9⟩:=Ex t ht;exact⟨a1,a2,a3,AC,a5,a6,a7,a8,a9⟩
  obtain⟨a1,a2,a3,a4,a5,a6,a7,a8,a9⟩:=hK;have Cp:∀o:Nat,o<64->Al.wv r ((M.mem.set p.1.toNat p.2).getD ((X k).Ac+o).toNat 0) ((X k).Ac+o)=(A.th k).lt.x.m.get o:=λo ho=>by
   rw[<-a4 o ho,hw,B6 _ _ _ _ _ hpl];show _=Al.wv r (if p.1=(X k).Ac+o then p.2 else _) _;by_cases he:p.1=(X k).Ac+o<;>grind [WE]
  have tj:J r<=4:=by rw[hw] at a7;grind
  have hwa:∀q,q∈r->0<=q.1/\(q.1<32\/((X k).Ac<=q.1/\q.1<(X k).Ac+64)):=AC;by_cases h32:p.1<32
  .have Ri:(A.th k).sw=(p.1.toNat,p.2)::yL r:=by rw[a5,hw];unfold yL;rw[jJ,Jb h32]
   refine⟨⟨Cv A.sm p.1.toNat p.2,A5 A.th k {A.th k with sw:=yL r}⟩,.cons (.C7 Ri) (.nil _),⟨by show(M.mem.set _ _).length=256;rw[Ju,ml],by show(M.ts.set _ _).length=T;rw[Ju,tl],λa ha=>?_,λt ht=>?_⟩,?_,?_,?_,?_,?_⟩;grind [Cv,B6]
   .rw[Tm Kf];by_cases hne:t=k
    .subst hne;rw[Jb rfl];show WE _ _ _ (A5 A.th t _ t);rw[Am];exact⟨a1,a2,a3,Cp,rfl,hwa,tj,a8,a9⟩
    grind [A6]
   grind [Tm];grind [Am];grind [Am];grind [Am];grind [Cv,B6,sm 16 Do]
  .refine⟨A,.nil A,⟨by show(M.mem.set _ _).length=256;rw[Ju,ml],by show(M.ts.set _ _).length=T;rw[Ju,tl],λa ha=>?_,λt ht=>?_⟩,?_,rfl,rfl,rfl,?_⟩
   .show(M.mem.set p.1.toNat p.2).getD a 0=_;rw[B6 _ _ _ _ _ hpl,In Y];grind
   .rw[Tm Kf];by_cases hne:t=k
    .subst hne;rw[Jb rfl];exact⟨a1,a2,a3,Cp,by rw[a5,hw];unfold yL;rw[jJ,In h32],hwa,tj,a8,a9⟩
    grind
   grind [Tm]
   .show _=(M.mem.set p.1.toNat p.2).getD 16 0;rw[B6 _ _ _ _ _ hpl,In Y];grind
theorem aB.trans {k:Nat} {B C:AM} (h:aB X k A B) (r:aB X k B C):aB X k A C:=by
 have _:=hB;have _:=hT;induction h<;>grind [cons]
theorem Ug.Mc {k:Nat} (hk:k<T):∀(n:Nat) {M:Al} {A:AM},Ug X T M A->(M.th k).waits.length<=n->∃A',aB X k A A'/\Ug X T (Al.Mc n M k) A'/\((Al.Mc n M k).th k).waits=[]/\(A'.th k).sw=[]/\(A'.th k).lt=(A.th k).lt/\(A'.th k).st=(A.th k).st/\(A'.th k).out=(A.th k).out:=by
 intro n;induction n with
 |zero=>
  intro M A h hl;have e:(M.th k).waits=[]:=AC;exact⟨A,.nil A,h,e,by rw[(h.th k hk).sw,e];rfl,rfl,rfl,rfl⟩
 |succ n ih=>
  intro M A h hl;obtain⟨A1,f1,h1,e1,e2,e3,e4,_⟩:=h.C7 hB hT hk;obtain⟨A2,f2,h2,e5,e6,e7,e8,e9⟩:=ih h1 (by rw[e1,QF];omega);exact⟨A2,aB.trans hB hT f1 f2,h2,e5,e6,AC,AC,AC⟩
theorem Ug.Cm {M:Al} {k:Nat} (h:Ug X T M A) (hk:k<T):∃A',aB X k A A'/\Ug X T (M.Cm k) A'/\((M.Cm k).th k).waits=[]/\(A'.th k).sw=[]/\(A'.th k).lt=(A.th k).lt/\(A'.th k).st=(A.th k).st/\(A'.th k).out=(A.th k).out:=Ug.Mc hB hT hk _ h AC
omit hB hT in
theorem AkO {s:AT} (h:WE Ac rt mem s) {a:Ag} (ha:D7 a):rt.ev a=Ey s.lt.x.R a:=by
 grind [D7,CH.ev,Ey,Oq,WE]
omit hB hT in
theorem VQ {s:AT} (h:WE Ac rt mem s) {d:Int} (hd:Oq d) (v:Int):(rt.DD d v).DA.length=8/\∀r,r<8->(rt.DD d v).DA.getD r 0=Cv s.lt.x.R d.toNat v r:=by
 unfold Oq at hd;refine⟨by show(rt.DA.set _ _).length=8;rw[Ju];exact h.rl,λr hr=>?_⟩;show(rt.DA.set d.toNat v).getD r 0=_;rw[B6 _ _ _ _ _ (by rw[h.rl];omega)];unfold Cv;split<;>grind [WE]
theorem Ug.set {M:Al} {k:Nat} (h:Ug X T M A) (hk:k<T) {rt:CH} {s:AT} (hs:WE (X k).Ac rt M.mem s):Ug X T (M.CQ k rt) ⟨A.sm,A5 A.th k s⟩:=by
 have _:=hB;have _:=hT;have Kf:k<J M.ts:=by rw[h.tl];exact hk
 refine⟨h.ml,by show(M.ts.set _ _).length=T;rw[Ju,h.tl],h.sm,λt ht=>?_⟩;show WE _ ((M.ts.set k rt).getD t CH.new) M.mem (A5 A.th k s t);rw[B6 _ _ _ _ _ Kf];unfold A5;by_cases hne:t=k;grind
 .rw[In hne,In hne];exact h.th t ht
omit hT in
theorem Ug.put {M:Al} {k:Nat} (h:Ug X T M A) (hk:k<T) {a:Nat} (ha:a<32) {v:Int} {rt:CH} {s:AT} (hs:∀mem,(∀o:Nat,o<64->mem.getD ((X k).Ac+o).toNat 0=M.mem.getD ((X k).Ac+o).toNat 0)->WE (X k).Ac rt mem s):
  Ug X T {mem:=M.mem.set a v,ts:=M.ts.set k rt} ⟨Cv A.sm a v,A5 A.th k s⟩:=by
 have Kf:k<J M.ts:=by rw[h.tl];exact hk
 have xz:a<J M.mem:=by rw[h.ml];omega
 have Nk:∀t,t<T->∀o:Nat,o<64->(M.mem.set a v).getD ((X t).Ac+o).toNat 0=M.mem.getD ((X t).Ac+o).toNat 0:=AC;refine⟨by show(M.mem.set _ _).length=256;rw[Ju,h.ml],by show(M.ts.set _ _).length=T;rw[Ju,h.tl],λb hb=>?_,λt ht=>?_⟩;grind [Cv,B6,h.sm b hb]
 .show WE _ ((M.ts.set k rt).getD t CH.new) (M.mem.set a v) (A5 A.th k s t);rw[B6 _ _ _ _ _ Kf];unfold A5;by_cases hne:t=k;grind
  .rw[In hne,In hne];obtain⟨a1,a2,a3,a4,a5,a6,a7,a8,a9⟩:=h.th t ht;exact⟨a1,a2,a3,λo ho=>by rw[Nk t ht o ho];exact a4 o ho,a5,a6,a7,a8,a9⟩
def Alw (x:Cx) (lt:LT) (i:GI):Prop:=(∃r,bt x.Ac i lt.x=U r)\/(bt x.Ac i lt.x=Z/\∃e,evk i lt.x=U e)
def Al.CU (M:Al) (k q:Nat):Al:=M.CQ k {M.th k with pc:=q}
omit hB hT in
theorem set_set {M:Al} {k:Nat} {a b:CH}:(M.CQ k a).CQ k b=M.CQ k b:=by unfold Al.CQ;simp
omit hB hT in
theorem NA {M:Al} {k:Nat} {v:CH} (h:k<J M.ts):(M.CQ k v).th k=v:=by
 show(M.ts.set k v).getD k CH.new=v;rw[B6 _ _ _ _ _ h,Jb rfl]
omit hB hT in
theorem dF (M:Al) (k:Nat):(M.C7 k).ts.length=J M.ts:=by
 grind [Al.C7]
omit hB hT in
theorem lN {M:Al} {k q:Nat} (h:k<J M.ts):(M.CU k q).C7 k=(M.C7 k).CU k q:=by
 have e:(M.CU k q).th k={M.th k with pc:=q}:=NA h;unfold Al.C7;rw[e];show(match (M.th k).waits with|[]=>M.CU k q|p::r=>_)=_;cases hw:(M.th k).waits with
 |nil=>rfl
 |cons p r=>
  show Al.mk _ _=Al.CU _ _ _;unfold Al.CU;rw[Tm h,Jb rfl];unfold Al.CQ;simp
omit hB hT in
theorem lW {M:Al} {k q:Nat} (h:k<J M.ts):(M.CU k q).Cm k=(M.Cm k).CU k q:=by
 have key:∀(n:Nat) (M:Al),k<J M.ts->Al.Mc n (M.CU k q) k=(Al.Mc n M k).CU k q:=by
  intro n;induction n<;>grind [Al.Mc,lN,dF]
 unfold Al.Cm;rw[show(M.CU k q).th k={M.th k with pc:=q} from NA h];grind
omit hB hT in
theorem eN (l:List (Int×Int)) (p:Int×Int) (v a:Int):Al.wv (l++[p]) v a=if p.1=a then p.2 else Al.wv l v a:=by grind [Al.wv]
omit hB hT in
theorem iN (l:List (Int×Int)) (p:Int×Int):yL (l++[p])=yL l++if p.1<32 then [(p.1.toNat,p.2)] else []:=by
 unfold yL;rw[List.filterMap_append];congr 1;rw[jJ];split<;>rename_i h<;>split at h<;>simp_all
omit hB hT in
theorem cJ {a:Int} {o:Nat} (h:Pp Ac a=U o):a=Ac+o/\o<64:=by
 grind [Pp]
omit hB hT in
theorem Ux {a:Int} (h:aj a=U n):a=n/\n<32:=by
 grind [aj]
theorem Aam {Ab:Nat->List GI} {M:Al} {k:Nat} (h:Ug X T M A) (hk:k<T) (dx:Ab k=(X k).Ab) (Aw:(A.th k).st=0) {i:GI} (hi:(X k).Ab[(A.th k).lt.pc]?=U i) (ho:Sd 4000 i) (hf:Alw (X k) (A.th k).lt i) (xi:∀A0 d a j,aB X k A A0->evk i (A.th k).lt.x=U (.Em d a j)->wrap64 (A0.sm a+j)=A0.sm a+j):
  ∃A0 A1,aB X k A A0/\AS X A0 k I A1/\Ug X T (M.step Ab k) A1:=by
 have hb:=hB k hk;have Kf:k<J M.ts:=by rw[h.tl];exact hk
 have hK:=h.th k hk;have e0:M.step Ab k=(M.CU k ((M.th k).pc+1)).TZ k i:=by
  unfold Al.step;rw[In (by rw[hK.st,h.tl];omega),dx,hK.pc,hi];rfl
 rw[e0];have Ex:(M.CU k ((M.th k).pc+1)).th k={M.th k with pc:=(M.th k).pc+1}:=NA Kf;have LC:∀{a:Ag},D7 a->({M.th k with pc:=(M.th k).pc+1}:CH).ev a=Ey (A.th k).lt.x.R a:=λha=>AkO hK ha
 have Dd:∀{d v:Int},Oq d->WE (X k).Ac (({M.th k with pc:=(M.th k).pc+1}:CH).DD d v) M.mem {A.th k with lt:=⟨(A.th k).lt.pc+1,⟨Cv (A.th k).lt.x.R d.toNat v,(A.th k).lt.x.m⟩⟩}:=λ{d v} hd=>by
  obtain⟨r1,r2⟩:=VQ hK hd v;obtain⟨a1,a2,a3,a4,a5,a6,a7,a8,a9⟩:=hK;exact⟨by show(M.th k).pc+1=_;rw[a1],r1,r2,a4,a5,a6,a7,a8,a9⟩
 have regA:∀{d v:Int},Oq d->Ug X T ((M.CU k ((M.th k).pc+1)).CQ k (({M.th k with pc:=(M.th k).pc+1}:CH).DD d v)) ⟨A.sm,A5 A.th k {A.th k with lt:=⟨(A.th k).lt.pc+1,⟨Cv (A.th k).lt.x.R d.toNat v,(A.th k).lt.x.m⟩⟩}⟩:=λhd=>by
  unfold Al.CU;rw[set_set];exact h.set hB hT hk (Dd hd)
 have Pl:∀{r:XS×Option Nat},bt (X k).Ac i (A.th k).lt.x=U r->AS X A k I ⟨A.sm,A5 A.th k {A.th k with lt:=⟨r.2.getD ((A.th k).lt.pc+1),r.1⟩}⟩:=λ{r} hr=> .Pl Aw (by unfold ps1;rw[hi];show(bt _ i _).map _=_;rw[hr];rfl)
 cases i with
 |Y4 d a=>
  refine⟨A,_,.nil A,Pl rfl,?_⟩;rw[Al.AcX,Ex,LC ho.2];exact regA ho.1
 |op n d a b=>
  obtain⟨Vf,Xr,ho3,ho4⟩:=ho;rw[Al.tW,Ex,LC ho3,LC ho4];cases hm:BO n (Ey (A.th k).lt.x.R a) (Ey (A.th k).lt.x.R b) with
  |none=>
   have hx:bt (X k).Ac (.op n d a b) (A.th k).lt.x=Z:=by show(BO _ _ _).map _=Z;rw[hm];rfl
   refine⟨A,_,.nil A,.ev Aw hi hx rfl (λh=>by cases h),?_⟩;unfold Al.CU;rw[set_set];refine h.set hB hT hk ?_;obtain⟨a1,a2,a3,a4,a5,a6,a7,a8,a9⟩:=hK;exact⟨by show(M.th k).pc+1=(A.th k).lt.pc+1;rw[a1],a2,a3,a4,a5,a6,a7,rfl,a9⟩
  |some v=>exact⟨A,_,.nil A,Pl (by show(BO _ _ _).map _=_;rw[hm];rfl),regA Xr⟩
 |load d a j=>
  obtain⟨Vf,Xr,ho3⟩:=ho;rw[Al.dL,Ex,LC Xr];have Vd:∀p,(M.CU k ((M.th k).pc+1)).SC k p=Al.wv (M.th k).waits (M.mem.getD p.toNat 0) p:=λp=>by unfold Al.SC;rw[Ex];rfl
  rcases hf with⟨r,hr⟩|⟨hx,e,he⟩
  .have Mj:(Pp (X k).Ac (wrap64 (Ey (A.th k).lt.x.R a+j))).map (λo=>((⟨Cv (A.th k).lt.x.R d.toNat ((A.th k).lt.x.m.get o),(A.th k).lt.x.m⟩:XS),(Z:Option Nat)))=U r:=hr;cases hof:Pp (X k).Ac (wrap64 (Ey (A.th k).lt.x.R a+j)) with
   |none=>rw[hof] at Mj;cases Mj
   |some o=>
    obtain⟨hp,Akb⟩:=cJ hof;refine⟨A,_,.nil A,Pl hr,?_⟩;rw[hof] at Mj;cases Mj;rw[In (by rw[hp];omega),Vd,hp,hK.Pl o Akb];exact regA Vf
  .have Bg:(aj (wrap64 (Ey (A.th k).lt.x.R a+j))).map (Ek.ld d.toNat ·)=U e:=he;cases GU:aj (wrap64 (Ey (A.th k).lt.x.R a+j)) with
   |none=>rw[GU] at Bg;cases Bg
   |some c=>
    obtain⟨hp,hc⟩:=Ux GU;rw[GU] at Bg;cases Bg;refine⟨A,_,.nil A,.ev Aw hi hx he (λh=>by cases h),?_⟩;rw[In (by rw[hp];omega),Vd,hp,AdO (λp hp=>(hK.wa p hp).1) hc];have e1:M.mem.getD ((c:Int)).toNat 0=A.sm c:=h.sm c hc;rw[e1,<-hK.sw];exact regA Vf
 |store a j b=>
  obtain⟨Vf,Xr,ho3⟩:=ho;rw[Al.ZN,Ex,LC Vf,LC ho3];obtain⟨M',A0,f0,h0,e1,e2,e3,e4,hlen,hM'⟩:∃M' A0,aB X k A A0/\Ug X T M' A0/\(A0.th k).lt=(A.th k).lt/\(A0.th k).st=(A.th k).st/\(A0.th k).out=(A.th k).out/\k<J M'.ts/\(M'.th k).waits.length<4/\
    (if (M.th k).waits.length=4 then (M.CU k ((M.th k).pc+1)).C7 k else M.CU k ((M.th k).pc+1))=M'.CU k ((M.th k).pc+1):=by
   by_cases h4:(M.th k).waits.length=4
   .obtain⟨A',g1,g2,g3,g4,g5,g6,_⟩:=h.C7 hB hT hk;exact⟨M.C7 k,A',g1,g2,g4,g5,g6,by rw[dF];exact Kf,by rw[g3,QF];omega,by rw[Jb h4,lN Kf]⟩
   .exact⟨M,A,.nil A,h,rfl,rfl,rfl,Kf,by have:=hK.wl;omega,by rw[In h4]⟩
  have hK':=h0.th k hk;have fV:(M'.CU k ((M.th k).pc+1)).th k={M'.th k with pc:=(M.th k).pc+1}:=NA e4;have Aj0:=e2.trans Aw;have pA:(A0.th k).lt.pc=(M.th k).pc:=by rw[e1];exact hK.pc.symm
  have hi0:(X k).Ab[(A0.th k).lt.pc]?=U (.store a j b):=by rw[e1];exact hi
  obtain⟨a1,a2,a3,a4,a5,a6,a7,a8,a9⟩:=hK';rcases hf with⟨r,hr⟩|⟨hx,e,he⟩
  .have Mj:(Pp (X k).Ac (wrap64 (Ey (A.th k).lt.x.R a+j))).map (λo=>((⟨(A.th k).lt.x.R,(A.th k).lt.x.m.set o (Ey (A.th k).lt.x.R b)⟩:XS),(Z:Option Nat)))=U r:=hr;cases hof:Pp (X k).Ac (wrap64 (Ey (A.th k).lt.x.R a+j)) with
   |none=>rw[hof] at Mj;cases Mj
   |some o=>
    obtain⟨hp,Akb⟩:=cJ hof;refine⟨A0,_,f0,.Pl Aj0 (lt':=⟨r.2.getD ((A0.th k).lt.pc+1),r.1⟩) (by unfold ps1;rw[hi0,e1];show(bt _ _ _).map _=_;rw[hr];rfl),?_⟩;rw[hof] at Mj;cases Mj;rw[In (by rw[hp];omega)];rw[hM',fV];unfold Al.CU;rw[set_set];refine h0.set hB hT hk ⟨?_,a2,by rw[<-e1];exact a3,λo' nf=>?_,?_,?_,?_,a8,a9⟩
    .exact nat
    .show Al.wv ((M'.th k).waits++[_]) _ _=((A.th k).lt.x.m.set o _).get o';rw[eN,Da.Afk,a4 o' nf,e1,hp];by_cases he:o'=o
     .rw[Jb (by rw[he]),Jb he]
     .rw[In (by intro hx;apply he;have:(X k).Ac+(o:Int)=(X k).Ac+o':=hx;omega),In he]
    .show(A0.th k).sw=yL ((M'.th k).waits++[_]);rw[iN,a5,hp,In (by show¬(X k).Ac+(o:Int)<32;omega),Jo]
    .intro q hq;rcases Jp.1 hq with hq|hq
     .exact a6 q hq
     .simp only[GE] at hq;subst hq;rw[hp];exact⟨by show 0<=(X k).Ac+(o:Int);omega,.inr ⟨by show(X k).Ac<=(X k).Ac+(o:Int);omega,by show(X k).Ac+(o:Int)<_;omega⟩⟩
    .show((M'.th k).waits++[_]).length<=4;rw[GT];exact hlen
  .have Bg:(aj (wrap64 (Ey (A.th k).lt.x.R a+j))).map (Ek.st · (Ey (A.th k).lt.x.R b))=U e:=he;cases GU:aj (wrap64 (Ey (A.th k).lt.x.R a+j)) with
   |none=>rw[GU] at Bg;cases Bg
   |some c=>
    obtain⟨hp,hc⟩:=Ux GU;rw[GU] at Bg;cases Bg;refine⟨A0,_,f0,.ev Aj0 hi0 (by rw[e1];exact hx) (by rw[e1];exact he) (λh=>by cases h),?_⟩;rw[In (by rw[hp];omega)];rw[hM',fV];unfold Al.CU;rw[set_set];refine h0.set hB hT hk ⟨?_,a2,a3,λo' nf=>?_,?_,?_,?_,a8,a9⟩
    .exact nat
    .show Al.wv ((M'.th k).waits++[_]) _ _=(A0.th k).lt.x.m.get o';rw[eN,a4 o' nf,hp,In (by show¬(c:Int)=(X k).Ac+o';omega)]
    .show(A0.th k).sw++[(c,Ey (A.th k).lt.x.R b)]=yL ((M'.th k).waits++[_]);rw[iN,a5,hp,Jb (by show(c:Int)<32;omega)];rfl
    .intro q hq;rcases Jp.1 hq with hq|hq
     .exact a6 q hq
     .simp only[GE] at hq;subst hq;rw[hp];exact⟨by show 0<=(c:Int);omega,.inl (by show(c:Int)<32;omega)⟩
    .show((M'.th k).waits++[_]).length<=4;rw[GT];exact hlen
 |KL d a j b c=>
  obtain⟨Vf,Xr,ho3,ho4,ly⟩:=ho;rw[Al.lT,Ex,LC Xr,LC ho4,LC ly,lW Kf];obtain⟨A0,f0,h0,e1,e2,e3,e4,e5⟩:=h.Cm hB hT hk;have Wc:k<(M.Cm k).ts.length:=by rw[h0.tl];exact hk
  have fV:((M.Cm k).CU k ((M.th k).pc+1)).th k={(M.Cm k).th k with pc:=(M.th k).pc+1}:=NA Wc;have hK':=h0.th k hk;have pA:(A0.th k).lt.pc=(M.th k).pc:=by rw[e3];exact hK.pc.symm
  rcases hf with⟨r,hr⟩|⟨hx,e,he⟩
  .cases hr
  have Bg:(aj (wrap64 (Ey (A.th k).lt.x.R a+j))).map (Ek.KL d.toNat · (Ey (A.th k).lt.x.R b) (Ey (A.th k).lt.x.R c))=U e:=he;cases GU:aj (wrap64 (Ey (A.th k).lt.x.R a+j)) with
  |none=>rw[GU] at Bg;cases Bg
  |some n=>
   obtain⟨hp,hc⟩:=Ux GU;rw[GU] at Bg;cases Bg;refine⟨A0,_,f0,.ev (e4.trans Aw) (by rw[e3];exact hi) rfl (by rw[e3];exact he) (λ_=>e2),?_⟩;rw[In (by rw[hp];omega)];have Vd:((M.Cm k).CU k ((M.th k).pc+1)).SC k (wrap64 (Ey (A.th k).lt.x.R a+j))=A0.sm n:=by
    exact nau
   rw[Vd];obtain⟨a1,a2,a3,a4,a5,a6,a7,a8,a9⟩:=hK';have pz:∀v,((({(M.Cm k).th k with pc:=(M.th k).pc+1}:CH).DD d v).DA.length=8/\∀r,r<8->(({(M.Cm k).th k with pc:=(M.th k).pc+1}:CH).DD d v).DA.getD r 0=Cv (A0.th k).lt.x.R d.toNat v r):=λv=>VQ (h0.th k hk) Vf v
   by_cases hq:A0.sm n=Ey (A.th k).lt.x.R b
   .rw[Jb hq];have hm:mE A0.sm (.KL d.toNat n (Ey (A.th k).lt.x.R b) (Ey (A.th k).lt.x.R c))=Cv A0.sm n (Ey (A.th k).lt.x.R c):=by show(if _ then _ else _)=_;rw[Jb hq]
    have hv:vE A0.sm (A0.th k).sw (.KL d.toNat n (Ey (A.th k).lt.x.R b) (Ey (A.th k).lt.x.R c))=1:=by show(if _ then _ else _)=_;rw[Jb hq]
    rw[hm,fV,hp];show Ug X T {mem:=(M.Cm k).mem.set ((n:Int)).toNat _,ts:=(((M.Cm k).ts.set k _).set k _)} _;rw[jX];refine h0.put hB hk hc λmem Nk=>⟨?_,(pz 1).1,?_,λo ho=>by rw[Nk o ho];exact a4 o ho,a5,a6,a7,a8,a9⟩
    .exact nat
    .show∀r,r<8->_=Cv (A0.th k).lt.x.R d.toNat (vE _ _ _) r;rw[hv];exact(pz 1).2
   .rw[In hq];have hm:mE A0.sm (.KL d.toNat n (Ey (A.th k).lt.x.R b) (Ey (A.th k).lt.x.R c))=A0.sm:=by show(if _ then _ else _)=_;rw[In hq]
    have hv:vE A0.sm (A0.th k).sw (.KL d.toNat n (Ey (A.th k).lt.x.R b) (Ey (A.th k).lt.x.R c))=0:=by show(if _ then _ else _)=_;rw[In hq]
    rw[hm,fV];unfold Al.CU;rw[set_set];refine h0.set hB hT hk ⟨?_,(pz 0).1,?_,a4,a5,a6,a7,a8,a9⟩
    .exact nat
    .show∀r,r<8->_=Cv (A0.th k).lt.x.R d.toNat (vE _ _ _) r;rw[hv];exact(pz 0).2
 |Em d a j b=>
  obtain⟨Vf,Xr,ho3,ho4⟩:=ho;rw[Al.dK,Ex,LC Xr,LC ho4,lW Kf];obtain⟨A0,f0,h0,e1,e2,e3,e4,e5⟩:=h.Cm hB hT hk;have Wc:k<(M.Cm k).ts.length:=by rw[h0.tl];exact hk
  have fV:((M.Cm k).CU k ((M.th k).pc+1)).th k={(M.Cm k).th k with pc:=(M.th k).pc+1}:=NA Wc;have pA:(A0.th k).lt.pc=(M.th k).pc:=by rw[e3];exact hK.pc.symm
  rcases hf with⟨r,hr⟩|⟨hx,e,he⟩
  .cases hr
  have Bg:(aj (wrap64 (Ey (A.th k).lt.x.R a+j))).map (Ek.Em d.toNat · (Ey (A.th k).lt.x.R b))=U e:=he;cases GU:aj (wrap64 (Ey (A.th k).lt.x.R a+j)) with
  |none=>rw[GU] at Bg;cases Bg
  |some n=>
   obtain⟨hp,hc⟩:=Ux GU;rw[GU] at Bg;cases Bg;refine⟨A0,_,f0,.ev (e4.trans Aw) (by rw[e3];exact hi) rfl (by rw[e3];exact he) (λ_=>e2),?_⟩;rw[In (by rw[hp];omega)];have Vd:((M.Cm k).CU k ((M.th k).pc+1)).SC k (wrap64 (Ey (A.th k).lt.x.R a+j))=A0.sm n:=by
    exact nau
   rw[Vd,fV,hp,xi A0 _ _ _ f0 he];have hK':=h0.th k hk;obtain⟨a1,a2,a3,a4,a5,a6,a7,a8,a9⟩:=hK';have pz:∀v,((({(M.Cm k).th k with pc:=(M.th k).pc+1}:CH).DD d v).DA.length=8/\∀r,r<8->(({(M.Cm k).th k with pc:=(M.th k).pc+1}:CH).DD d v).DA.getD r 0=Cv (A0.th k).lt.x.R d.toNat v r):=λv=>VQ (h0.th k hk) Vf v
   show Ug X T {mem:=(M.Cm k).mem.set ((n:Int)).toNat _,ts:=(((M.Cm k).ts.set k _).set k _)} _;rw[jX];refine h0.put hB hk hc λmem Nk=>⟨?_,(pz _).1,(pz _).2,λo ho=>by rw[Nk o ho];exact a4 o ho,a5,a6,a7,a8,a9⟩
   show(M.th k).pc+1=(A0.th k).lt.pc+1;rw[pA]
 |Ma=>exact ho.elim
 |out a=>
  rw[Al.AcW,Ex,LC ho];refine⟨A,_,.nil A,.ev Aw hi rfl rfl (λh=>by cases h),?_⟩;unfold Al.CU;rw[set_set];refine h.set hB hT hk ?_;obtain⟨a1,a2,a3,a4,a5,a6,a7,a8,a9⟩:=hK;exact⟨by show(M.th k).pc+1=(A.th k).lt.pc+1;rw[a1],a2,a3,a4,a5,a6,a7,a8,by show(M.th k).out++_=(A.th k).out++_;rw[a9]⟩
 |GF q=>
  rw[Al.AcY,Ex];refine⟨A,_,.nil A,Pl rfl,?_⟩;unfold Al.CU;rw[set_set];refine h.set hB hT hk ?_;obtain⟨a1,a2,a3,a4,a5,a6,a7,a8,a9⟩:=hK;exact⟨rfl,a2,a3,a4,a5,a6,a7,a8,a9⟩
 |jz a q=>
  rw[Al.tX,Ex,LC ho.1];refine⟨A,_,.nil A,Pl rfl,?_⟩;obtain⟨a1,a2,a3,a4,a5,a6,a7,a8,a9⟩:=hK;by_cases h0:Ey (A.th k).lt.x.R a=0
  .rw[Jb h0];unfold Al.CU;rw[set_set];refine h.set hB hT hk ⟨?_,a2,a3,a4,a5,a6,a7,a8,a9⟩;show q.toNat=Option.getD (if Ey (A.th k).lt.x.R a=0 then U q.toNat else Z) _;rw[Jb h0];rfl
  .rw[In h0];refine h.set hB hT hk ⟨?_,a2,a3,a4,a5,a6,a7,a8,a9⟩;show(M.th k).pc+1=Option.getD (if Ey (A.th k).lt.x.R a=0 then U q.toNat else Z) _;rw[In h0,a1];rfl
 |CR s=>
  rw[Al.xT,Ex];exact nag
 |halt=>
  rw[Al.xU,Ex];exact nag
end
section
namespace Al
def Wu (Ab:Nat->List GI) (M:Al) (k:Nat):Al:=(M.step Ab k).Cm k
def C8 (Ab:Nat->List GI) (k:Nat):Nat->Al->Al
 |0,M=>M
 |n+1,M=>if (M.th k).Au=0 then C8 Ab k n (M.Wu Ab k) else M
end Al
structure AdG (X:Nat->Cx) (T n M:Nat) (K:Int) (R:Al) (A:AM) (G:Nat->Gt):Prop where
 uu:Ug X T R A
 l1:L1 X T n M K A G
structure MCx (X:Nat->Cx) (T n:Nat) (Ab:Nat->List GI):Prop where
 hB:∀t,t<T->(X t).Ac=32+64*(t:Int)
 hT:T<=3
 h6:n<=6
 hX:∀t,t<T->Nr (X t)/\(X t).n=n
 hc:∀t,t<T->Ab t=(X t).Ab
 ok:∀t,t<T->∀i,i∈(X t).Ab->Sd 4000 i
variable {X:Nat->Cx} {T n M:Nat} {Ab:Nat->List GI} (hC:MCx X T n Ab)
include hC
theorem Afq (h:L1 X T n M K A G) {k:Nat} (hk:k<T) (h0:(A.th k).st=0):∃i,(X k).Ab[(A.th k).lt.pc]?=U i/\Alw (X k) (A.th k).lt i/\∀e,bt (X k).Ac i (A.th k).lt.x=Z->evk i (A.th k).lt.x=U e->Pb (G k)=U e:=by
 obtain⟨j,lt',hr,ha,_⟩:=h.th k hk h0;cases hr with
 |nil=>
  obtain⟨i,e,h1,h2,h3,h4⟩:=gD (hC.hX k hk).1 ha;exact⟨i,h1,.inr AC,AC⟩
 |cons h1 _=>
  unfold ps1 at h1;cases hi:(X k).Ab[(A.th k).lt.pc]? with
  |none=>rw[hi] at h1;cases h1
  |some i=>
   rw[hi] at h1;have h2:(bt (X k).Ac i (A.th k).lt.x).map (λr=>(⟨r.2.getD ((A.th k).lt.pc+1),r.1⟩:LT))=U _:=h1;cases he:bt (X k).Ac i (A.th k).lt.x with
   |none=>rw[he] at h2;cases h2
   |some r=>exact⟨i,rfl,.inl AC,AC⟩
theorem Afw {j:Int} (h:Pb g=U (.Em d a j)):a=16/\j=1:=by
 have _:=hC;grind [Pb,Option.map_eq_some_iff]
theorem AdG.fs (h:AdG X T n M K R A G) (hK:K<1000000000000000000) {k:Nat} (hk:k<T) (h0:(A.th k).st=0):∃A0 A1,aB X k A A0/\AS X A0 k I A1/\Ug X T (R.step Ab k) A1:=by
 obtain⟨i,hi,hf,he⟩:=Afq hC h.l1 hk h0;refine Aam hC.hB hC.hT h.uu hk (hC.hc k hk) h0 hi (hC.ok k hk i AC) hf λA0 d a j f hx=>?_
 have lz:bt (X k).Ac i (A.th k).lt.x=Z:=by
  rcases hf with⟨r,hr⟩|⟨h1,_⟩
  .cases i with
   |Em _ _ _ _=>rfl
   |op _ _ _ _=>cases hx
   |load d a k=>have DS:(aj _).map _=U (Ek.Em _ _ _):=hx;grind [Option.map_eq_some_iff]
   |store a k b=>have DS:(aj _).map _=U (Ek.Em _ _ _):=hx;grind [Option.map_eq_some_iff]
   |KL d a k b c=>rfl
   |_=>cases hx
  .exact h1
 obtain⟨rfl,rfl⟩:=Afw hC (he _ lz hx);obtain⟨h2,_⟩:=f.l1 hC.h6 hC.hX hk h.l1 hK;have:=h2.c0;grind [EP]
theorem AfE (h:AdG X T n M K R A G) (hK:K<1000000000000000000) {k:Nat} (hk:k<T) (h0:(A.th k).st=0):∃A',It X k A A'/\Ug X T (R.Wu Ab k) A':=by
 obtain⟨A0,A1,f,hs,ha⟩:=h.fs hC hK hk h0;obtain⟨A2,f2,h2,_,Ri,_⟩:=ha.Cm hC.hB hC.hT hk;exact⟨A2,⟨A0,A1,f,hs,f2,Ri⟩,h2⟩
theorem rj {k:Nat} (ha:Ug X T R A) (hs:uv X T n M K Tk A G k) (hk:k<T) (hK:K<100000000000000000) (hM:2*M+140<=200000):((R.C8 Ab k 200000).th k).Au≠0:=by
 have split:∀i j R,Al.C8 Ab k (i+j) R=Al.C8 Ab k j (Al.C8 Ab k i R):=by
  intro i;induction i with
  |zero=>intro j R;rw[JH];rfl
  |succ i ih=>
   intro j R;rw[Nat.succ_add];by_cases h0:(R.th k).Au=0;grind [Al.C8]
   .show(if _ then _ else _)=Al.C8 Ab k j (if _ then _ else _);rw[In h0,In h0];cases j with
    |zero=>rfl
    |succ j=>show _=if _ then _ else _;rw[In h0]
 have stay:∀j R,(R.th k).Au≠0->Al.C8 Ab k j R=R:=by
  intro j R h0;cases j with
  |zero=>rfl
  |succ j=>show(if _ then _ else _)=_;rw[In h0]
 obtain⟨i,B,hi,hp,Xu⟩:=Aah hC.h6 hC.hX hk hs hK Y (λi A=>Ug X T (Al.C8 Ab k i R) A) ha (λi A G K hp hK' V9 h0=>by
   obtain⟨A',h1,h2⟩:=AfE hC ⟨hp,V9.l1⟩ Y hk h0;refine⟨A',h1,?_⟩;show Ug X T (Al.C8 Ab k (i+1) R) A';rw[split];show Ug X T (if _ then _ else _) A';rw[Jb (by rw[(hp.th k hk).st];exact h0)];exact h2)
 have Aw:((Al.C8 Ab k i R).th k).Au≠0:=by rw[(hp.th k hk).st];exact Xu
 rw[show(200000:Nat)=i+(200000-i) by omega,split,stay _ _ Aw];exact Aw
end
theorem Adz (s:Bj):∀(d:Nat) (i:Bool) (n b o:Int),WF cells s d i->1<=n->As s n=U (b,o)->AB s/\(i=V->o=n*ob s):=by
 induction s with
 |nil=>intro d i n b o _ _ h;cases h;exact⟨trivial,λ_=>by simp[ob]⟩
 |set v op x y r ih=>intro d i n b o hw hn h;exact ih d i n b o hw.2.2.2.2 hn h
 |get v f z x r ih=>intro d i n b o hw hn h;exact ih d i n b o hw.2.2.2.2 hn h
 |put f z x y r ih=>intro d i n b o hw hn h;exact ih d i n b o hw.2.2.2.2 hn h
 |out x r ih=>
  intro d i n b o hw hn h;rw[As] at h;cases hc:As r n with
  |none=>rw[hc] at h;cases h
  |some q=>
   rw[hc] at h;cases h;obtain⟨h1,h2⟩:=ih d i n q.1 q.2 hw.2 hn hc;refine⟨h1,λhi=>?_⟩;rw[h2 hi,ob];push_cast;rw[Qk];omega
 |Es x b r ihb ih=>
  intro d i n b' o hw hn h;rw[As] at h;cases hb:As b n with
  |none=>rw[hb] at h;cases h
  |some p=>
   rw[hb] at h;cases hc:As r n with
   |none=>rw[hc] at h;cases h
   |some q=>
    rw[hc] at h;cases h;obtain⟨h1,h2⟩:=ih d i n q.1 q.2 hw.2.2.2 hn hc;obtain⟨h3,h4⟩:=ihb (d+1) i n p.1 p.2 hw.2.2.1 hn hb;refine⟨⟨h3,h1⟩,λhi=>?_⟩;rw[h2 hi,h4 hi,ob];push_cast;rw[Qk]
 |loop k b r ihb ih=>
  intro d i n b' o hw hn h;rw[As] at h;have hk:=hw.1;have hnk:1<=n*k:=by have:1*1<=n*k:=d9 hn hk.1 Do Y;omega
  cases hb:As b (n*k) with
  |none=>rw[hb] at h;cases h
  |some p=>
   rw[hb] at h;cases hc:As r n with
   |none=>rw[hc] at h;cases h
   |some q=>
    rw[hc] at h;cases h;obtain⟨h1,h2⟩:=ih d i n q.1 q.2 hw.2.2.2 hn hc;obtain⟨h3,h4⟩:=ihb (d+1) i (n*k) p.1 p.2 hw.2.2.1 hnk hb;refine⟨⟨h3,h1⟩,λhi=>?_⟩;rw[h2 hi,h4 hi,ob];push_cast;rw[Qk,Q8 Y,jT]
 |atomic b r ihb ih=>
  intro d i n b' o hw hn h;rw[As] at h;cases hb:As b 1 with
  |none=>rw[hb] at h;cases h
  |some p=>
   rw[hb] at h;replace h:(if 8<p.2 then Z else match As r n with|none=>Z|some (b2,o2)=>U (n+b2,o2))=U (b',o):=h;split at h
   .cases h
   .rename_i h8;cases hc:As r n with
    |none=>rw[hc] at h;cases h
    |some q=>
     rw[hc] at h;cases h;obtain⟨h1,_⟩:=ih d i n q.1 q.2 hw.2.2.2 hn hc;obtain⟨h3,h4⟩:=ihb (d+1) V 1 p.1 p.2 hw.2.2.1 Do hb;refine⟨⟨⟨h3,?_⟩,h1⟩,λhi=>?_⟩
     .have:=h4 rfl;omega
     .have:=hw.1;rw[hi] at this;cases this
def Mq:Bj->Nat
 |.nil=>0
 |.set _ _ _ _ r=>5+Mq r
 |.get _ _ _ _ r=>60+Mq r
 |.put _ _ _ _ r=>12+Mq r
 |.out _ r=>6+Mq r
 |.atomic b r=>60+Mq b+Mq r
 |.Es _ b r=>4+Mq b+Mq r
 |.loop n b r=>2+n.toNat*(6+Mq b)+Mq r
theorem Aix (s:Bj):∀(d:Nat) (i:Bool),WF cells s d i->d<=3->(Mq s:Int)<=60*((4 ^ (3-d):Nat):Int)*IE s:=by
 have p1:∀d,d<=3->(1:Int)<=((4 ^ (3-d):Nat):Int):=λd _=>by have:=Nat.one_le_pow (3-d) 4 Do;omega
 have p4:∀d,d<3->((4 ^ (3-d):Nat):Int)=4*((4 ^ (3-(d+1)):Nat):Int):=λd hd=>by
  rw[show 3-d=(3-(d+1))+1 by omega,Nat.pow_succ];omega
 induction s with
 |nil=>grind [Mq,IE]
 |set v op x y r ih=>intro d i hw hd;have:=ih d i hw.2.2.2.2 hd;have:=p1 d hd;simp only[Mq,IE];rw[Qk];omega
 |get v f z x r ih=>intro d i hw hd;have:=ih d i hw.2.2.2.2 hd;have:=p1 d hd;simp only[Mq,IE];rw[Qk];omega
 |put f z x y r ih=>intro d i hw hd;have:=ih d i hw.2.2.2.2 hd;have:=p1 d hd;simp only[Mq,IE];rw[Qk];omega
 |out x r ih=>intro d i hw hd;have:=ih d i hw.2 hd;have:=p1 d hd;simp only[Mq,IE];rw[Qk];omega
 |Es x b r ihb ih=>
  intro d i hw hd;have h1:=ih d i hw.2.2.2 hd;have h2:=ihb (d+1) i hw.2.2.1 hw.2.1;exact nah
 |atomic b r ihb ih=>
  intro d i hw hd;have h1:=ih d i hw.2.2.2 hd;have h2:=ihb (d+1) V hw.2.2.1 hw.2.1;exact nah
 |loop k b r ihb ih=>
  intro d i hw hd;have h1:=ih d i hw.2.2.2 hd;have h2:=ihb (d+1) i hw.2.2.1 hw.2.1;have h3:=p1 d hd;have h4:=p4 d hw.2.1;have hk:=hw.1;have h5:(k.toNat*(6+Mq b):Nat)<=4*(6+Mq b):=Qq _ Y;have h6:60*((4 ^ (3-d):Nat):Int)*IE b=4*(60*((4 ^ (3-(d+1)):Nat):Int)*IE b):=by rw[h4,<-jT,<-jT,<-jT,Int.mul_comm 60 4]
  simp only[Mq,IE];rw[Qk,Qk];omega
theorem lZ (s:Bj):∀(d:Nat) (i:Bool) (n b o:Int),WF cells s d i->1<=n->As s n=U (b,o)->0<=b/\(i=V->AW s=Mq s)/\(i=I->n*AW s<=n*Mq s+340*b):=by
 induction s with
 |nil=>intro d i n b o _ _ h;cases h<;>grind [AW,Mq]
 |set v op x y r ih=>
  exact nad
 |get v f z x r ih=>
  exact nad
 |put f z x y r ih=>
  exact nad
 |out x r ih=>
  intro d i n b o hw hn h;rw[As] at h;cases hc:As r n with
  |none=>rw[hc] at h;cases h
  |some q=>
   rw[hc] at h;cases h;obtain⟨h0,h1,h2⟩:=ih d i n q.1 q.2 hw.2 hn hc;refine⟨h0,λhi=>by grind [AW,Mq],λhi=>?_⟩;have:=h2 hi;simp only[AW,Mq];grind
 |Es x b r ihb ih=>
  intro d i n b' o hw hn h;rw[As] at h;cases hb:As b n with
  |none=>rw[hb] at h;cases h
  |some p=>
   rw[hb] at h;cases hc:As r n with
   |none=>rw[hc] at h;cases h
   |some q=>
    rw[hc] at h;cases h;obtain⟨h0,h1,h2⟩:=ih d i n q.1 q.2 hw.2.2.2 hn hc;obtain⟨g0,g1,g2⟩:=ihb (d+1) i n p.1 p.2 hw.2.2.1 hn hb;refine⟨Y,λhi=>by grind [AW,Mq],λhi=>?_⟩;have:=h2 hi;have:=g2 hi;simp only[AW,Mq];grind
 |loop k b r ihb ih=>
  intro d i n b' o hw hn h;rw[As] at h;have hk:=hw.1;have hnk:1<=n*k:=by have:1*1<=n*k:=d9 hn hk.1 Do Y;omega
  cases hb:As b (n*k) with
  |none=>rw[hb] at h;cases h
  |some p=>
   rw[hb] at h;cases hc:As r n with
   |none=>rw[hc] at h;cases h
   |some q=>
    rw[hc] at h;cases h;obtain⟨h0,h1,h2⟩:=ih d i n q.1 q.2 hw.2.2.2 hn hc;obtain⟨g0,g1,g2⟩:=ihb (d+1) i (n*k) p.1 p.2 hw.2.2.1 hnk hb;refine⟨Y,λhi=>by grind [AW,Mq],λhi=>?_⟩;have:=h2 hi;have:=g2 hi;simp only[AW,Mq];push_cast;rw[Q8 Y];grind
 |atomic b r ihb ih=>
  intro d i n b' o hw hn h;rw[As] at h;cases hb:As b 1 with
  |none=>rw[hb] at h;cases h
  |some p=>
   rw[hb] at h;replace h:(if 8<p.2 then Z else match As r n with|none=>Z|some (b2,o2)=>U (n+b2,o2))=U (b',o):=h;split at h
   .cases h
   .cases hc:As r n with
    |none=>rw[hc] at h;cases h
    |some q=>
     rw[hc] at h;cases h;obtain⟨h0,_,h2⟩:=ih d i n q.1 q.2 hw.2.2.2 hn hc;obtain⟨g0,g1,_⟩:=ihb (d+1) V 1 p.1 p.2 hw.2.2.1 Do hb;refine⟨Y,λhi=>?_,λhi=>?_⟩
     .have:=hw.1;rw[hi] at this;cases this
     .have:=h2 hi;rw[show AW (.atomic b r)=400+AW b+AW r from rfl,show Mq (.atomic b r)=60+Mq b+Mq r from rfl,g1 rfl,show((400+Mq b+AW r:Nat):Int)=400+Mq b+AW r by omega,show((60+Mq b+Mq r:Nat):Int)=60+Mq b+Mq r by omega];rw[Qk,Qk,Qk,Qk,Qk];omega
theorem OY {y:qH} {p:RP} (h:PS y p):∀t,t∈y.Aa->(WF y.cells t 0 I/\AB t)/\AW t<=54780:=by
 have Eo:=h.B5;unfold Ej at Eo;simp only[JD,JB,Nm] at Eo;obtain⟨lF,h3,DT⟩:=Eo;intro t ht;have hw:=h.fw.th t ht;have Acy:=DT t ht;cases Xw:As t 1 with
 |none=>rw[Xw] at Acy;grind
 |some q=>
  rw[Xw] at Acy;have hb:q.1<=3:=AC
  refine⟨⟨hw,(Adz t 0 I 1 q.1 q.2 hw Do Xw).1⟩,?_⟩;have h1:=(lZ t 0 I 1 q.1 q.2 hw Do Xw).2.2 rfl;have h2:=Aix t 0 I hw Do;have h4:=h.fn.all t ht;have h5:(60:Int)*((4 ^ (3-0):Nat):Int)*IE t<=60*((4 ^ (3-0):Nat):Int)*14:=QX h4 Do;have h6:(60:Int)*((4 ^ (3-0):Nat):Int)*14=53760:=Do
  omega
section
def Oe (y:qH) (t:Nat):Cx:=⟨32+64*(t:Int),y.cells.toNat,Ga y.cells t (y.Aa.getD t .nil),y.cells⟩
def zPM:Da:=⟨λ_=>0,λ_=>0,λ_=>0,λ_=>0,λ_=>0,λ_=>0,λ_=>0,0,0,λ_=>0,λ_=>0⟩
def IX (y:qH) (t:Nat):KS:=⟨y.Aa.getD t .nil,.done,λ_=>0,λ_=>0,D9,[]⟩
def A0:AM:=⟨λ_=>0,λ_=>⟨⟨0,⟨λ_=>0,zPM⟩⟩,[],0,[]⟩⟩
def R0 (y:qH):Al:=⟨List.replicate 256 0,(CE y.cells y.Aa (J y.Aa)).map λt=>uU (t.map GI.DI)⟩
def F8 (y:qH) (t:Nat):List GI:=Ga y.cells t (y.Aa.getD t .nil)
theorem AdL (o:Nat):zPM.get o=0:=by unfold Da.get;cases KU.Ss o<;>rfl
variable {y:qH} {p:RP} (h:PS y p)
include h
omit h in
theorem Sh {t:Nat} (ht:t<J y.Aa):y.Aa.getD t .nil∈y.Aa:=by rw[Je,Ja ht];grind
theorem Y7:MCx (Oe y) (J y.Aa) y.cells.toNat λt=>Ga y.cells t (y.Aa.getD t .nil):=by
 obtain⟨h1,h2,h3,h4⟩:=IT h;have h0:=h.fw.c0;refine⟨λ_ _=>rfl,h4,Y,λt ht=>⟨⟨⟨by show 32<=32+64*(t:Int);omega,by show 32+64*(t:Int)<=160;omega⟩,rfl,h3⟩,rfl⟩,λ_ _=>rfl,λt ht i hi=>?_⟩;exact(h1 _ (Qf.2 ⟨t,Qo.2 ht,rfl⟩)).2.1 i hi
theorem AdE {t:Nat} (ht:t<J y.Aa):(R0 y).th t=uU ((Ga y.cells t (y.Aa.getD t .nil)).map GI.DI):=by
 have _:=h;grind [Al.th,R0,CE]
theorem eE:Ug (Oe y) (J y.Aa) (R0 y) A0:=by
 refine⟨J8 ..,by show(List.map _ (CE _ _ _)).length=_;rw[JZ,KJ],λa ha=>?_,λt ht=>?_⟩
 .show(List.replicate 256 (0:Int)).getD a 0=0;rw[Je,Qx];split<;>rfl
 .rw[AdE h ht];refine⟨rfl,rfl,λr hr=>?_,λo ho=>?_,rfl,λp hp=>?_,by show([]:List (Int×Int)).length<=4;decide,rfl,rfl⟩
  .show(List.replicate 8 (0:Int)).getD r 0=0;rw[Je,Qx];split<;>rfl
  .show(List.replicate 256 (0:Int)).getD _ 0=zPM.get o;rw[AdL,Je,Qx];split<;>rfl
  .have:p∈([]:List (Int×Int)):=hp;cases this
theorem zN {t:Nat} (ht:t<J y.Aa):∃q',Ij D9 (IX y t) q'/\Ww (Oe y t) 54790 (A0.th t).lt (DJ q'):=by
 have hx:=((Y7 h).hX t ht).1;obtain⟨⟨hw,Vj⟩,hd⟩:=OY h _ (Sh ht);have dx:=ZT y.cells t (y.Aa.getD t .nil) (SP.of _ 0 I hw);have hp:PD (Oe y t).Ac (Oe y t).n (Oe y t).Ab 0 (.rest (IX y t).s (IX y t).k) 0:=by
  have e:(Oe y t).Ab=rz 0 (Gu (32+64*t) y.cells.toNat I 0 0 (y.Aa.getD t .nil))++[.halt]:=dx;refine⟨λj x hj=>?_,?_⟩
  .rw[e,JH];exact(J5 (Jn.1 hj).1).trans hj
  .show(Oe y t).Ab[0+(Gu _ _ _ _ _ _).length]?=_;rw[e,JH,JY (by rw[CM];exact Jf _),CM];show[GI.halt][(Gu (32+64*(t:Int)) y.cells.toNat I 0 0 (y.Aa.getD t .nil)).length-_]?=_;rw[QQ];rfl
 have hm:Mt (Oe y t).n (Oe y t).cells ⟨λ_=>0,0⟩ D9 D9 (IX y t) zPM:=⟨λ_ _=>rfl,λ_ _=>rfl,⟨⟨hw,Vj⟩,trivial⟩,λhb=>by cases hb⟩;have Al7:Dy (IX y t)<=54790:=by
  show 1+AW (y.Aa.getD t .nil)+1<=54790;omega
 obtain⟨j,lt',hr,g',ha,q',rfl,hk,hle⟩:=Rn.outside (x:=Oe y t) (k:=0) (P:=λj g'=>∃q',g'=DJ q'/\Ij D9 (IX y t) q'/\j+Pn (Oe y t) (DJ q')<=Dy (IX y t)) (lt:=(A0.th t).lt) hx hp rfl hm AC;exact⟨q',hk,j,lt',hr,ha,Y⟩
theorem start:∃G,AdG (Oe y) (J y.Aa) y.cells.toNat 54790 0 (R0 y) A0 G/\∀t,t<J y.Aa->∃q',G t=DJ q'/\Ij D9 (IX y t) q':=by
 have hC:=Y7 h;have key:∀t,∃g,t<J y.Aa->∃q',g=DJ q'/\Ij D9 (IX y t) q'/\Ww (Oe y t) 54790 (A0.th t).lt (DJ q'):=λt=>by
  by_cases ht:t<J y.Aa
  .obtain⟨q',hk,ho⟩:=zN h ht;exact⟨DJ q',λ_=>⟨q',rfl,hk,ho⟩⟩
  .exact⟨DJ (IX y 0),λh=>Jk h ht⟩
 obtain⟨G,hG⟩:=Classical.axiomOfChoice key;refine⟨G,⟨eE h,λt ht _=>?_,λt ht=>?_,by show(0:Int)<=0/\(0:Int)<=0;decide,λt ht=>?_,⟨λt c v ht hc hv=>?_,λt a v ht hv=>?_,λt ht=>?_,λt t' c ht Kw hc hx=>?_,λc hc _=>⟨0,rfl,Do,by show(0:Int)<=0;decide⟩⟩,λt ht h0=>Jk rfl h0⟩,λt ht=>?_⟩
 .obtain⟨q',e,_,j,lt',h1,h2,h3⟩:=hG t ht;rw[e];exact⟨j,lt',h1,h2,Y⟩
 .obtain⟨q',e,_,j,lt',h1,h2,h3⟩:=hG t ht;have:=sH (Oe y t) q';rw[e];exact⟨by rw[this.2];omega,λ_=>Y⟩
 .obtain⟨q',e,_⟩:=hG t ht;have:=Ef 0 q';rw[e,this.2.2.1,this.2.2.2];show(0<=(0:Int)/\(0:Int)<=0)/\(0:Int)<=0/\(0:Int)<=0;decide
 .obtain⟨q',e,_⟩:=hG t ht;have Vc:BR (G t) c=U v:=hv;rw[e,(Ef 0 q').1] at Vc;cases Vc
 .obtain⟨q',e,_⟩:=hG t ht;have Vc:(a,v)∈[]++AH y.cells.toNat (G t):=hv;rw[e,(Ef _ q').2.1] at Vc;cases Vc
 .obtain⟨q',e,_⟩:=hG t ht;show([]++AH y.cells.toNat (G t)).Pairwise Z1;rw[e,(Ef _ q').2.1];exact .nil
 .obtain⟨q',e,_⟩:=hG t ht;have DS:(BR (G t) c).isSome=V\/∃v,(8+c,v)∈[]++AH y.cells.toNat (G t):=hx;rw[e,(Ef y.cells.toNat q').1,(Ef y.cells.toNat q').2.1] at DS;rcases DS with DS|⟨v,hv⟩
  .cases DS
  .cases hv
 .obtain⟨q',e,hk,_⟩:=hG t ht;exact⟨q',e,hk⟩
end
def ndT (f z:List Int) (u:List Bool) (b:Bool) (x:Nd):Prop:=
 (x.kind=103\/x.kind=112)->(∃i:Nat,f[i]?=U x.first/\z[i]?=U x.size)/\u[x.first.toNat]?=U V/\(x.kind=112->b=V)
structure VsT (f z:List Int) (c:Int):Prop where
 len:J z=J f
 lt:∀(i:Nat) (a s:Int),f[i]?=U a->z[i]?=U s->0<=a/\1<=s/\a+s<=c
 ap:∀(i j:Nat) (a s e:Int),i<j->f[i]?=U a->z[i]?=U s->f[j]?=U e->a+s<=e
structure TI (r:RS):Prop where
 vs:VsT r.first r.size r.p.cells
 pl:J r.p.BX=J r.p.Aa
 all:∀(k:Nat) l u b,r.p.Aa[k]?=U l->r.p.Ap[k]?=U u->r.p.BX[k]?=U b->∀x,x∈l->ndT r.first r.size u b x
structure NK (r q:RS):Prop where
 sh:q.Ax=r.Ax
 f:q.first=r.first
 z:q.size=r.size
 th:q.p.Aa=r.p.Aa
 c:q.p.cells=r.p.cells
 tl:J q.p.Ap=J r.p.Ap
 pl:J q.p.BX=J r.p.BX
 t1:∀(k:Nat) (u':List Bool),q.p.Ap[k]?=U u'->∃u:List Bool,r.p.Ap[k]?=U u/\J u'=J u/\∀i:Nat,u[i]?=U V->u'[i]?=U V
 p1:∀(k:Nat) (b':Bool),q.p.BX[k]?=U b'->∃b:Bool,r.p.BX[k]?=U b/\(b=V->b'=V)
section
variable {R:RS} {n:Nat} (hg:Lu R n) (hi:TI R) (hT:R.p.Aa≠[])
include hg hi hT
omit hg in
end
structure PT (p:RP) (f z:List Int):Prop where
 vs:VsT f z p.cells
 tl:J p.Ap=J p.Aa
 pl:J p.BX=J p.Aa
 tc:∀t,t∈p.Ap->(J t:Int)=p.cells
 all:∀(k:Nat) l u b,p.Aa[k]?=U l->p.Ap[k]?=U u->p.BX[k]?=U b->∀x,x∈l->ndT f z u b x
def PRt (f z:List Int) (u:List Bool) (c:Nat):Prop:=∃(i:Nat) (a s:Int),f[i]?=U a/\z[i]?=U s/\a<=c/\(c:Int)<a+s/\u[a.toNat]?=U V
def PWt (f z:List Int) (u:List Bool) (b:Bool) (c:Nat):Prop:=PRt f z u c/\b=V
def PR (p:RP) (f z:List Int) (t:Nat):Nat->Prop:=PRt f z (p.Ap.getD t [])
def PW (p:RP) (f z:List Int) (t:Nat):Nat->Prop:=PWt f z (p.Ap.getD t []) (p.BX.getD t I)
section
variable {y:qH} {p:RP} (h:PS y p) {f z:List Int} (hp:PT p f z)
include h
include hp
end
structure RR where
 pc:Nat
 v:List Int
 DE:List Int
 An:List Int
 Ck:Nat
 Au:Int
def RR.start:RR:=⟨0,[0,0,0,0],[0,0,0],[],0,0⟩
def RR.get (r:RR) (a:At):Int:=if a.AX then r.v.getD a.v.toNat 0 else a.v
def RR.step (r:RR) (x:Nd) (cs:List Int):(RR×List Int)×Bool:=
 if x.kind=115 then
  if x.op.size=0 then (({r with pc:=r.pc+1,v:=r.v.set x.v.toNat (r.get x.a)},cs),V) else
  match BO x.op (r.get x.a) (r.get x.b) with
  |none=>(({r with pc:=r.pc+1,Au:=1},cs),I)
  |some u=>(({r with pc:=r.pc+1,v:=r.v.set x.v.toNat u},cs),V)
 else if x.kind=103 then
  if r.get x.AN<0\/x.size<=r.get x.AN then (({r with pc:=r.pc+1,Au:=2},cs),I) else
  (({r with pc:=r.pc+1,v:=r.v.set x.v.toNat (cs.getD (x.first+r.get x.AN).toNat 0)},cs),V)
 else if x.kind=112 then
  if r.get x.AN<0\/x.size<=r.get x.AN then (({r with pc:=r.pc+1,Au:=2},cs),I) else
  (({r with pc:=r.pc+1},cs.set (x.first+r.get x.AN).toNat (r.get x.a)),V)
 else if x.kind=111 then (({r with pc:=r.pc+1,An:=r.An++[r.get x.a]},cs),V)
 else if x.kind=122 then (({r with pc:=if r.get x.a=0 then x.CL.toNat else r.pc+1},cs),V)
 else if x.kind=108 then (({r with pc:=r.pc+1,DE:=r.DE.set x.Af.toNat x.n},cs),V)
 else if x.kind=98 then
  (({r with pc:=if 0<r.DE.getD x.Af.toNat 0-1 then x.CL.toNat else r.pc+1,DE:=r.DE.set x.Af.toNat (r.DE.getD x.Af.toNat 0-1)},cs),V)
 else (({r with pc:=r.pc+1},cs),V)
section
variable {r:RR} {x:Nd} {cs:List Int} {a b u:Int}
theorem si (h:x.kind=115) (hz:x.op.size=0) (ha:r.get x.a=a):r.step x cs=(({r with pc:=r.pc+1,v:=r.v.set x.v.toNat a},cs),V):=by
 unfold RR.step;rw[Jb h,Jb hz,ha]
theorem sg (h:x.kind=115) (hz:¬x.op.size=0) (ha:r.get x.a=a) (hb:r.get x.b=b) (hm:BO x.op a b=U u):r.step x cs=(({r with pc:=r.pc+1,v:=r.v.set x.v.toNat u},cs),V):=by
 unfold RR.step;rw[Jb h,In hz,ha,hb,hm]
theorem se (h:x.kind=115) (hz:¬x.op.size=0) (ha:r.get x.a=a) (hb:r.get x.b=b) (hm:BO x.op a b=Z):r.step x cs=(({r with pc:=r.pc+1,Au:=1},cs),I):=by
 unfold RR.step;rw[Jb h,In hz,ha,hb,hm]
theorem Aaa (h:x.kind=103) (ha:r.get x.AN=a) (hi:¬(a<0\/x.size<=a)):r.step x cs=(({r with pc:=r.pc+1,v:=r.v.set x.v.toNat (cs.getD (x.first+a).toNat 0)},cs),V):=by
 unfold RR.step;rw[In (by rw[h];decide),Jb h,ha,In hi]
theorem ss (h:x.kind=103) (ha:r.get x.AN=a) (hi:a<0\/x.size<=a):r.step x cs=(({r with pc:=r.pc+1,Au:=2},cs),I):=by
 unfold RR.step;rw[In (by rw[h];decide),Jb h,ha,Jb hi]
theorem zZ (h:x.kind=112) (ha:r.get x.AN=a) (hb:r.get x.a=b) (hi:¬(a<0\/x.size<=a)):r.step x cs=(({r with pc:=r.pc+1},cs.set (x.first+a).toNat b),V):=by
 unfold RR.step;rw[In (by rw[h];decide),In (by rw[h];decide),Jb h,ha,hb,In hi]
theorem sj (h:x.kind=112) (ha:r.get x.AN=a) (hi:a<0\/x.size<=a):r.step x cs=(({r with pc:=r.pc+1,Au:=2},cs),I):=by
 unfold RR.step;rw[In (by rw[h];decide),In (by rw[h];decide),Jb h,ha,Jb hi]
theorem nR (h:x.kind=111) (ha:r.get x.a=a):r.step x cs=(({r with pc:=r.pc+1,An:=r.An++[a]},cs),V):=by
 unfold RR.step;rw[In (by rw[h];decide),In (by rw[h];decide),In (by rw[h];decide),Jb h,ha]
theorem zV (h:x.kind=122) (ha:r.get x.a=a):r.step x cs=(({r with pc:=if a=0 then x.CL.toNat else r.pc+1},cs),V):=by
 unfold RR.step;rw[In (by rw[h];decide),In (by rw[h];decide),In (by rw[h];decide),In (by rw[h];decide),Jb h,ha]
theorem z8 (h:x.kind=108):r.step x cs=(({r with pc:=r.pc+1,DE:=r.DE.set x.Af.toNat x.n},cs),V):=by
 unfold RR.step;rw[In (by rw[h];decide),In (by rw[h];decide),In (by rw[h];decide),In (by rw[h];decide),In (by rw[h];decide),Jb h]
theorem nS (h:x.kind=98) (ha:r.DE.getD x.Af.toNat 0-1=a):r.step x cs=(({r with pc:=if 0<a then x.CL.toNat else r.pc+1,DE:=r.DE.set x.Af.toNat a},cs),V):=by
 unfold RR.step;rw[In (by rw[h];decide),In (by rw[h];decide),In (by rw[h];decide),In (by rw[h];decide),In (by rw[h];decide),In (by rw[h];decide),Jb h,ha]
end
inductive Ak6 (x:Nd) (r:RR) (n:Nat):Prop
 |s (k:x.kind=115) (v:0<=x.v/\x.v<4) (o:x.op.size=0\/x.op∈B4) (b:DO x.b)
 |g (k:x.kind=103) (v:0<=x.v/\x.v<4) (a:DO x.AN) (f:0<=x.first/\x.first+x.size<=n)
 |p (k:x.kind=112) (a:DO x.AN) (f:0<=x.first/\x.first+x.size<=n)
 |o (k:x.kind=111)
 |z (k:x.kind=122) (t:0<=x.CL)
 |l (k:x.kind=108) (d:0<=x.Af/\x.Af<3)
 |b (k:x.kind=98) (d:0<=x.Af/\x.Af<3) (q:1<=r.DE.getD x.Af.toNat 0/\r.DE.getD x.Af.toNat 0<=4) (t:0<=x.CL)
structure Vu (x:Nd) (r:RR) (n:Nat):Prop where
 vl:J r.v=4
 rl:J r.DE=3
 a:DO x.a
 k:Ak6 x r n
inductive Gd (l:List Nd):Nat->RR->RR->Prop
 |done {r:RR} (h:r.Au≠0):Gd l 0 r r
 |halt {r:RR} (h:r.Au=0) (hl:l[r.pc]?=Z):Gd l 0 r {r with Au:=10}
 |Ao {r:RR} {x:Nd} (h:r.Au=0) (hx:l[r.pc]?=U x) (hk:x.kind=40):Gd l 0 r r
 |step {n:Nat} {r r':RR} {x:Nd} (h:r.Au=0) (hx:l[r.pc]?=U x) (hk:x.kind≠40) (hg:x.kind≠103/\x.kind≠112) (hb:Vu x r 0/\J r.An<=60000) (k:Gd l n (r.step x []).1.1 r'):Gd l (n+1) r r'
inductive O3 (l:List Nd):Nat->RR->List Int->RR->List Int->Bool->Prop
 |D1 {r:RR} {cs:List Int} {x:Nd} (hx:l[r.pc]?=U x) (hk:x.kind=41):O3 l 0 r cs r cs V
 |CR {r r':RR} {cs cs':List Int} {x:Nd} (hx:l[r.pc]?=U x) (hk:x.kind≠41) (hb:Vu x r (J cs)/\J r.An<=60000) (hs:r.step x cs=((r',cs'),I)):O3 l 0 r cs r' cs' I
 |step {n:Nat} {r r1 r':RR} {cs cs1 cs':List Int} {x:Nd} {b:Bool} (hx:l[r.pc]?=U x) (hk:x.kind≠41) (hb:Vu x r (J cs)/\J r.An<=60000) (hs:r.step x cs=((r1,cs1),V)) (k:O3 l n r1 cs1 r' cs' b):O3 l (n+1) r cs r' cs' b
inductive Pk (l:List Nd):RR->List Int->RR->List Int->Prop
 |ok {r r1 r2:RR} {cs cs1:List Int} {n m:Nat} (h:O3 l n {r with Ck:=J r.An,pc:=r.pc+1} cs r1 cs1 V) (k:Gd l m {r1 with pc:=r1.pc+1} r2):Pk l r cs r2 cs1
 |CR {r r1:RR} {cs cs1:List Int} {n:Nat} (h:O3 l n {r with Ck:=J r.An,pc:=r.pc+1} cs r1 cs1 I):Pk l r cs {r1 with An:=r1.An.take (J r.An)} cs
theorem Gd.ie {r a b:RR} (h:Gd l n r a) (k:Gd l m r b):a=b/\n=m:=by
 induction h generalizing m with
 |done h=>cases k<;>grind
 |halt h hl=>cases k<;>grind
 |Ao h hx hk=>cases k<;>grind
 |step h hx hk hg _ _ ih=>cases k<;>grind
def U3 (l m:List Nd) (p:Nat):Prop:=∀j x,m[j]?=U x->l[p+j]?=U x
theorem C6 {m:List Nd} {x:Nd} (h:U3 l (x::m) p):l[p]?=U x/\U3 l m (p+1):=
 ⟨h 0 x rfl,λj y hy=>by rw[show p+1+j=p+(j+1) by omega];exact h (j+1) y hy⟩
theorem V4 {a b:List Nd} (h:U3 l (a++b) p):U3 l a p/\U3 l b (p+J a):=
 ⟨λj x hx=>h j x (by rw[J5 AC];exact hx),λj x hx=>by
   rw[Jq];exact h (J a+j) x (by rw[JY Y,Nat.add_sub_cancel_left];exact hx)⟩
def Z9 (l:List Nd):KK->Nat->Prop
 |.done,p=>p=J l
 |.rest s k,p=>U3 l (Ca s k.dp p) p/\Z9 l k (p+Di s)
 |.loop b s k,p=>∃C5,p=C5+Di b/\U3 l (Ca b (k.dp+1) C5) C5/\l[p]?=U {Nd.of 98 with CL:=(C5:Nat),Af:=k.dp}/\U3 l (Ca s k.dp (p+1)) (p+1)/\Z9 l k (p+1+Di s)
 |.Ao _ s k,p=>l[p]?=U (Nd.of 41)/\U3 l (Ca s k.dp (p+1)) (p+1)/\Z9 l k (p+1+Di s)
def RdK (DE:List Int) (R:Nat->Int):KK->Prop
 |.done=>True
 |.rest _ k=>RdK DE R k
 |.loop _ _ k=>DE.getD k.dp 0=R k.Af/\RdK DE R k
 |.Ao _ _ k=>RdK DE R k
theorem RdK.Cv {DE rnd':List Int} {R R':Nat->Int} {k:KK} (h:RdK DE R k) (hR:∀d,d<k.Af->R' d=R d) (hr:∀d,d<k.dp->rnd'.getD d 0=DE.getD d 0):RdK rnd' R' k:=by
 induction k with
 |done=>trivial
 |rest s k ih=>exact ih h hR λd hd=>hr d (Qg hd)
 |loop b s k ih=>exact⟨by rw[hR k.Af (JC _),hr k.dp (JC _)];exact h.1,ih h.2 (λd hd=>hR d (Qg hd)) λd hd=>hr d (Qg hd)⟩
 |Ao b s k ih=>exact ih h hR λd hd=>hr d (Qg hd)
structure FI (l:List Nd) (n:Nat) (C:Nat->Int) (B:List Int) (q:KS) (r:RR) (cs:List Int):Prop where
 Mh:Z9 l (.rest q.s q.k) r.pc
 vl:J r.v=4
 v:∀i,i<4->r.v.getD i 0=q.L i
 rl:J r.DE=3
 DE:RdK r.DE q.R q.k
 st:r.Au=0
 An:r.An=B++q.o
 cl:J cs=n
 cv:∀c,c<n->cs.getD c 0=(q.A3 c).getD (C c)
theorem FI.get {r:RR} (h:FI l n C B q r cs) {a:At} (ha:DO a):r.get a=DV q.L a:=by
 grind [RR.get,DV,DO,FI]
theorem nk {x:Nd} {k:Nat} (hk:x.kind=k) (h:k≠m:=by decide):x.kind≠m:=by rw[hk];exact h
def IU (l:List Nd) (r:RR) (cs:List Int) (r':RR) (cs':List Int):Prop:=∃x,l[r.pc]?=U x/\x.kind≠40/\x.kind≠41/\(x.kind=103\/x.kind=112->cs≠[])/\r.step x cs=((r',cs'),V)/\r'.Ck=r.Ck/\Vu x r (J cs)
theorem ok0:DO ⟨I,0⟩:=by grind [DO]
theorem IU.mk {r r':RR} {cs':List Int} {x:Nd} {k:Nat} (hx:l[r.pc]?=U x) (hk:x.kind=k) (hs:r.step x cs=((r',cs'),V)) (hg:k=103\/k=112->cs≠[]) (so:r'.Ck=r.Ck) (sf:Vu x r (J cs)) (h1:k≠40:=by decide) (h2:k≠41:=by decide):IU l r cs r' cs':=
 ⟨x,hx,by rw[hk];exact h1,by rw[hk];exact h2,by rw[hk];exact hg,hs,so,sf⟩
theorem fh {L:Nat->Int} {v:List Int} (x:Int) (hl:J v=4) (hi:i<4) (h:∀j,j<4->v.getD j 0=L j):∀j,j<4->(v.set i x).getD j 0=Cv L i x j:=λj hj=>by
 rw[B6 _ _ _ _ _ Y];grind [Cv]
section
variable {l:List Nd} {n:Nat} {C:Nat->Int} {B:List Int} {q q':KS} {r:RR} {cs:List Int} {cells:Int} (hw:Om cells q.R (.rest q.s q.k)) (hn:q.k.Db=V->n=cells.toNat) (h:FI l n C B q r cs)
include hw hn h
theorem tU (hs:Ot (λc=>U (C c)) q=U q'):FI l n C B q' r cs\/∃r' cs',IU l r cs r' cs'/\FI l n C B q' r' cs':=by
 obtain⟨s,k,L,R,A3,o⟩:=q;obtain⟨pc,v,DE,An,Ck,Au⟩:=r;obtain⟨⟨Fu,_⟩,Mi⟩:=hw;have Zv:∀{a:At},DO a->RR.get ⟨pc,v,DE,An,Ck,Au⟩ a=DV L a:=λha=>h.get ha
 obtain⟨hp,FD,hv,GG,Vd,Aw,ho,B8,VF⟩:=h;dsimp only at Fu Mi hp FD hv GG Vd Aw ho VF hn;cases s with
 |nil=>
  obtain⟨_,hp⟩:=hp;rw[show pc+Di .nil=pc from rfl] at hp;cases k with
  |done=>cases hs
  |Ao b s k=>cases hs
  |rest s k=>
   cases hs;exact .inl ⟨hp,FD,hv,GG,Vd,Aw,ho,B8,VF⟩
  |loop b s k=>
   obtain⟨C5,e,h1,h2,h3,h4⟩:=hp;obtain⟨⟨yN,LB⟩,_⟩:=Mi;obtain⟨du,tG⟩:=Vd;have hlen:k.dp<J DE:=Y
   have hdp:(0:Int)<=(k.dp:Int)/\(k.dp:Int)<3:=by have:J DE=3:=GG;omega
   have Ace:∀x,RdK (DE.set k.dp x) (Cv R k.Af x) k:=λx=>tG.Cv (λd hd=>Bp _ _ Y) λd hd=>by rw[B6 _ _ _ _ _ hlen,In Y]
   change (if R k.Af-1=0 then _ else _)=_ at hs;by_cases h0:R k.Af-1=0
   .rw[Jb h0] at hs;cases hs;refine .inr ⟨⟨pc+1,v,DE.set k.dp (R k.Af-1),An,Ck,Au⟩,cs,IU.mk (k:=98) h2 rfl ((nS rfl (a:=R k.Af-1) (by show DE.getD k.dp 0-1=_;rw[du])).trans ?_) Y rfl ⟨FD,GG,ok0,.b rfl hdp (by show 1<=DE.getD k.dp 0/\DE.getD k.dp 0<=4;rw[du];exact⟨Y,Y⟩) (JG _)⟩,⟨⟨h3,h4⟩,FD,hv,by show(DE.set _ _).length=3;rw[Ju];exact GG,Ace _,Aw,ho,B8,VF⟩⟩;rw[In Y];rfl
   .rw[In h0] at hs;cases hs;refine .inr ⟨⟨C5,v,DE.set k.dp (R k.Af-1),An,Ck,Au⟩,cs,IU.mk (k:=98) h2 rfl ((nS rfl (a:=R k.Af-1) (by show DE.getD k.dp 0-1=_;rw[du])).trans ?_) Y rfl ⟨FD,GG,ok0,.b rfl hdp (by show 1<=DE.getD k.dp 0/\DE.getD k.dp 0<=4;rw[du];exact⟨Y,Y⟩) (JG _)⟩,⟨⟨h1,by show Z9 l _ (C5+Di b);rw[<-e];exact⟨C5,e,h1,h2,h3,h4⟩⟩,FD,hv,by show(DE.set _ _).length=3;rw[Ju];exact GG,⟨?_,Ace _⟩,Aw,ho,B8,VF⟩⟩
    .rw[Jb Y];rfl
    .show(DE.set _ _).getD _ _=Cv R k.Af _ k.Af;rw[B6 _ _ _ _ _ hlen,Jb rfl,BK]
 |set x op a b t=>
  obtain⟨N0,Fa⟩:=hp;obtain⟨h1,h2⟩:=C6 N0;obtain⟨hx,IV,ha,hb,_⟩:=Fu;have Rm:Z9 l (.rest t k) (pc+1):=⟨h2,by rw[show pc+1+Di t=pc+Di (.set x op a b t) by simp only[Di];omega];exact Fa⟩;have e1:∀u,((⟨pc+1,v.set x.toNat u,DE,An,Ck,Au⟩:RR).v).length=4:=λu=>by show(v.set _ _).length=4;rw[Ju];exact FD
  change Option.map _ (if op.size=0 then U (DV L a) else BO op (DV L a) (DV L b))=_ at hs;by_cases hz:op.size=0
  .rw[Jb hz] at hs;cases hs;refine .inr ⟨⟨pc+1,v.set x.toNat (DV L a),DE,An,Ck,Au⟩,cs,IU.mk (k:=115) h1 rfl (si rfl hz (Zv ha)) Y rfl ⟨FD,GG,ha,.s rfl hx IV hb⟩,⟨Rm,e1 _,fh _ FD Y hv,GG,Vd,Aw,ho,B8,VF⟩⟩
  .rw[In hz] at hs;cases hm:BO op (DV L a) (DV L b) with
   |none=>rw[hm] at hs;cases hs
   |some u=>
    rw[hm] at hs;cases hs;refine .inr ⟨⟨pc+1,v.set x.toNat u,DE,An,Ck,Au⟩,cs,IU.mk (k:=115) h1 rfl (sg rfl hz (Zv ha) (Zv hb) hm) Y rfl ⟨FD,GG,ha,.s rfl hx IV hb⟩,⟨Rm,e1 _,fh _ FD Y hv,GG,Vd,Aw,ho,B8,VF⟩⟩
 |get x f z a t=>
  obtain⟨N0,Fa⟩:=hp;obtain⟨h1,h2⟩:=C6 N0;obtain⟨hx,hf,ha,hi,_⟩:=Fu;have hn':=hn hi;have Rm:Z9 l (.rest t k) (pc+1):=⟨h2,by rw[show pc+1+Di t=pc+Di (.get x f z a t) by simp only[Di];omega];exact Fa⟩;change (if DV L a<0\/z<=DV L a then Z else _)=_ at hs;split at hs
  .cases hs
  .rename_i hb;have hc:(f+DV L a).toNat<n:=Y
   have hu:((A3 (f+DV L a).toNat).or (U (C (f+DV L a).toNat)))=U (cs.getD (f+DV L a).toNat 0):=by rw[VF _ hc];cases A3 (f+DV L a).toNat<;>rfl
   rw[hu] at hs;cases hs;refine .inr ⟨⟨pc+1,v.set x.toNat (cs.getD (f+DV L a).toNat 0),DE,An,Ck,Au⟩,cs,IU.mk (k:=103) h1 rfl (Aaa rfl (Zv ha) hb) (λ_ h0=>by rw[h0] at B8;have:(0:Nat)=n:=B8;omega) rfl ⟨FD,GG,ok0,.g rfl hx ha ⟨hf.1,by show f+z<=(J cs:Int);rw[show J cs=n from B8];omega⟩⟩,⟨Rm,by show(v.set _ _).length=4;rw[Ju];exact FD,fh _ FD Y hv,GG,Vd,Aw,ho,B8,VF⟩⟩
 |put f z i a t=>
  obtain⟨N0,Fa⟩:=hp;obtain⟨h1,h2⟩:=C6 N0;obtain⟨hf,hi0,ha,hi,_⟩:=Fu;have hn':=hn hi;have Rm:Z9 l (.rest t k) (pc+1):=⟨h2,by rw[show pc+1+Di t=pc+Di (.put f z i a t) by simp only[Di];omega];exact Fa⟩;change (if DV L i<0\/z<=DV L i then Z else _)=_ at hs;split at hs
  .cases hs
  .rename_i hb;cases hs;refine .inr ⟨⟨pc+1,v,DE,An,Ck,Au⟩,cs.set (f+DV L i).toNat (DV L a),IU.mk (k:=112) h1 rfl (zZ rfl (Zv hi0) (Zv ha) hb) (λ_ h0=>by rw[h0] at B8;have:(0:Nat)=n:=B8;omega) rfl ⟨FD,GG,ha,.p rfl hi0 ⟨hf.1,by show f+z<=(J cs:Int);rw[show J cs=n from B8];omega⟩⟩,⟨Rm,FD,hv,GG,Vd,Aw,ho,by rw[Ju];exact B8,λc hc=>?_⟩⟩;rw[B6 _ _ _ _ _ Y];show _=(En A3 _ _ c).getD _;unfold En;split
   .rfl
   .exact VF c hc
 |out a t=>
  obtain⟨N0,Fa⟩:=hp;obtain⟨h1,h2⟩:=C6 N0;obtain⟨ha,_⟩:=Fu;have Rm:Z9 l (.rest t k) (pc+1):=⟨h2,by rw[show pc+1+Di t=pc+Di (.out a t) by simp only[Di];omega];exact Fa⟩;change (if k.Db=V then _ else _)=_ at hs;split at hs
  .cases hs;refine .inr ⟨⟨pc+1,v,DE,An++[DV L a],Ck,Au⟩,cs,IU.mk (k:=111) h1 rfl (nR rfl (Zv ha)) Y rfl ⟨FD,GG,ha,.o rfl⟩,⟨Rm,FD,hv,GG,Vd,Aw,by show An++_=_;rw[ho,Ji],B8,VF⟩⟩
  .cases hs
 |atomic b t=>cases hs
 |Es a b t=>
  obtain⟨N0,Fa⟩:=hp;obtain⟨h1,h2⟩:=C6 N0;obtain⟨h3,h4⟩:=V4 h2;rw[CX] at h4;obtain⟨ha,_⟩:=Fu;have Rm:Z9 l (.rest t k) (pc+1+Di b):=⟨h4,by rw[show pc+1+Di b+Di t=pc+Di (.Es a b t) by simp only[Di];omega];exact Fa⟩;change U (if DV L a=0 then _ else _)=_ at hs;refine .inr ⟨⟨if DV L a=0 then pc+1+Di b else pc+1,v,DE,An,Ck,Au⟩,cs,IU.mk (k:=122) h1 rfl (zV rfl (Zv ha)) Y rfl ⟨FD,GG,ha,.z rfl (JG _)⟩,?_⟩;split at hs
  .rename_i h0;cases hs;rw[Jb h0];exact⟨Rm,FD,hv,GG,Vd,Aw,ho,B8,VF⟩
  .rename_i h0;cases hs;rw[In h0];exact⟨⟨h3,Rm⟩,FD,hv,GG,Vd,Aw,ho,B8,VF⟩
 |loop m b t=>
  obtain⟨N0,Fa⟩:=hp;obtain⟨h1,h2⟩:=C6 N0;obtain⟨h3,h4⟩:=V4 h2;rw[CX] at h4;obtain⟨h5,h6⟩:=C6 h4;obtain⟨_,hd,_⟩:=Fu;have hlen:k.dp<J DE:=Y
  have hdp:(0:Int)<=(k.dp:Int)/\(k.dp:Int)<3:=Y
  cases hs;refine .inr ⟨⟨pc+1,v,DE.set k.dp m,An,Ck,Au⟩,cs,IU.mk (k:=108) h1 rfl (z8 rfl) Y rfl ⟨FD,GG,ok0,.l rfl hdp⟩,⟨⟨h3,pc+1,rfl,h3,h5,h6,?_⟩,FD,hv,by show(DE.set _ _).length=3;rw[Ju];exact GG,⟨by show(DE.set _ _).getD _ _=_;rw[B6 _ _ _ _ _ hlen,Jb rfl];show _=Cv R k.Af m k.Af;rw[BK],?_⟩,Aw,ho,B8,VF⟩⟩
  .rw[show pc+1+Di b+1+Di t=pc+Di (.loop m b t) by simp only[Di];omega];exact Fa
  .exact Vd.Cv (λd hd=>Bp _ _ (Qe hd)) λd hd=>by show(DE.set _ _).getD _ _=_;rw[B6 _ _ _ _ _ hlen,In Y]
theorem Aiq {a:At} {t:Bj} (hs:q.s=.out a t):∃r',IU l r cs r' cs/\FI l n C B (IY q) r' cs:=by
 obtain⟨s,k,L,R,A3,o⟩:=q;obtain⟨pc,v,DE,An,Ck,Au⟩:=r;obtain⟨⟨Fu,_⟩,Mi⟩:=hw;have Zv:∀{a:At},DO a->RR.get ⟨pc,v,DE,An,Ck,Au⟩ a=DV L a:=λha=>h.get ha
 obtain⟨hp,FD,hv,GG,Vd,Aw,ho,B8,VF⟩:=h;dsimp only at hs;subst hs;obtain⟨N0,Fa⟩:=hp;obtain⟨h1,h2⟩:=C6 N0;obtain⟨ha,_⟩:=Fu;have Rm:Z9 l (.rest t k) (pc+1):=⟨h2,by rw[show pc+1+Di t=pc+Di (.out a t) by simp only[Di];omega];exact Fa⟩;refine⟨⟨pc+1,v,DE,An++[DV L a],Ck,Au⟩,IU.mk (k:=111) h1 rfl (nR rfl (Zv ha)) Y rfl ⟨FD,GG,ha,.o rfl⟩,⟨Rm,FD,hv,GG,Vd,Aw,?_,B8,VF⟩⟩;show An++_=B++(o++_);have nf:An=B++o:=ho;rw[nf,Ji]
theorem tT {t:Int} (ht:Bz q=U t):∃x r',l[r.pc]?=U x/\x.kind≠40/\x.kind≠41/\(x.kind=103\/x.kind=112->q.k.Db=V)/\r.step x cs=((r',cs),I)/\r'.Au=t/\r'.An=r.An/\r'.Ck=r.Ck/\Vu x r (J cs):=by
 obtain⟨s,k,L,R,A3,o⟩:=q;obtain⟨pc,v,DE,An,Ck,Au⟩:=r;obtain⟨⟨Fu,_⟩,Mi⟩:=hw;have Zv:∀{a:At},DO a->RR.get ⟨pc,v,DE,An,Ck,Au⟩ a=DV L a:=λha=>h.get ha
 obtain⟨hp,FD,hv,GG,Vd,Aw,ho,B8,VF⟩:=h;unfold Bz at ht;dsimp only at ht Fu;split at ht
 .rename_i x op a b u;obtain⟨N0,Fa⟩:=hp;obtain⟨h1,h2⟩:=C6 N0;obtain⟨hx,IV,ha,hb,_⟩:=Fu;split at ht
  .rename_i hc;cases ht;refine⟨_,⟨pc+1,v,DE,An,Ck,1⟩,h1,nk (k:=115) rfl,nk (k:=115) rfl,λhx=>hx.elim (λe=>Jk e (nk (k:=115) rfl)) (λe=>Jk e (nk (k:=115) rfl)),se rfl hc.1 AC AC hc.2,rfl,rfl,rfl,FD,GG,ha,.s rfl hx IV hb⟩
  .cases ht
 .rename_i x f z a u;obtain⟨N0,Fa⟩:=hp;obtain⟨h1,h2⟩:=C6 N0;obtain⟨hx,hf,ha,hi,_⟩:=Fu;split at ht
  .rename_i hc;cases ht;refine⟨_,⟨pc+1,v,DE,An,Ck,2⟩,h1,nk (k:=103) rfl,nk (k:=103) rfl,AC,ss rfl AC hc,rfl,rfl,rfl,FD,GG,ok0,.g rfl hx ha AC⟩
  .cases ht
 .rename_i f z i a u;obtain⟨N0,Fa⟩:=hp;obtain⟨h1,h2⟩:=C6 N0;obtain⟨hf,hi0,ha,hi,_⟩:=Fu;split at ht
  .rename_i hc;cases ht;refine⟨_,⟨pc+1,v,DE,An,Ck,2⟩,h1,nk (k:=112) rfl,nk (k:=112) rfl,AC,sj rfl AC hc,rfl,rfl,rfl,FD,GG,ha,.p rfl hi0 AC⟩
  .cases ht
 .cases ht
end
section
section
variable {cells:Int} {rd:Nat->Option Int} {q q':KS} (hw:Om cells q.R (.rest q.s q.k))
include hw
theorem fO (hs:Ot rd q=U q'):Om cells q'.R (.rest q'.s q'.k)/\Dy q'<Dy q:=by
 obtain⟨s,k,L,R,A3,o⟩:=q;obtain⟨⟨Fu,Ld⟩,Mi⟩:=hw;dsimp only at Fu Mi Ld;cases s with
 |nil=>
  cases k with
  |done=>cases hs
  |Ao b s k=>cases hs
  |rest s k=>cases hs;exact⟨Mi,by show KB (.rest s k) R<1+0+KB (.rest s k) R;omega⟩
  |loop b s k=>
   obtain⟨⟨⟨yN,LB⟩,hd⟩,hb,ht,hk⟩:=Mi;have hR:∀v d,d<k.Af->Cv R k.Af v d=R d:=λv d h=>Bp _ _ Y
   change (if R k.Af-1=0 then _ else _)=_ at hs;split at hs
   .rename_i h0;cases hs;refine⟨⟨ht,Sx _ _ _ _ (hR _) hk⟩,?_⟩;show 1+AW s+KB k (Cv R k.Af (R k.Af-1))<1+0+(6+((R k.Af).toNat-1)*(6+AW b)+AW s+KB k R);rw[Sb k R _ (hR _)];omega
   .rename_i h0;cases hs;refine⟨⟨hb,⟨⟨by grind [BK],by grind [BK]⟩,hd⟩,hb,ht,Sx _ _ _ _ (hR _) hk⟩,?_⟩;show 1+AW b+(6+((Cv R k.Af (R k.Af-1) k.Af).toNat-1)*(6+AW b)+AW s+KB k (Cv R k.Af (R k.Af-1)))<1+0+(6+((R k.Af).toNat-1)*(6+AW b)+AW s+KB k R);rw[BK,Sb k R _ (hR _),show(R k.Af).toNat-1=((R k.Af-1).toNat-1)+1 by omega,i5];omega
 |set x op a b t=>
  change Option.map _ _=_ at hs;rw[Jj] at hs;obtain⟨_,_,rfl⟩:=hs;exact⟨⟨⟨Fu.2.2.2.2,Ld⟩,Mi⟩,by show 1+AW t+KB k R<1+(5+AW t)+KB k R;omega⟩
 |get x f z a t=>
  change (if _ then Z else Option.map _ _)=_ at hs;split at hs
  .cases hs
  rw[Jj] at hs;obtain⟨_,_,rfl⟩:=hs;exact⟨⟨⟨Fu.2.2.2.2,Ld⟩,Mi⟩,by show 1+AW t+KB k R<1+(60+AW t)+KB k R;omega⟩
 |put f z i a t=>
  change (if _ then Z else _)=_ at hs;split at hs
  .cases hs
  cases hs;exact⟨⟨⟨Fu.2.2.2.2,Ld⟩,Mi⟩,by show 1+AW t+KB k R<1+(12+AW t)+KB k R;omega⟩
 |out a t=>
  change (if _ then _ else Z)=_ at hs;split at hs
  .cases hs;exact⟨⟨⟨Fu.2,Ld⟩,Mi⟩,by show 1+AW t+KB k R<1+(6+AW t)+KB k R;omega⟩
  .cases hs
 |atomic b t=>cases hs
 |Es a b t=>
  change U (if _ then _ else _)=_ at hs;obtain⟨_,hd,hb,ht⟩:=Fu;split at hs
  .cases hs;exact⟨⟨⟨ht,Ld.2⟩,Mi⟩,by show 1+AW t+KB k R<1+(4+AW b+AW t)+KB k R;omega⟩
  .cases hs;exact⟨⟨⟨hb,Ld.1⟩,⟨ht,Ld.2⟩,Mi⟩,by show 1+AW b+(1+AW t+KB k R)<1+(4+AW b+AW t)+KB k R;omega⟩
 |loop m b t=>
  obtain⟨hm,hd,hb,ht⟩:=Fu;have hR:∀v d,d<k.Af->Cv R k.Af v d=R d:=λv d h=>Bp _ _ Y
  cases hs;refine⟨⟨⟨hb,Ld.1⟩,⟨⟨by grind [BK],by grind [BK]⟩,hd⟩,⟨hb,Ld.1⟩,⟨ht,Ld.2⟩,Sx _ _ _ _ (hR _) Mi⟩,?_⟩;show 1+AW b+(6+((Cv R k.Af m k.Af).toNat-1)*(6+AW b)+AW t+KB k (Cv R k.Af m))<1+(2+m.toNat*(6+AW b)+AW t)+KB k R;rw[BK,Sb k R _ (hR _)];obtain⟨j,hj⟩:∃j,m.toNat=j+1:=⟨m.toNat-1,Y⟩<;>grind [Nat.succ_mul]
omit hw in
theorem kV (hs:Ot rd q=U q'):J q'.o<=J q.o+1:=by
 grind [Ot,Option.map_eq_some_iff]
omit hw in
theorem AbO (hs:Ot (λc=>U (C c)) q=Z):(q.s=.nil/\(q.k=.done\/∃b s k,q.k=.Ao b s k))\/(∃b t,q.s=.atomic b t)\/(∃t,Bz q=U t)\/∃a t,q.s=.out a t/\q.k.Db=I:=by
 obtain⟨s,k,L,R,A3,o⟩:=q;cases s with
 |nil=>
  cases k with
  |done=>grind
  |Ao b s k=>grind
  |rest s k=>cases hs
  |loop b s k=>change (if _ then _ else _)=_ at hs;split at hs<;>cases hs
 |set x op a b t=>
  change Option.map _ (if op.size=0 then _ else _)=_ at hs;rw[Option.map_eq_none_iff] at hs;split at hs
  .cases hs
  .rename_i h0;exact .inr (.inr (.inl ⟨1,by grind [Bz]⟩))
 |get x f z a t=>
  change (if DV L a<0\/z<=DV L a then Z else Option.map _ _)=_ at hs;split at hs
  .rename_i h0;exact .inr (.inr (.inl ⟨2,by grind [Bz]⟩))
  grind
 |put f z i a t=>
  change (if DV L i<0\/z<=DV L i then Z else _)=_ at hs;split at hs
  .rename_i h0;exact .inr (.inr (.inl ⟨2,by grind [Bz]⟩))
  .cases hs
 |out a t=>
  change (if k.Db=V then _ else Z)=_ at hs;grind
 |atomic b t=>grind
 |Es a b t=>cases hs
 |loop m b t=>cases hs
theorem Aa3 {a:At} {t:Bj} (hs:q.s=.out a t):Om cells (IY q).R (.rest (IY q).s (IY q).k)/\Dy (IY q)<Dy q/\(IY q).k=q.k:=by
 obtain⟨s,k,L,R,A3,o⟩:=q;dsimp only at hs;subst hs;obtain⟨⟨Fu,Ld⟩,Mi⟩:=hw;exact⟨⟨⟨Fu.2,Ld⟩,Mi⟩,by show 1+AW t+KB k R<1+(6+AW t)+KB k R;omega,rfl⟩
end
inductive Fe:KS->KS->Prop
 |nil (q:KS):Fe q q
 |cons {q r u:KS} (h:Ot D9 q=U r) (k:Fe r u):Fe q u
 |out {q u:KS} {a:At} {t:Bj} (h:q.s=.out a t) (hi:q.k.Db=I) (k:Fe (IY q) u):Fe q u
theorem Fe.trans {u:KS} (h:Fe q r) (k:Fe r u):Fe q u:=by
 induction h<;>grind [cons,out]
theorem Ij.Ae2 (h:Ij D9 q r):Fe q r:=by
 induction h with
 |nil q=>exact .nil q
 |cons h _ ih=>exact .cons h ih
def Ix (q:KS):Prop:=q.s=.nil/\q.k=.done
def Dm (q:KS):Prop:=∃b t,q.s=.atomic b t
theorem Ae6 {k:KK} (h:k.Db=I):¬∃b s k',k=.Ao b s k':=λ⟨b,s,k',e⟩=>by rw[e] at h;cases h
variable {l:List Nd} {cells:Int}
theorem Ahd {a:At} {t:Bj} (h:q.s=.out a t):(IY q).o.length=J q.o+1:=by grind [IY]
theorem Ae0 (hw:Om cells q.R (.rest q.s q.k)) (hi:q.k.Db=I) (C:Nat->Int):Ot (λc=>U (C c)) q=Ot D9 q:=by
 obtain⟨s,k,L,R,A3,o⟩:=q;obtain⟨⟨Fu,Ld⟩,Mi⟩:=hw;cases s with
 |get x f z a t=>exact Jk (Fu.2.2.2.1:k.Db=V) (by rw[show k.Db=I from hi];grind)
 |_=>rfl
theorem AhC {r:RR} (h:FI l 0 (λ_=>0) B q r []) (hw:Om cells q.R (.rest q.s q.k)) (hi:q.k.Db=I) (hK:J B+J q.o<=60000):
  (Dm q->∃x,l[r.pc]?=U x/\x.kind=40)/\(Ix q->l[r.pc]?=Z)/\∀t,Bz q=U t->∃r',Gd l 1 r r'/\r'.Au=t/\r'.An=r.An/\r'.Ck=r.Ck:=by
 refine⟨λ⟨b,t,e⟩=>?_,λ⟨e1,e2⟩=>?_,λt ht=>?_⟩
 .have hp:=h.Mh;rw[e] at hp;exact⟨_,(C6 hp.1).1,rfl⟩
 .have hp:=h.Mh;rw[e1,e2] at hp;have:r.pc+Di .nil=J l:=hp.2;grind [Di]
 .obtain⟨x,r',h1,h2,h3,h4,h5,h6,h7,h8,h9⟩:=tT hw AC h ht;have hg:x.kind≠103/\x.kind≠112:=AC;have ht0:t≠0:=λe=>by rcases U5 ht with e'|e'<;>rw[e'] at e<;>cases e
  refine⟨r',.step h.st h1 h2 hg ⟨h9,by rw[h.An,GT];exact hK⟩ ?_,h6,h7,h8⟩;rw[h5];exact .done (by rw[h6];exact ht0)
theorem AeT {q':KS} (hk:Fe q q') {B:List Int} {r:RR} (h:FI l 0 (λ_=>0) B q r []) (hw:Om cells q.R (.rest q.s q.k)) (hi:q.k.Db=I) (hK:J B+J q.o+Dy q<=60000):
  ∃r',FI l 0 (λ_=>0) B q' r' []/\Om cells q'.R (.rest q'.s q'.k)/\q'.k.Db=I/\r'.Ck=r.Ck/\(Dy q'<=Dy q/\J q'.o+Dy q'<=J q.o+Dy q)/\∀n u,Gd l n r' u->∃m,Gd l m r u:=by
 induction hk generalizing r with
 |nil q=>grind
 |cons hs _ ih=>
  have V9:=kW (rd:=D9) (rd':=λc=>U ((λ_=>(0:Int)) c)) (λc x h=>by cases h) hs;obtain⟨Fu,BJ⟩:=fO hw hs;have hi1:=(MT hs).trans hi;have ho:=kV hs;rcases tU hw AC h V9 with h1|⟨r1,cs1,⟨x,hx,GJ,Mo,ng,Aw,hso,sf⟩,h1⟩;grind
  .have PG:cs1=[]:=Jm h1.cl;subst PG;obtain⟨r',a1,a2,a3,a4,a5,a6⟩:=ih h1 Fu hi1 Y;exact naj
 |out hs pI _ ih=>
  obtain⟨Fu,BJ,ek⟩:=Aa3 hw hs;have ho:=Ahd hs;obtain⟨r1,⟨x,hx,GJ,Mo,ng,Aw,hso,sf⟩,h1⟩:=Aiq hw AC h hs;obtain⟨r',a1,a2,a3,a4,a5,a6⟩:=ih h1 Fu (by rw[ek];exact hi) Y;exact naj
theorem NY:∀(N:Nat) {q:KS},Dy q<=N->Om cells q.R (.rest q.s q.k)->q.k.Db=I->∃q',Fe q q'/\(Ix q'\/Dm q'\/∃t,Bz q'=U t):=by
 intro N;induction N with
 |zero=>grind [Dy,KB]
 |succ N ih=>
  intro q h hw hi;cases hs:Ot (λc=>U ((λ_=>(0:Int)) c)) q with
  |none=>
   rcases AbO hs with⟨h1,h2|h2⟩|h1|h1|⟨a,t,h1,h2⟩
   .exact⟨q,.nil q,.inl ⟨h1,h2⟩⟩
   grind [Ae6]
   .exact⟨q,.nil q,.inr (.inl h1)⟩
   .exact⟨q,.nil q,AC⟩
   .obtain⟨Fu,BJ,ek⟩:=Aa3 hw h1;obtain⟨q',k,e⟩:=ih (q:=IY q) Y Fu (by rw[ek];exact hi);exact⟨q',.out h1 h2 k,e⟩
  |some q1=>
   obtain⟨Fu,BJ⟩:=fO hw hs;obtain⟨q',k,e⟩:=ih (q:=q1) Y Fu ((MT hs).trans hi);exact⟨q',.cons (by rw[<-Ae0 hw hi (λ_=>0)];exact hs) k,e⟩
end
