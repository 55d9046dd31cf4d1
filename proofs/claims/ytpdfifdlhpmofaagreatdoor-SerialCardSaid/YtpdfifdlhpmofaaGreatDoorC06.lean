/- Part 6 of the proof. -/
import Derived.Test.YtpdfifdlhpmofaaGreatDoorC05
set_option linter.unusedVariables false
set_option linter.unusedSimpArgs false
set_option maxHeartbeats 0
set_option maxRecDepth 99999
namespace Go.Proofs.YtpdfifdlhpmofaaGreatDoor
open Go.RowKit Tryz
open Value renaming slice->m9,string->qA,bool->qB,tuple->qC,agg->qD,pointer->qE
open Ending renaming returned->qF
open Obj renaming cells->qG
open Option renaming none->Z,some->U
open Bool renaming true->V,false->I
open Go.Lib renaming hid->D
open List renaming length->J
theorem mae {p:Prop} (h:p:=by
 rw[BZ] at he;obtain⟨rfl,g',F',DS,Eg,VN,S4⟩:=he;have gS:=EI BZ;have hr:x.Bd nm ws=if 14<y.Ah+1\/4<y.EV then .error 5 else .ok {y with Ah:=y.Ah+1}:=by rw[Hp.out,BZ]
 rw[S4.D1.EV] at hr;have Pu:True->wrap64 (y.Ah+1)=y.Ah+1:=λ_=>IntWalk.wrap64_in _ Y
 have f4:=Iv S4.Ak;have y6:w4.cell? ⟨g.xb,6,Z⟩=U (iI y.Ah):=DS▸f4.c 6;have y5:w4.cell? ⟨g.xb,5,Z⟩=U (m9 (U ⟨g'.ob,0,Z⟩) (J g'.fr+1) g'.oc):=DS▸f4.c 5;have y1:w4.cell? ⟨g.xb,1,Z⟩=U (iI Ae):=DS▸f4.c 1;have yf:World.frozen? w4 ⟨g.xb,6,Z⟩=I:=DS▸f4.f 6;have yl:g.xb<w4.heap.size:=DS▸f4.lt;have cb:=S4.AJ.cell (Eg _ (IR _ MX)) 0;have SJ:w.heap.size≠g.xb:=λe=>by rw[e] at hlt;omega
 obtain⟨t5,S5⟩:=S4.count (Ge.trans VN);rw[DS] at t5 S5;have Ud:=D t5;have Ue:=D S5;have rT:=D DS;have Mg:=D Eg;have Ub:=D hr;clear BZ f4 S4 VN t5 S5 DS Eg hr gS;by_cases OR:14<y.Ah+1
 .have LB:x.Bd nm ws=.error 5:=Ub.trans (Jb (.inl OR));have IA:=D LB;clear LB;go_wp2_with fail;refine(AP _ _ _).mono ?_;rintro e w5 ⟨⟨fb,rfl,hb⟩,hm⟩;go_wp2;rw[IA.out];exact⟨rfl,Cd Np ⟨⟨fb,rfl,hb⟩,Ud.mod.Aj hm⟩⟩
 .by_cases h4:4<J g'.fr+1
  .have pQ:(4:Int)<(J g'.fr:Int)+1:=Y
   have IA:=D (Ub.trans (Jb (.inr h4)));clear h4;go_wp2_with fail;refine(AP _ _ _).mono ?_;rintro e w5 ⟨⟨fb,rfl,hb⟩,hm⟩;go_wp2;rw[IA.out];exact⟨rfl,Cd Np ⟨⟨fb,rfl,hb⟩,Ud.mod.Aj hm⟩⟩
  .have pQ:¬(4:Int)<(J g'.fr:Int)+1:=Y
   have IA:=D (Ub.trans (In (λh=>h.elim OR h4)));clear h4;go_wp2
   go_end0
   rw[IA.out];exact⟨rfl,g',F',Ns,rT,λy hy=>Mg.out y (Jc _ hy),Ud,Ue⟩):p:=h
theorem mag {p:Prop} (h:p:=by
 go_wp2_with fail;refine(AP _ _ _).mono ?_;rintro e w5 ⟨⟨fb,rfl,hb⟩,hm⟩;go_wp2;rw[IA.out];exact⟨rfl,Cd Np ⟨⟨fb,rfl,hb⟩,Ud.mod.Aj hm⟩⟩):p:=h
theorem mar {p:Prop} (h:p:=by
 go_wp2;rw[hr.out];exact⟨rfl,Cd Np ⟨⟨fb,rfl,hb⟩,Ge.mod.Aj hm⟩⟩):p:=h
theorem mau {p:Prop} (h:p:=by
 clear J0 S0;intro cs al i s w1 hi hJ;have Pv:=hJ.sub i hi;simp only[Jl,QV,or_false] at Pv;rcases Pv with rfl|rfl
 .refine D4 rfl (λK hK=>?_);simp only[Km.P2,FH];go_simp;have h2:=hJ.a1 Do;refine hK _ _ ⟨h2.Oi MX 0,_,?_,h2⟩;simp only[Km.P2,mZ,FH]
 .refine D4 rfl (λK hK=>?_);simp only[Km.P2,FH];go_simp;have h2:=hJ.a2 Do;refine hK _ _ ⟨h2.Oi MX 0,_,?_,h2⟩;simp only[Km.P2,mZ,FH]):p:=h
theorem maH {p:Prop} (h:p:=by
 go_wp2;go_ret;exact⟨_,_,_,rfl,(Az.refl _ _).alloc _,Ci.new _ _ _,Jf _,λF ws h1 h2 h3=>⟨_,[],_,ws,rfl,h1,h2,h3,rfl⟩⟩):p:=h
theorem maL {p:Prop} (h:p:=by
 obtain⟨rfl,_⟩:=he;refine hK _ _ (λh=>Jk rfl h) ?_;clear hK;simp only[BN];go_wp2
 go_end0
 rw[Hr.out];exact hf.out):p:=h
theorem maO {p:Prop} (h:p:=by
 obtain⟨rfl,_⟩:=he;refine hK _ _ ⟨h2.Oi MX 0,_,?_,h2⟩;simp only[Km.P2,FH]):p:=h
theorem maR {p:Prop} (h:p:=by
 clear hc;go_wp2_with fail;refine(EY _ xb r _ Ae (B1.mod ((Az.refl [] w1).alloc _) EQ)).mono ?_;rintro e w5 ⟨⟨fb,rfl,hb⟩,hm⟩;go_wp2;rw[Hr.out];exact⟨rfl,⟨fb,rfl,hb⟩,(M1.alloc _).Aj hm⟩):p:=h
theorem maU {p:Prop} (h:p:=by
 go_enter func116,ntmps116;go_wp2_with fail;refine(AP _ _ _).mono ?_;rintro e w1 ⟨⟨fb,rfl,hb⟩,hm⟩;go_wp2;rw[Hr.out];exact⟨rfl,⟨fb,rfl,hb⟩,((Az.refl _ _).alloc _).Aj hm⟩):p:=h
theorem ma4 {p:Prop} (h:p:=by
 clear hw;go_wp2;rw[hr.out];exact⟨rfl,AZ (R0.out.fail ⟨⟨fb,rfl,hb⟩,hm⟩)⟩):p:=h
theorem mbk {p:Prop} (h:p:=by
 intro e w1 he;have hf:=D (RA he H (Az.refl _ _) H.Ak (λ_ hy=>hy));obtain⟨rfl,_⟩:=he;go_wp2
 go_end0
 exact hf.out):p:=h
theorem mbo {p:Prop} (h:p:=by
 have Hn:=D hn;clear hn;go_enter func112,ntmps112;go_wp2;go_ret;exact⟨by rw[Hn.out];rfl,Az.refl _ _⟩):p:=h
theorem mbu {p:Prop} (h:p:=by
 exact⟨rfl,⟨fb,rfl,hb⟩,((Az.refl [] w).drew).Aj hm⟩):p:=h
theorem mbD {p:Prop} (h:p:=by
 exact⟨by go_simp,((((Az.refl [] w).alloc _).alloc _).drew).heap TO EQ,by go_simp⟩):p:=h
theorem mbF {p:Prop} (h:p:=by
 split at h
 .cases h
 .split at h
  .cases h
  .rename_i hl;cases h;rw[OS];exact Vk hl):p:=h
theorem mbQ {p:Prop} (h:p:=by
 go_enter func75,ntmps75;go_wp2
 go_end0
 exact⟨rfl,Az.refl _ _⟩):p:=h
variable {a n nm:ByteArray} {l ws l1:Ws} {v wv:Value} {s:Vw} {xb i b mb:Nat} {r:PV} {Ae:Int} {w W w' w0:World} {F E F0:List (Nat×Obj)} {c:Array Value} {o p:Obj} {os:List Fr} {ts:List Bj} {vs:List Value} {x y:qH} {L A B:List Ob} {e:Ending} {T:TypeId} {al':List Nat}
theorem um (l:By):(AU l).toList=l:=by rw[ByteArray.toList_eq];exact Dk l
theorem ZJ (s:ByteArray) (w:World) (hs:s.size<=1000000):
  Calls prog 112 #[qA s] w (AiL (Cg (bs s)) w):=by
 by_cases h0:(0:Int)<(s.size:Int)
 .by_cases h6:(s.size:Int)<=6
  .have hn:Cg (bs s)=(AU (Lib.trimS (bs s) ON)).toList.isEmpty:=by
    rw[TA,Br,J3 Y,J3 Y,um];cases Lib.trimS (bs s) ON with
    |nil=>rfl
    |cons a l=>rfl
   have Hn:=D hn;clear hn;go_enter func112,ntmps112;go_wp2_with fail;refine(zF s _ hs).mono ?_;rintro e w1 ⟨rfl,hm⟩;go_wp2;go_ret;exact⟨by rw[Hn.out];rfl,hm⟩
  .have hn:Cg (bs s)=I:=by
    rw[TA,Br,JJ (by omega:¬s.size<=6)];simp
   exact mbo
 .have hn:Cg (bs s)=I:=by
   rw[TA,Br,JJ Y];simp
  exact mbo
def Wd.val (a:Wd):Value:= qD #[qA a.name,iI a.v]
theorem Ajs (h:Cg (bs a)=V):cN (a::l)=U (a,l):=by show(if _ then _ else _)=_;rw[Jb h]
theorem Ajt (h:Cg (bs a)=I):cN (a::l)=Z:=by show(if _ then _ else _)=_;rw[In (by rw[h];simp)]
theorem AlF (h:Cg (bs a)=V):ES (a::l)=U (⟨a,0⟩,l):=by show(if _ then _ else _)=_;rw[Jb h]
theorem AlG {v:Int} (h:Cg (bs a)=I) (k:number (bs a)=U v):ES (a::l)=U (⟨⟨#[]⟩,v⟩,l):=by show(if _ then _ else _)=_;rw[In (by rw[h];simp),k]
theorem Ai1 (h:Cg (bs a)=I) (k:number (bs a)=Z):ES (a::l)=Z:=by show(if _ then _ else _)=_;rw[In (by rw[h];simp),k]
theorem N9 (l:Ws) (w:World) (xb:Nat) (r:PV) (wv:Value) (Ae:Int) (ok:Nat->Prop) (h:ig w xb r wv Ae) (hs:Sl w ok wv (Bq l)) (hx:¬ok xb) (hz:∀a,a∈l->a.size<=1000000):
  Calls prog 97 #[iJ xb] w (O2 ((cN l).map λp=>(qA p.1,p.2)) xb r Ae ok w):=by
 have hn:=Ki l w xb r wv Ae ok h hs hx;have Hn:=D hn;clear hn h hs;go_enter func97,ntmps97;go_wp2_with fail;refine Hn.mono ?_;intro e w1 he;cases l with
 |nil=>
  obtain⟨⟨fb,rfl,hb⟩,hm⟩:=he;go_wp2;exact maZ
 |cons a l=>
  obtain⟨rfl,Ou,h1,s1,m1⟩:=he;have hza:=hz a (Jd ..);clear hz;go_wp2_with fail;refine(ZJ a _ hza).mono ?_;rintro e w2 ⟨rfl,m2⟩;cases hb:Cg (bs a) with
  |true=>
   have Hb:=D hb;clear hb;go_wp2;go_ret;rw[Ajs Hb.out];exact⟨rfl,Ou,Ci.mod h1 m2 EQ,s1.mod m2 (λb hb hm=>by cases hm),m1.Aj m2⟩
  |false=>
   have Hb:=D hb;clear hb;go_wp2_with fail;refine(EY _ xb r _ Ae (Ci.mod h1 m2 EQ)).mono ?_;rintro e w3 ⟨⟨fb,rfl,hb⟩,hm⟩;go_wp2;rw[Ajt Hb.out];exact⟨rfl,⟨fb,rfl,hb⟩,(m1.Aj m2).Aj hm⟩
theorem AbS {v:Int} {s:ByteArray}:((AU (Lib.itoa v)).toList==s.toList)=decide (Lib.itoa v=bs s):=by
 rw[um,ByteArray.toList_eq,Q1,Q0,JB]
theorem Nu {ok:Nat->Prop} {w2 w3:World} (h1:ig w2 xb r wv Ae) (s1:Sl w2 (λb=>ok b/\b<w.heap.size) wv (Bq l)) (M:Az [xb] w w2) {nb:Nat} (Pr:w.heap.size<=nb) (hx:xb<w.heap.size) (k:Az [nb] w2 w3):
  O2 (U (v,l)) xb r Ae ok w (qF v) w3:=
 ⟨rfl,wv,Ci.mod h1 k (by simp;omega),(s1.mod k (λb hb hm=>by rw[GE] at hm;have:=hb.2;omega)).mono (λb _ hb=>hb.1),M.trans k (λx hx=>by rw[GE] at hx;exact .inr Y)⟩
theorem Kh (mb:Nat) (l:Ws) (w:World) (xb:Nat) (r:PV) (wv:Value) (Ae:Int) (ok:Nat->Prop) (h:ig w xb r wv Ae) (hs:Sl w ok wv (Bq l)) (hx:¬ok xb) (hz:∀a,a∈l->a.size<=1000000) (hg:Gl mb w) (aq:xb∉dz mb):
  Calls prog 113 #[iJ xb] w (O2 ((ES l).map λp=>(p.1.val,p.2)) xb r Ae ok w):=by
 have ha:=λt=>Ci.mod h ((Az.refl [] w).alloc t) EQ
 have hn:=λt:Obj=>Ki l (w.alloc t) xb r wv Ae (λb=>ok b/\b<w.heap.size) (ha t) ((hs.mono (λb hb ho=>⟨ho,hb⟩)).mod ((Az.refl [] w).alloc t) (λb hb hm=>by cases hm)) (λh=>hx h.1)
 have Hn:=D hn;have Hg:=D hg;have Gp:=Dq h;clear hn h hs ha hg;go_enter func113,ntmps113;go_wp2_with fail;refine(Hn _).mono ?_;intro e w1 he;cases l with
 |nil=>
  obtain⟨⟨fb,rfl,hb⟩,hm⟩:=he;go_wp2;exact⟨rfl,⟨fb,rfl,hb⟩,((Az.refl [xb] w).alloc _).trans hm (λx hx=> .inl hx)⟩
 |cons a l=>
  obtain⟨rfl,Ou,h1,s1,m1⟩:=he;have hza:=hz a (Jd ..);clear hz Hn;have R1:=Ci.mod (Ci.new w _ _) m1 (by simp;omega);have M1:=((Az.refl [xb] w).alloc _).trans m1 (λx hx=> .inl hx);have G1:=D (Hg.mod M1 (λb hb hm=>by rw[GE] at hm;rw[hm] at hb;exact aq hb));have B1:=D h1;have S1:=D s1;have HR1:=D R1;have Nt:=D M1;clear m1 h1 s1 M1;clear R1;go_wp2_with fail;refine(ZJ a _ hza).mono ?_;rintro e w2 ⟨rfl,m2⟩;have R2:=HR1.mod m2 EQ;have rc:=R2.cell;have rf:=R2.free;have rl:=R2.lt;have SQ:=D (Nt.Aj m2);have gN:=D m2;clear R2 m2;cases hb:Cg (bs a) with
  |true=>
   have Hb:=D hb;clear hb;go_wp2_with fail;refine bodyPost_ret (v:= qD #[qA a,iI 0]) (by simp[results,results113,go_sem,rc,rf,rl]) rfl ?_;rw[AlF Hb.out];exact Nu (B1.mod gN EQ) (S1.mod gN (λb hb hm=>by cases hm)) SQ (Jf _) Gp (((Az.refl _ _).setCell (.inl EQ) _).setCell (.inl EQ) _)
  |false=>
   have Hb:=D hb;clear hb rf rl;go_wp2_with fail;refine(vC mb a _ (G1.quiet gN) hza).mono ?_;rintro e w3 ⟨m3,⟨v,hp,rfl⟩|⟨hp,v,t,p,rfl⟩⟩
   .have h64: -9223372036854775808<=v/\v<=9223372036854775807:=by
     have h:=Lib.parseIntB_bounds hp;rw[show((2 ^ (64-1):Nat):Int)=9223372036854775808 from rfl] at h;omega
    have yX:=D (gN.Aj m3);have Hp:=D hp;have mT:=D (SQ.Aj m3);clear hp m3;go_wp2_with fail;refine(X6 v h64 _ (G1.quiet yX).tab).mono ?_;rintro e w4 ⟨rfl,m4⟩;have Hm4:=D (yX.Aj m4);have HM4:=D (mT.Aj m4);have R4:=HR1.mod Hm4 EQ;have rc:=R4.cell;have rf:=R4.free;have rl:=R4.lt;clear m4 R4;have Aw:=AbS (v:=v) (s:=a);by_cases he:Lib.itoa v=bs a
    .have hn:=(Tx _ _).2 ⟨Hp,he⟩;rw[J3 he] at Aw;have Hn2:=D hn;clear he hn;go_wp2_with fail;refine bodyPost_ret (v:= qD #[qA ⟨#[]⟩,iI v]) (by simp[results,results113,go_sem,rc,rf,rl]) rfl ?_;rw[AlG Hb.out Hn2.out];exact Nu (B1.mod Hm4 EQ) (S1.mod Hm4 (λb hb hm=>by cases hm)) HM4 (Jf _) Gp (((Az.refl _ _).setCell (.inl EQ) _).setCell (.inl EQ) _)
    .have hn:number (bs a)=Z:=by
      cases hq:number (bs a) with
      |none=>rfl
      |some u=>
       obtain⟨q1,q2⟩:=(Tx _ _).1 hq;rw[Hp.out] at q1;cases q1;exact Jk q2 he
     rw[JJ he] at Aw;have Hn2:=D hn;clear he hn rf rl;go_wp2_with fail;refine(EY _ xb r _ Ae (B1.mod Hm4 EQ)).mono ?_;rintro e w5 ⟨⟨fb,rfl,hb⟩,hm⟩;go_wp2;rw[Ai1 Hb.out Hn2.out];exact⟨rfl,⟨fb,rfl,hb⟩,HM4.Aj hm⟩
   .have hn:number (bs a)=Z:=by
     cases hq:number (bs a) with
     |none=>rfl
     |some u=>exact Jk ((Tx _ _).1 hq).1 (hp u)
    have Hn2:=D hn;have yX:=D (gN.Aj m3);have mT:=D (SQ.Aj m3);clear hn hp m3;go_wp2_with fail;refine(EY _ xb r _ Ae (B1.mod yX EQ)).mono ?_;rintro e w5 ⟨⟨fb,rfl,hb⟩,hm⟩;go_wp2;rw[Ai1 Hb.out Hn2.out];exact⟨rfl,⟨fb,rfl,hb⟩,mT.Aj hm⟩
theorem dC (BE:Int) (mb:Nat) (l:Ws) (w:World) (xb:Nat) (r:PV) (wv:Value) (Ae:Int) (ok:Nat->Prop) (h:ig w xb r wv Ae) (hs:Sl w ok wv (Bq l)) (hx:¬ok xb) (hz:∀a,a∈l->a.size<=1000000) (hg:Gl mb w) (aq:xb∉dz mb) (hm:BE<=1000):
  Calls prog 98 #[iJ xb,iI BE] w (O2 ((Il BE l).map λp=>(iI p.1,p.2)) xb r Ae ok w):=by
 have Hn:=D (Kh mb l w xb r wv Ae (λb=>ok b/\b<w.heap.size) h (hs.mono (λb hb ho=>⟨ho,hb⟩)) (λh=>hx h.1) hz hg aq);have Gp:=Dq h;clear h hs hg hz;go_enter func98,ntmps98;go_wp2_with fail;refine Hn.mono ?_;intro e w1 he;cases hw:ES l with
 |none=>
  have hu:Il BE l=Z:=by unfold Il;rw[hw]
  rw[hw] at he;obtain⟨⟨fb,rfl,hb⟩,hm⟩:=he;have Hu:=D hu;clear hw hu Hn;go_wp2;rw[Hu.out];exact maZ
 |some q=>
  obtain⟨a,l'⟩:=q;have hu:Il BE l=if a.name.size=0/\1<=a.v/\a.v<=BE then U (a.v,l') else Z:=by unfold Il;rw[hw]
  rw[hw] at he;obtain⟨rfl,Ou,h1,s1,m1⟩:=he;have B1:=D h1;have S1:=D s1;have M1:=D m1;have Hu:=D hu;have pr:=m1.size;obtain⟨nm,v⟩:=a;have LC:(⟨nm,v⟩:Wd).val= qD #[qA nm,iI v]:=rfl;simp only[LC];clear hw hu Hn h1 s1 m1 LC;by_cases IN:nm.size=0
  .have Zs:=ByteArray.ext (jC IN);subst Zs;clear IN;by_cases hc:1<=v/\v<=BE
   .obtain⟨h1,h2⟩:=hc;have hr:Il BE l=U (v,l'):=by rw[Hu.out];exact Jb ⟨rfl,h1,h2⟩
    have Hr:=D hr;clear hr Hu;go_wp2;go_ret;rw[Hr.out];exact Nu (B1) (S1) M1 pr Gp ((Az.refl _ _).alloc _)
   .have hr:Il BE l=Z:=by rw[Hu.out];exact In (λh=>hc ⟨h.2.1,h.2.2⟩)
    have Hr:=D hr;clear hr Hu;by_cases h1:v<1
    .exact maR
    .have h2:BE<v:=Y
     exact maR
  .have Zs:¬nm.toList=[]:=by
    rw[ByteArray.toList_eq];intro h;apply IN;have:=JM List.length h;exact(Br nm).symm.trans this
   have hr:Il BE l=Z:=by rw[Hu.out];exact In (λh=>IN h.1)
   have Hr:=D hr;clear hr Hu IN;go_wp2_with fail;refine(EY _ xb r _ Ae (B1.mod ((Az.refl [] w1).alloc _) EQ)).mono ?_;rintro e w5 ⟨⟨fb,rfl,hb⟩,hm⟩;go_wp2;rw[Hr.out];exact⟨rfl,⟨fb,rfl,hb⟩,(M1.alloc _).Aj hm⟩
theorem tV (mb:Nat) (l:Ws) (w:World) (xb:Nat) (r:PV) (wv:Value) (Ae:Int) (ok:Nat->Prop) (h:ig w xb r wv Ae) (hs:Sl w ok wv (Bq l)) (hx:¬ok xb) (hz:∀a,a∈l->a.size<=1000000) (hg:Gl mb w) (aq:xb∉dz mb):
  Calls prog 117 #[iJ xb] w (O2 ((atF l).map λp=>(p.1.val,p.2)) xb r Ae ok w):=by
 have Gp:=Dq h;have h0:=h.mod ((Az.refl [] w).alloc (qG #[qA ⟨#[]⟩,iI 0] 230)) EQ;have s0:=(hs.mono (ok':=λb=>ok b/\b<w.heap.size) (λb hb ho=>⟨ho,hb⟩)).mod ((Az.refl [] w).alloc (qG #[qA ⟨#[]⟩,iI 0] 230)) (λb hb hm=>by cases hm);have Hi:=D (Afr ⟨#[97,116]⟩ l _ xb r wv Ae (λb=>ok b/\b<w.heap.size) h0 s0 (λh=>hx h.1));have Hg:=D hg;have Hz:=D hz;clear h hs h0 s0 hg hz;go_enter func117,ntmps117;go_wp2_with fail;refine Hi.mono ?_;rintro e w1 ⟨rfl,Ou,h1,s1,m1⟩;have R1:=Ci.mod (Ci.new w _ _) m1 (by simp;omega);have M1:=((Az.refl [xb] w).alloc _).trans m1 (λx hx=> .inl hx);have G1:=D (Hg.mod M1 (λb hb hm=>by rw[GE] at hm;rw[hm] at hb;exact aq hb));have B1:=D h1;have S1:=D s1;have HR1:=D R1;have Nt:=D M1;clear m1 h1 s1 M1 R1 Hi;by_cases ha:∃a q,l=a::q/\bs a=kAt
 .obtain⟨a,q,rfl,ha⟩:=ha;have e1:isF (bs ⟨#[97,116]⟩) (a::q)=(V,q):=AbT ha;have e2:atF (a::q)=ES q:=by show(if _ then _ else _)=_;rw[Jb ha]
  simp only[e1] at S1⊢;have Hw:=D (Kh mb q w1 xb r Ou Ae (λb=>ok b/\b<w.heap.size) B1 S1 (λh=>hx h.1) (λb hb=>Hz.out b (Id _ hb)) G1 aq);have E2:=D e2;clear e1 e2 ha;go_wp2_with fail;refine Hw.mono ?_;intro e w2 he;cases hw:ES q with
  |none=>
   rw[hw] at he;obtain⟨⟨fb,rfl,hb⟩,hm⟩:=he;have Hwn:=D hw;clear hw;go_wp2;rw[E2.out,Hwn.out];exact⟨rfl,⟨fb,rfl,hb⟩,Nt.trans hm (λx hx=> .inl hx)⟩
  |some p=>
   obtain⟨b,l'⟩:=p;rw[hw] at he;obtain⟨rfl,eO,h2,s2,m2⟩:=he;have R2:=HR1.mod m2 (by simp;omega);have rc:=R2.cell;have rf:=R2.free;have rl:=R2.lt;have B2:=D h2;have S2:=D s2;have M2:=D (Nt.trans m2 (λx hx=> .inl hx));have Hwn:=D hw;obtain⟨nm,v⟩:=b;have LC:(⟨nm,v⟩:Wd).val= qD #[qA nm,iI v]:=rfl;simp only[LC];clear h2 s2 m2 hw LC R2;go_wp2_with fail;refine bodyPost_ret (v:= qD #[qA nm,iI v]) (by simp[results,results117,go_sem,rc,rf,rl]) rfl ?_;rw[E2.out,Hwn.out];exact Nu B2 S2 M2 (Jf _) Gp (((Az.refl _ _).setCell (.inl EQ) _).setCell (.inl EQ) _)
 .have e1:isF (bs ⟨#[97,116]⟩) l=(I,l):=by
   cases l with
   |nil=>rfl
   |cons a q=>exact Agh (k:=bs ⟨#[97,116]⟩) (λh=>ha ⟨a,q,rfl,h⟩)
  have e2:atF l=U (.zero,l):=by
   cases l with
   |nil=>rfl
   |cons a q=>show(if _ then _ else _)=_;rw[In (λh=>ha ⟨a,q,rfl,h⟩)]
  simp only[e1] at S1⊢;have E2:=D e2;clear e1 e2 ha;have rc:=HR1.cell;have rf:=HR1.free;have rl:=HR1.lt;go_wp2_with fail;refine bodyPost_ret (v:= qD #[qA ⟨#[]⟩,iI 0]) (by simp[results,results117,go_sem,rc,rf,rl]) rfl ?_;rw[E2.out];exact Nu B1 S1 Nt (Jf _) Gp (((Az.refl _ _).setCell (.inl EQ) _).setCell (.inl EQ) _)
structure Kz where
 bb:Nat
 s:SG
 fn:Fn
 cap:Array Value
 Ao:Bool
 us:List Value
variable {f:Kz} {fs:List Kz}
structure FG where
 xb:Nat
 pb:Nat
 sb:Nat
 lb:Nat
 tb:Nat
 tc:Nat
 tv:List Value
 c:SG
 cs:List Value
 ob:Nat
 oc:Nat
 fr:List Kz
variable {g:FG}
def FV (l:List mH):List (ByteArray×Value):=l.map λs=>(s.name,qD #[iI s.first,iI s.size])
def GB (l:List ByteArray):List (ByteArray×Value):=l.mapIdx λi n=>(n,iI (i:Int))
def Kz.Ay (f:Kz):List Ob:=[.Ao f.bb #[m9 f.s.p (J f.us) f.s.c] 165,.row (m9 f.s.p (J f.us) f.s.c) 208 1 (J f.us) f.us]
def Kz.cells (f:Kz):List Value:=[iJ f.bb,.func f.fn #[] f.cap,qB f.Ao]
def FG.De (g:FG):List Value:=[qE (U ⟨g.tb,J g.tv,Z⟩),.nilFunc,qB I]++g.fr.flatMap Kz.cells
def FG.Ay (g:FG) (x:qH) (wv:Value) (Ae:Int):List Ob:=
 [.Ao g.xb #[wv,iI Ae,iJ g.pb,.map (U g.sb),.map (U g.lb),m9 (U ⟨g.ob,0,Z⟩) (J g.fr+1) g.oc,iI x.Ah] 151,
  .Ao g.pb #[m9 (U ⟨g.tb,0,Z⟩) (J g.tv+1) g.tc,iI x.cells] 146,
  .W2 g.sb (IZ (FV x.Ax)),
  .row (m9 (U ⟨g.tb,0,Z⟩) (J g.tv+1) g.tc) 165 1 (J g.tv+1) (g.tv++[m9 g.c.p (J g.cs) g.c.c]),
  .W2 g.lb (IZ (GB x.AA)),
  .row (m9 (U ⟨g.ob,0,Z⟩) (J g.fr+1) g.oc) 205 3 (J g.fr+1) g.De,
  .row (m9 g.c.p (J g.cs) g.c.c) 208 1 (J g.cs) g.cs]++g.fr.reverse.flatMap Kz.Ay
def FG.Aes (g:FG) (x:qH) (wv:Value) (Ae:Int):List Ob:=
 [.Ao g.xb #[wv,iI Ae,iJ g.pb,.map (U g.sb),.map Z,m9 Z 0 0,iI 0] 151,
  .Ao g.pb #[m9 Z 0 0,iI x.cells] 146,
  .W2 g.sb (IZ (FV x.Ax))]
def SA (F:List (Nat×Obj)):KQ->Fn->Array Value->Prop
 |.atomic,f,c=>f=.func 124/\c= #[]
 |.Es a,f,c=>f=.func 126/\∃b,c= #[iJ b]/\(b,qG #[qB a.AX,iI a.v] 235 (0,0))∈F
 |.loop n,f,c=>f=.func 128/\∃b,c= #[iJ b]/\(b,qG #[iI n] 3 (0,0))∈F
theorem SA.sub {k:KQ} {f:Fn} (h:SA F k f c) (s:∀x,x∈F->x∈E):SA E k f c:=by
 cases k with
 |atomic=>exact h
 |Es a=>obtain⟨h0,b,h1,h2⟩:=h;exact⟨h0,b,h1,s _ h2⟩
 |loop n=>obtain⟨h0,b,h1,h2⟩:=h;exact⟨h0,b,h1,s _ h2⟩
structure yJ (F:List (Nat×Obj)) (f:Kz) (o:Fr):Prop where
 st:D8 F o.body f.us
 Ao:f.Ao=o.kind.Cn
 cl:SA F o.kind f.fn f.cap
def KO (F:List (Nat×Obj)):List Kz->List Fr->Prop
 |[],os=>os=[]
 |f::fs,os=>∃o r,os=o::r/\yJ F f o/\KO F fs r
structure aa (F:List (Nat×Obj)) (g:FG) (x:qH):Prop where
 Uh:∃ts t,x.Aa=ts++[t]/\GZ F ts g.tv/\D8 F t g.cs
 frs:KO F g.fr x.Ad
theorem yJ.sub {o:Fr} (h:yJ F f o) (s:∀x,x∈F->x∈E):yJ E f o:=⟨h.st.sub s,h.Ao,h.cl.sub s⟩
theorem KO.sub (h:KO F fs os) (s:∀x,x∈F->x∈E):KO E fs os:=by
 induction fs generalizing os with
 |nil=>exact h
 |cons f fs ih=>obtain⟨o,r,h1,h2,h3⟩:=h;exact⟨o,r,h1,h2.sub s,ih h3⟩
theorem KO.len (h:KO F fs os):J os=J fs:=by
 induction fs generalizing os with
 |nil=>rw[h];rfl
 |cons f fs ih=>obtain⟨o,r,rfl,_,h3⟩:=h;simp[ih h3]
theorem KO.Ad8 (h:KO F fs os) {f:Kz} {o:Fr} (k:yJ F f o):KO F (fs++[f]) (os++[o]):=by
 induction fs generalizing os with
 |nil=>rw[h];exact⟨o,[],rfl,k,rfl⟩
 |cons f' fs ih=>obtain⟨o',r,rfl,h2,h3⟩:=h;exact⟨o',r++[o],rfl,h2,ih h3⟩
theorem KO.Dv (h:KO F (fs++[f]) os):∃r o,os=r++[o]/\KO F fs r/\yJ F f o:=by
 induction fs generalizing os with
 |nil=>obtain⟨o,r,rfl,h2,h3⟩:=h;rw[h3];exact⟨[],o,rfl,rfl,h2⟩
 |cons f' fs ih=>
  obtain⟨o',r,rfl,h2,h3⟩:=h;obtain⟨r',o,rfl,h4,h5⟩:=ih h3;exact⟨o'::r',o,rfl,⟨o',r',rfl,h2,h4⟩,h5⟩
theorem GZ.sub (h:GZ F ts vs) (s:∀x,x∈F->x∈E):GZ E ts vs:=by
 induction ts generalizing vs with
 |nil=>exact h
 |cons t r ih=>obtain⟨sl,ws,us,h1,h2,h3,h4⟩:=h;exact⟨sl,ws,us,h1,h2.sub s,h3.sub s,ih h4⟩
theorem GZ.Ad8 (h:GZ F ts vs) {t:Bj} {sl:Value} {ws:List Value} (k1:Ew F sl ws) (k2:D8 F t ws):GZ F (ts++[t]) (vs++[sl]):=by
 induction ts generalizing vs with
 |nil=>rw[h];exact⟨sl,ws,[],rfl,k1,k2,rfl⟩
 |cons t' r ih=>obtain⟨sl',ws',us,rfl,h2,h3,h4⟩:=h;exact⟨sl',ws',us++[sl],rfl,h2,h3,ih h4⟩
theorem aa.sub (h:aa F g x) (s:∀y,y∈F->y∈E):aa E g x:=by
 obtain⟨⟨ts,t,h1,h2,h3⟩,h4⟩:=h;exact⟨⟨ts,t,h1,h2.sub s,h3.sub s⟩,h4.sub s⟩
theorem D8.FQ {t u:Bj} {us:List Value} (h:D8 F t vs) (k:D8 F u us):D8 F (t.FQ u) (vs++us):=by
 induction t generalizing vs with
 |nil=>rw[h];exact k
 |set v op a b r ih=>obtain⟨p,q,rfl,h2,h3⟩:=h;exact⟨p,q++us,rfl,h2,ih h3⟩
 |get v f s a r ih=>obtain⟨p,q,rfl,h2,h3⟩:=h;exact⟨p,q++us,rfl,h2,ih h3⟩
 |put f s i a r ih=>obtain⟨p,q,rfl,h2,h3⟩:=h;exact⟨p,q++us,rfl,h2,ih h3⟩
 |out a r ih=>obtain⟨p,q,rfl,h2,h3⟩:=h;exact⟨p,q++us,rfl,h2,ih h3⟩
 |atomic b r ib ih=>obtain⟨p,q,sl,ws,rfl,h2,h3,h4,h5⟩:=h;exact⟨p,q++us,sl,ws,rfl,h2,h3,h4,ih h5⟩
 |Es a b r ib ih=>obtain⟨p,q,sl,ws,rfl,h2,h3,h4,h5⟩:=h;exact⟨p,q++us,sl,ws,rfl,h2,h3,h4,ih h5⟩
 |loop n b r ib ih=>obtain⟨p,q,sl,ws,rfl,h2,h3,h4,h5⟩:=h;exact⟨p,q++us,sl,ws,rfl,h2,h3,h4,ih h5⟩
theorem Aq.Aar (h:Aq w L) (hi:L[i]?=U (.W2 b o)) (o':Obj):
  Ai w L {w with heap:=w.heap.setIfInBounds b o'} (L.set i (.W2 b o')):=by
 have hb:=Dq (h.get hi);refine h.swap hi ⟨rfl,rfl,rfl,EQ,λj hj hne=>?_⟩ ?_ (by simp[Ob.fp]) (λ_ hb=> .inl hb)
 .show(w.heap.setIfInBounds b o')[j]?=_;rw[Array.getElem?_setIfInBounds_ne];intro e;exact hne (by simp[Ob.fp,e])
 .show(w.heap.setIfInBounds b o')[b]?=U o';rw[Array.getElem?_setIfInBounds_self];simp[hb]
theorem Tt {e:TypeId} {n:Nat} {xs:List Value} (h:Aq w (A++ .row v e 1 n xs::B)) (K:AY w (A++ .row v e 1 n xs::B) F):
  ∃E,AY w (A++B) (E++F)/\Ew (E++F) v xs:=by
 have hr:w.ownsRow 0 e 1 v n xs:=h.holds _ (Jc _ (Jd ..));have fX:∀b,b∈Et (A++B)->b∈Et (A++ .row v e 1 n xs::B):=λb hb=>by
  rw[Bo,Jp] at hb⊢;rw[GV,Jp];rcases hb with hb|hb
  .exact .inl hb
  .exact .inr (.inr hb)
 have K0:AY w (A++B) F:=⟨K.heap,λb o hb hl=>K.out b o hb (fX b hl)⟩;obtain⟨hl,⟨rfl,h0⟩|⟨g,cap,Ic,rfl,h1,h2,h3,h4,h5,h6⟩⟩:=hr
 .refine⟨[],K0,.inl ⟨?_,Z,0,rfl⟩⟩;exact Jm (by rw[hl,h0])
 .refine⟨[(g,qG Ic e (0,0))],AY.fP K0 ⟨λb o hb=>?_,λb o hb hm=>?_⟩,.inr ⟨g,cap,e,Ic,?_,IR _ (GE.2 rfl),?_⟩⟩
  .rw[GE] at hb;cases hb;exact h2
  .rw[GE] at hb;cases hb;have hn:=h.K7;rw[Bo,GV,Jt,Jt] at hn;obtain⟨_,⟨_,_,n4⟩,n5⟩:=hn;rw[Bo,Jp] at hm;have hg:g∈(Ob.row (m9 (U ⟨g,0,Z⟩) n cap) e 1 n xs).fp:=by simp[Ob.fp,Value.ownBlock]
   rcases hm with hm|hm
   .exact n5 g hm g (IR _ hg) rfl
   .exact n4 g hg g hm rfl
  .rw[hl,jQ]
  .rw[hl];exact h6.symm
structure FF (w:World) (g:FG) (x:qH) (wv:Value) (Ae:Int):Prop where
 c:∀i:Nat,w.cell? ⟨g.xb,i,Z⟩=(#[wv,iI Ae,iJ g.pb,.map (U g.sb),.map (U g.lb),m9 (U ⟨g.ob,0,Z⟩) (J g.fr+1) g.oc,iI x.Ah]:Array Value)[i]?
 f:∀i:Nat,w.frozen? ⟨g.xb,i,Z⟩=I
 lt:g.xb<w.heap.size
 pc:∀i:Nat,w.cell? ⟨g.pb,i,Z⟩=(#[m9 (U ⟨g.tb,0,Z⟩) (J g.tv+1) g.tc,iI x.cells]:Array Value)[i]?
 pf:∀i:Nat,w.frozen? ⟨g.pb,i,Z⟩=I
 plt:g.pb<w.heap.size
 sh:w.heap[g.sb]?=U (IZ (FV x.Ax))
 lo:w.heap[g.lb]?=U (IZ (GB x.AA))
theorem Iv (h:Aq w (g.Ay x wv Ae)):FF w g x wv Ae:=by
 have h0:=h.Ao (i:=0) rfl;have h1:=h.Ao (i:=1) rfl;exact⟨h0.cell,h0.free,h0.lt,h1.cell,h1.free,h1.lt,h.get (i:=2) rfl,h.get (i:=4) rfl⟩
structure FF0 (w:World) (g:FG) (x:qH) (wv:Value) (Ae:Int):Prop where
 c:∀i:Nat,w.cell? ⟨g.xb,i,Z⟩=(#[wv,iI Ae,iJ g.pb,.map (U g.sb),.map Z,m9 Z 0 0,iI 0]:Array Value)[i]?
 f:∀i:Nat,w.frozen? ⟨g.xb,i,Z⟩=I
 lt:g.xb<w.heap.size
 pc:∀i:Nat,w.cell? ⟨g.pb,i,Z⟩=(#[m9 Z 0 0,iI x.cells]:Array Value)[i]?
 pf:∀i:Nat,w.frozen? ⟨g.pb,i,Z⟩=I
 plt:g.pb<w.heap.size
 sh:w.heap[g.sb]?=U (IZ (FV x.Ax))
theorem ZL (h:Aq w (g.Aes x wv Ae)):FF0 w g x wv Ae:=by
 have h0:=h.Ao (i:=0) rfl;have h1:=h.Ao (i:=1) rfl;exact⟨h0.cell,h0.free,h0.lt,h1.cell,h1.free,h1.lt,h.get (i:=2) rfl⟩
theorem ee {b:ByteArray}:bs a=bs b<->a=b:=⟨λh=>O0 h,λh=>by rw[h]⟩
theorem Y6 (n:ByteArray):∀(l:List ByteArray) (k:Nat),((l.mapIdx λi (m:ByteArray)=>(m,Value.int .i64 ((i+k:Nat):Int))).find? λp=>decide (p.1=n)).map (·.2)=if 0<=Ee l n k then U (iI (Ee l n k)) else Z
 |[],k=>rfl
 |a::l,k=>by
  rw[List.mapIdx_cons,UV];unfold Ee;by_cases h:a=n
  .subst h;rw[Jb rfl,Jb Y];simp
  .rw[In (λe=>h (O0 e))];simp only[h,decide_false];rw[<-Y6 n l (k+1)];congr 3;funext i m;rw[show i+1+k=i+(k+1) by omega]
theorem sT (l:List ByteArray) (n:ByteArray):aT (GB l) n=if 0<=Be l n then U (iI (Be l n)) else Z:=Y6 n l 0
theorem sS (l:List mH) (n:ByteArray):aT (FV l) n=(l.find? λs=>decide (bs s.name=bs n)).map λs=> qD #[iI s.first,iI s.size]:=by
 unfold aT FV;induction l with
 |nil=>rfl
 |cons a l ih=>
  rw[Js,UV,UV];simp only[ee];by_cases h:a.name=n
  .simp[h]
  .simp only[h,decide_false];simp only[ee] at ih;exact ih
theorem sW {l:List ByteArray} (h:W.heap[b]?=U (IZ (GB l))) (n:ByteArray):(Instr.lookup 148 (.map (U b)) (qA n) V).run prog W=.ok (qC #[iI (if 0<=Be l n then Be l n else 0),qB (decide (0<=Be l n))]) W:=by
 rw[PN (k:=9) (e:=3) Fd Fd (z:= iI 0) Fd h n V,sT];by_cases hp:0<=Be l n<;>simp[hp]
theorem XV {l:List mH} (h:W.heap[b]?=U (IZ (FV l))) (n:ByteArray):(Instr.lookup 147 (.map (U b)) (qA n) V).run prog W=.ok (qC #[((l.find? λs=>decide (bs s.name=bs n)).map λs=>qD #[iI s.first,iI s.size]).getD (qD #[iI 0,iI 0]),qB (l.find? λs=>decide (bs s.name=bs n)).isSome]) W:=by
 rw[PN (k:=9) (e:=200) Fd Fd (z:= qD #[iI 0,iI 0]) Fd h n V,sS];simp
theorem Zm {s:ByteArray} (h0:¬s.size=0):s.toList.isEmpty=I:=by
 cases h:s.toList with
 |nil=>rw[ByteArray.toList_eq] at h;exact Jk ((Br s).symm.trans (JM List.length h)) h0
 |cons a l=>rfl
theorem AhE {l:List ByteArray} (h:W.heap[b]?=U (IZ (GB l))) (ty:TypeId):(Builtin.len_ #[148] ty #[.map (U b)]).run prog W=.ok (iI (J l)) W:=by
 have hl:(GB l).length=J l:=by simp[GB]
 unfold IZ at h;have hu:prog.underlying 148=U (.map 9 3):=Fd
 simp[Builtin.len_,run_underlying hu,MapKept.run_getObj_map h,goInt,Result.andThen,Y8,hl]
theorem kQ (l:List ByteArray) (n:ByteArray):GB (l++[n])=GB l++[(n,iI (J l:Int))]:=by simp[GB,List.mapIdx_append]
theorem AgQ {l:List ByteArray} (h:W.heap[b]?=U (IZ (GB l))) (n:ByteArray) (hp:¬0<=Be l n):(Instr.mapUpdate 148 (.map (U b)) (qA n) (iI (J l))).run prog W=.ok () {W with heap:=W.heap.setIfInBounds b (IZ (GB (l++[n])))}:=by
 rw[kQ];exact My (k:=9) (e:=3) Fd Fd h n _ (by rw[sT,In hp])
def ae (res:Except Int At) (Ae:Int) (w:World) (e:Ending) (w':World):Prop:=match res with
 |.error c=>I8 [] c Ae w e w'
 |.ok a=>e= qF (qD #[qB a.AX,iI a.v])/\Az [] w w'
theorem LF (a:Wd) (w:World) (g:FG) (x:qH) (wv:Value) (Ae:Int) (h:Aq w (g.Ay x wv Ae)):
  Calls prog 115 #[iJ g.xb,a.val] w (ae (x.Cz a) Ae w):=by
 obtain⟨hc,hf,hlt,_,_,_,_,TO⟩:=Iv h;obtain⟨nm,v⟩:=a;have LC:(⟨nm,v⟩:Wd).val= qD #[qA nm,iI v]:=rfl;rw[LC];clear LC h;by_cases h0:nm.size=0
 .have hr:x.Cz ⟨nm,v⟩=.ok ⟨I,v⟩:=by unfold qH.Cz;exact Jb h0
  have Zs:=ByteArray.ext (jC h0);have Hr:=D hr;subst Zs;clear hr h0;go_enter func115,ntmps115;go_wp2_with fail;refine bodyPost_ret (v:= qD #[qB I,iI v]) (by simp[results,results115,go_sem]) rfl ?_;rw[Hr.out];exact⟨rfl,((Az.refl _ _).alloc _).alloc _⟩
 .have Zs:=Zm h0;have Gq:∀W,W.heap[g.lb]?=U (IZ (GB x.AA))->(Instr.lookup 148 (.map (U g.lb)) (qA nm) V).run prog W=.ok (qC #[iI (if 0<=Be x.AA nm then Be x.AA nm else 0),qB (decide (0<=Be x.AA nm))]) W:=λW h=>sW h nm
  have AG:x.Cz ⟨nm,v⟩=if 0<=Be x.AA nm then .ok ⟨V,Be x.AA nm⟩ else .error 4:=by unfold qH.Cz;exact In h0
  have Hres:=D AG;clear AG h0;by_cases hp:0<=Be x.AA nm
  .have Hr:=D (show x.Cz ⟨nm,v⟩=.ok ⟨V,Be x.AA nm⟩ by rw[Hres.out,Jb hp]);rw[Jb hp,J3 hp] at Gq;clear hp Hres;obtain⟨k,hk⟩:∃k,k=Be x.AA nm:=⟨_,rfl⟩;rw[<-hk] at Gq Hr;clear hk;go_enter func115,ntmps115;go_upto_region 3 with fail
   refine AF [] 11 (λW=>W.cell? ⟨g.xb,4,Z⟩=U (.map (U g.lb))/\W.heap[g.lb]?=U (IZ (GB x.AA))/\W.cell? ⟨w.heap.size,0,Z⟩=U (qA nm)) ?_ ?_
   .exact mbD
   repeat
    refine I9 (v:= ?_) rfl rfl rfl (λW hW=>?_) ?_;rotate_left
    .obtain⟨s1,s2,s3⟩:=hW;have hl:=Gq W s2;go_simp;rfl
    simp only[FH]
   refine AI rfl (λK hK=>?_);go_simp;refine hK _ _ (λh=>Jk rfl h) ?_;clear hK;simp only[BN];go_wp2_with fail;refine bodyPost_ret (v:= qD #[qB V,iI k]) (by simp[results,results115,go_sem]) rfl ?_;rw[Hr.out];exact⟨rfl,(((Az.refl _ _).alloc _).alloc _).drew⟩
  .have Hr:=D (show x.Cz ⟨nm,v⟩=.error 4 by rw[Hres.out,In hp]);rw[In hp,JJ hp] at Gq;clear hp Hres;go_enter func115,ntmps115;go_upto_region 3 with fail
   refine AF [] 11 (λW=>W.cell? ⟨g.xb,4,Z⟩=U (.map (U g.lb))/\W.heap[g.lb]?=U (IZ (GB x.AA))/\W.cell? ⟨w.heap.size,0,Z⟩=U (qA nm)) ?_ ?_
   .exact mbD
   repeat
    refine I9 (v:= ?_) rfl rfl rfl (λW hW=>?_) ?_;rotate_left
    .obtain⟨s1,s2,s3⟩:=hW;have hl:=Gq W s2;go_simp;rfl
    simp only[FH]
   refine AI rfl (λK hK=>?_);go_simp;refine hK _ _ (λh=>Jk rfl h) ?_;clear hK;simp only[BN];go_wp2_with fail;refine(AP _ _ _).mono ?_;rintro e w1 ⟨⟨fb,rfl,hb⟩,hm⟩;go_wp2;rw[Hr.out];exact⟨rfl,⟨fb,rfl,hb⟩,((((Az.refl _ _).alloc _).alloc _).drew).Aj hm⟩
def rW (res:Except Int (Int×Int×At)) (Ae:Int) (w:World) (e:Ending) (w':World):Prop:=match res with
 |.error c=>I8 [] c Ae w e w'
 |.ok (f,z,a)=>e= qF (qD #[iI f,iI z,qB a.AX,iI a.v])/\Az [] w w'
theorem Kk (w:World) (o:Obj):(w.alloc o).heap.size=w.heap.size+1:=QO _
theorem lD {q:Obj} (h:w.heap[b]?=U o):((w.alloc p).alloc q).heap[b]?=U o:=(((Az.refl [] w).alloc p).alloc q).heap h EQ
theorem Ru (h:w.heap[b]?=U o):(w.alloc p).heap[b]?=U o:=((Az.refl [] w).alloc p).heap h EQ
theorem dI (n:ByteArray) (a:Wd) (w:World) (g:FG) (x:qH) (wv:Value) (Ae:Int) (h:Aq w (g.Ay x wv Ae)):
  Calls prog 119 #[iJ g.xb,qA n,a.val] w (rW (x.cell n a) Ae w):=by
 obtain⟨hc,hf,hlt,_,_,_,GU,TO⟩:=Iv h;have H:=D h;have Gq:=XV (lD (p:= qG #[qA a.name,iI a.v] 230) (q:= qG #[iI 0,iI 0,qB I,iI 0] 241) GU) n;have LC:a.val= qD #[qA a.name,iI a.v]:=rfl;have AG:x.cell n a=match x.Ax.find? (λs=>decide (bs s.name=bs n)) with
  |none=> .error 4
  |some s=>match x.Cz a with
   |.error c=> .error c
   |.ok a=> .ok (s.first,s.size,a):=rfl
 have Hres:=D AG;have Ha:=D (λW (hm:Az [] w W)=>LF a W g x wv Ae (h.mod hm EQ));rw[LC] at Ha⊢;have pF:g.xb<w.heap.size+1:=Y
 have Ah5:g.xb<w.heap.size+1+1:=Y
 clear LC AG h GU TO;cases We:x.Ax.find? (λs=>decide (bs s.name=bs n)) with
 |none=>
  rw[We] at Gq Hres;have Hr:=D (show x.cell n a=.error 4 from Hres.out);simp only[jG,QW,Qt] at Gq;clear We Hres;go_enter func119,ntmps119;go_wp2_with fail;refine(AP _ _ _).mono ?_;rintro e w1 ⟨⟨fb,rfl,hb⟩,hm⟩;go_wp2;rw[Hr.out];exact⟨rfl,⟨fb,rfl,hb⟩,((((Az.refl _ _).alloc _).alloc _).alloc _).Aj hm⟩
 |some s=>
  rw[We] at Gq Hres;have Hr:=D (show x.cell n a=match x.Cz a with|.error c=> .error c|.ok a=> .ok (s.first,s.size,a) from Hres.out);simp only[jF,Qr,QK] at Gq;clear We Hres;go_enter func119,ntmps119;go_upto_region 4 with fail
  refine AF [6] 8 (λW=>W.cell? ⟨w.heap.size,0,Z⟩=U (qA a.name)/\W.cell? ⟨w.heap.size,1,Z⟩=U (iI a.v)/\W.cell? ⟨w.heap.size+1+1,0,Z⟩=U (iI s.first)/\W.cell? ⟨w.heap.size+1+1,1,Z⟩=U (iI s.size)) ?_ ?_
  .exact⟨by go_simp,by go_simp,by go_simp,by go_simp⟩
  refine Ds ?_;intro K hK;have Zt:=D (((((Az.refl [] w).alloc (qG #[qA a.name,iI a.v] 230)).alloc (qG #[iI 0,iI 0,qB I,iI 0] 241)).alloc (qG #[iI s.first,iI s.size] 200)).drew);refine(Ha _ Zt).mono ?_;intro e w1 he;unfold ae at he;cases ha:x.Cz a with
  |error c=>
   rw[ha] at he;obtain⟨⟨fb,rfl,hb⟩,hm⟩:=he;have IA:=D (show x.cell n a=.error c by rw[Hr.out,ha]);clear ha;rw[IA.out];exact⟨rfl,⟨fb,rfl,hb⟩,Zt.Aj hm⟩
  |ok b=>
   rw[ha] at he;obtain⟨rfl,hm⟩:=he;have IA:=D (show x.cell n a=.ok (s.first,s.size,b) by rw[Hr.out,ha]);have B1:=((((Ci.new w _ _).alloc _).alloc _).drew).mod hm EQ;have B2:Ci w1 (w.heap.size+1) #[iI 0,iI 0,qB I,iI 0] 241:=by
    have:=Ci.new (w.alloc (qG #[qA a.name,iI a.v] 230)) #[iI 0,iI 0,qB I,iI 0] 241;rw[show(w.alloc (qG #[qA a.name,iI a.v] 230)).heap.size=w.heap.size+1 from QO _] at this;exact((this.alloc _).drew).mod hm EQ
   have B3:Ci w1 (w.heap.size+1+1) #[iI s.first,iI s.size] 200:=by
    have:=Ci.new ((w.alloc (qG #[qA a.name,iI a.v] 230)).alloc (qG #[iI 0,iI 0,qB I,iI 0] 241)) #[iI s.first,iI s.size] 200;rw[show((w.alloc (qG #[qA a.name,iI a.v] 230)).alloc (qG #[iI 0,iI 0,qB I,iI 0] 241)).heap.size=w.heap.size+1+1 by rw[Kk,Kk]] at this;exact this.drew.mod hm EQ
   refine hK _ w1 (λ_=>⟨B1.cell 0,B1.cell 1,B3.cell 0,B3.cell 1⟩) ?_;clear hK ha;have rc:=B2.cell;have rf:=B2.free;have rl:=B2.lt;clear B1 B2 B3;refine Ds ?_;intro K hK;refine hK _ _ (λh=>Jk rfl h) ?_;clear hK;simp only[BN];go_wp2_with fail;refine bodyPost_ret (v:= qD #[iI s.first,iI s.size,qB b.AX,iI b.v]) (by simp[results,results119,go_sem,rc,rf,rl]) rfl ?_;rw[IA.out];exact⟨rfl,(((((Zt.Aj hm).setCell (.inr (JI _)) _).setCell (.inr (JI _)) _).setCell (.inr (JI _)) _).setCell (.inr (JI _)) _)⟩
def rR (res:Except Int (Int×qH)) (g:FG) (x:qH) (wv:Value) (Ae:Int) (w:World) (e:Ending) (w':World):Prop:=match res with
 |.error c=>I8 [] c Ae w e w'
 |.ok (v,y)=>e= qF (iI v)/\Ai w (g.Ay x wv Ae) w' (g.Ay y wv Ae)
theorem ZK (n:ByteArray) (w:World) (g:FG) (x:qH) (wv:Value) (Ae:Int) (h:Aq w (g.Ay x wv Ae)):
  Calls prog 116 #[iJ g.xb,qA n] w (rR (x.Df n) g x wv Ae w):=by
 obtain⟨hc,hf,hlt,_,_,_,GU,TO⟩:=Iv h;have Gq:=XV GU n;have AG:x.Df n=if (x.Ax.find? λs=>decide (bs s.name=bs n)).isSome then .error 4 else if 0<=Be x.AA n then .ok (Be x.AA n,x) else if J x.AA=4 then .error 5 else .ok (J x.AA,{x with AA:=x.AA++[n]}):=rfl
 have H:=D h;have Hres:=D AG;have Hlo:=D TO;clear h AG TO GU;cases We:x.Ax.find? (λs=>decide (bs s.name=bs n)) with
 |some s=>
  rw[We] at Gq Hres;have Hr:=D (show x.Df n=.error 4 from Hres.out);simp only[jF,Qr,QK] at Gq;clear We Hres;exact maU
 |none=>
  rw[We] at Gq Hres;simp only[jG,QW,Qt] at Gq;have hlq:=sW (Ru (p:= qG #[iI 0,iI 0] 200) Hlo) n;by_cases hp:0<=Be x.AA n
  .have Hr:=D (show x.Df n=.ok (Be x.AA n,x) by rw[Hres.out];exact Jb hp);rw[Jb hp,J3 hp] at hlq;clear hp Hres We;go_enter func116,ntmps116;go_wp2;go_ret;rw[Hr.out];exact⟨rfl,Ai.alloc H _⟩
  .rw[In hp,JJ hp] at hlq;have Vh:=AhE (Ru (p:= qG #[iI 0,iI 0] 200) Hlo) 3;by_cases hl4:J x.AA=4
   .have Hr:=D (show x.Df n=.error 5 by rw[Hres.out];exact(In hp).trans (Jb hl4));clear Hres We hp;exact maU
   .have Hr:=D (show x.Df n=.ok (J x.AA,{x with AA:=x.AA++[n]}) by rw[Hres.out];exact(In hp).trans (In hl4));have hup:=AgQ (Ru (p:= qG #[iI 0,iI 0] 200) Hlo) n hp;have AnU:((J x.AA:Int)==4)=I:=by rw[Jh];omega
    clear Hres We hp hl4;go_enter func116,ntmps116;go_wp2_with fail;go_ret;rw[Hr.out];exact⟨rfl,(Ai.alloc H _).trans ((Ai.alloc H _).Ak.Aar (i:=4) rfl _)⟩
def AdC (res:Option Int) (Ae:Int) (w:World) (e:Ending) (w':World):Prop:=match res with
 |some c=>I8 [] c Ae w e w'
 |none=>e= qF (qC #[])/\Az [] w w'
theorem xS (w:World) (g:FG) (x:qH) (wv:Value) (Ae:Int) (h:Aq w (g.Ay x wv Ae)) (hl:J g.fr<=100):
  Calls prog 75 #[iJ g.xb] w (AdC (if 0<J g.fr then U 3 else Z) Ae w):=by
 obtain⟨hc,hf,hlt,_,_,_,GU,TO⟩:=Iv h;clear h;by_cases h0:0<J g.fr
 .have h1:1<(J g.fr:Int)+1:=Y
  rw[Jb h0];clear h0;go_enter func75,ntmps75;go_wp2_with fail;refine(AP _ _ _).mono ?_;rintro e w1 ⟨⟨fb,rfl,hb⟩,hm⟩;go_wp2;exact maZ
 .have h1:¬1<(J g.fr:Int)+1:=Y
  rw[In h0];clear h0;exact mbQ
theorem pV (w:World) (g:FG) (x:qH) (wv:Value) (Ae:Int) (h:Aq w (g.Aes x wv Ae)):
  Calls prog 75 #[iJ g.xb] w (AdC Z Ae w):=by
 obtain⟨hc,hf,hlt,_,_,_,GU⟩:=ZL h;clear h;exact mbQ
theorem oz (g:FG):J g.De=3*(J g.fr+1):=by
 have:∀l:List Kz,(l.flatMap Kz.cells).length=3*J l:=by
  intro l;induction l with
  |nil=>rfl
  |cons f l ih=>rw[JV,GT,ih];simp[Kz.cells];omega
 simp[FG.De,this];omega
theorem AkI (l:List Kz) (j:Nat) (f:Kz) (hj:l[j]?=U f) (i:Nat) (hi:i<3):(l.flatMap Kz.cells)[3*j+i]?=f.cells[i]?:=by
 induction l generalizing j with
 |nil=>simp at hj
 |cons a l ih=>
  cases j with
  |zero=>
   simp only[Pi,Option.some.injEq] at hj;subst hj;rw[JV,J5 (by simp[Kz.cells];omega)];simp
  |succ j=>
   rw[JV,JY (by simp[Kz.cells];omega),show 3*(j+1)+i-J a.cells=3*j+i by simp[Kz.cells];omega];exact ih j (by simpa using hj)
theorem VX (g:FG) (j:Nat) (f:Kz) (hj:g.fr[j]?=U f) (i:Nat) (hi:i<3):g.De[3*(j+1)+i]?=f.cells[i]?:=by
 unfold FG.De;rw[JY (by simp;omega),show 3*(j+1)+i - [qE (U ⟨g.tb,J g.tv,Z⟩),.nilFunc,qB I].length=3*j+i by simp;omega];exact AkI g.fr j f hj i hi
def FG.ZY (g:FG) (k:Nat):Bool:=match k with
 |0=>I
 |k+1=>((g.fr[k]?).map Kz.Ao).getD I
theorem fE (g:FG) (k:Nat) (hk:k<=J g.fr):∃p,g.De[k*3]?=U (qE p)/\(g.De[k*3+1]?=U .nilFunc\/∃f c,g.De[k*3+1]?=U (.func f #[] c))/\g.De[k*3+2]?=U (qB (g.ZY k)):=by
 cases k with
 |zero=>exact⟨_,rfl,.inl rfl,rfl⟩
 |succ j=>
  have hj:g.fr[j]?=U g.fr[j]:=Ja Y;have h:=VX g j _ hj;refine⟨_,(by rw[show(j+1)*3=3*(j+1)+0 by omega,h 0 Y];rfl),.inr ⟨_,_,(by rw[show(j+1)*3+1=3*(j+1)+1 by omega,h 1 Y];rfl)⟩,?_⟩;rw[show(j+1)*3+2=3*(j+1)+2 by omega,h 2 Y];simp[FG.ZY,hj,Kz.cells]
theorem uo (g:FG):(g.fr.any Kz.Ao=V<->∃k,k<=J g.fr/\g.ZY k=V):=by
 rw[QG];constructor
 .rintro⟨f,hf,hb⟩;obtain⟨j,hj,rfl⟩:=List.getElem_of_mem hf;exact⟨j+1,Y,by simp[FG.ZY,hj,hb]⟩
 .rintro⟨k,hk,hb⟩;cases k with
  |zero=>cases hb
  |succ j=>
   have hj:g.fr[j]?=U g.fr[j]:=Ja Y;exact⟨_,JP (by omega:j<J g.fr),by simpa[FG.ZY,hj] using hb⟩
theorem Rz (w:World) (g:FG) (x:qH) (wv:Value) (Ae:Int) (h:Aq w (g.Ay x wv Ae)) (hl:J g.fr<=100):
  Calls prog 129 #[iJ g.xb] w (AiL (g.fr.any Kz.Ao) w):=by
 obtain⟨hc,hf,hlt,_,_,_,GU,TO⟩:=Iv h;obtain⟨tcl,tf,tl⟩:=A4 (h.row (i:=5) rfl);have Ht:=D tcl;clear h GU TO tf tcl;go_enter func129,ntmps129;go_wp2;go_loopw [10] (λi wr=>∃k:Nat,i= iI k/\k<=J g.fr+1/\(∀j,j<k->g.ZY j=I)/\Az [] w wr) (λi _=>J g.fr+1-(intOf i).toNat);case atStart=>exact⟨0,rfl,Jr _,λj hj=>Y,Az.refl _ _⟩
 case round=>
  obtain⟨k,rfl,hk,DT,hm⟩:=hrel;by_cases Kf:(k:Int)<(J g.fr:Int)+1
  .obtain⟨p,e0,e1,e2⟩:=fE g k Y;have cc:∀(i:Nat) (v:Value),g.De[i]?=U v->wr.cell? ⟨g.ob,i,Z⟩=U v:=λi v e=>by
    obtain⟨h1,h2⟩:=Jn.1 e;have:=Ht.out i h1;rw[h2] at this;exact AK hm this
   have c0:=cc _ _ e0;have c2:=cc _ _ e2;have Rr:0<=(k:Int):=Y
   have Hm:=D hm;have PE:=D DT;rcases e1 with e1|⟨fn,cap,e1⟩;all_goals (
     have c1:=cc _ _ e1;clear hm DT cc e0 e1 e2 hc;cases hb:g.ZY k with
     |true=>
       rw[hb] at c2;have Hr:=D ((uo g).2 ⟨k,Y,hb⟩);clear hb;go_wp2;go_ret;rw[Hr.out];exact⟨rfl,Hm.alloc _⟩
     |false=>
       rw[hb] at c2;have Hb:=D hb;clear hb;go_wp2;go_roundw;case rel=>exact⟨k+1,rfl,Y,λj hj=>by rcases Nat.lt_succ_iff_lt_or_eq.1 hj with h1|h1;exact PE.out j h1;exact h1▸Hb.out,Hm.alloc _⟩
       case measure=>simp[intOf];omega)
  .have Hr:=D (show g.fr.any Kz.Ao=I by
      cases ha:g.fr.any Kz.Ao with
      |false=>rfl
      |true=>obtain⟨j,h1,h2⟩:=(uo g).1 ha;rw[DT j Y] at h2;cases h2)
   have Hm:=D hm;clear hm DT hc;go_wp2;go_ret;rw[Hr.out];exact⟨rfl,Hm⟩
theorem xd:(prog.info? 208).map (λi=>(i.zero,i.size,i.bytes))=U (U .nilIface,1,16):=Fd
theorem dJ (T:TypeId) (u:Value) (w:World) (L:List Ob) (xb ob n oc ab ao m sc k:Nat) (sp:Option Addr) (xs:List Value) (h:Aq w L) (c5:w.cell? ⟨xb,5,Z⟩=U (m9 (U ⟨ob,0,Z⟩) (n+1) oc)) (hn:n<=100)
  (tz:w.cell? ⟨ob,n*3,Z⟩=U (qE (U ⟨ab,ao,Z⟩))) (hk:L[k]?=U (.row (m9 sp m sc) 208 1 m xs)) (hm:m<=1000) (hp:w.cell? ⟨ab,ao,Z⟩=U (m9 sp m sc))
  (Ta:∀g9 KZ w9,Ai w L w9 (L.set k (.row (m9 (U ⟨g9,0,Z⟩) (m+1) KZ) 208 1 (m+1) (xs++[.iface T u])))->w9.cell? ⟨ab,ao,Z⟩=U (m9 sp m sc)/\w9.frozen? ⟨ab,ao,Z⟩=I/\ab<w9.heap.size):
  Calls prog 100 #[iJ xb,.iface T u] w (λe w'=>e= qF (qC #[])/\∃g9 KZ w9,Ai w L w9 (L.set k (.row (m9 (U ⟨g9,0,Z⟩) (m+1) KZ) 208 1 (m+1) (xs++[.iface T u])))/\w'=w9.setCell ⟨ab,ao,Z⟩ (m9 (U ⟨g9,0,Z⟩) (m+1) KZ)):=by
 obtain⟨j0,hj,Lc,Lb,Mm⟩:=info_parts xd;have H:=D h;have Hk:=D hk;have Alg:=D Ta;have IN:0<=(n:Int):=Y
 have TN:n<(n:Int)+1:=Y
 have Fu:True->IntKind.i64.wrap n=n:=λ_=>IntWalk.i64_in _ Y
 clear h hk Ta;go_enter func100,ntmps100;go_upto_region 0 with fail
 refine AF [] 13 (λW=>W.cell? ⟨xb,5,Z⟩=U (m9 (U ⟨ob,0,Z⟩) (n+1) oc)/\W.cell? ⟨ob,n*3,Z⟩=U (qE (U ⟨ab,ao,Z⟩))) ⟨c5,tz⟩ ?_;refine Ds ?_;intro K hK;refine hK _ _ (λh=>Jk rfl h) ?_;clear hK;simp only[BN];have S:=D (Ai.drew H);have hlen:m+1<=maxLen:=by unfold maxLen;omega
 have Aij:(m+1)*16<=140737488355328:=Y
 clear Fu;go_wp2_with (first|(at_builtin;refine Bm 16 _ _ _ j0 _ #[.iface T u] _ S.Ak Hk Eq Eq underlying165 hj Lc Lb Mm rfl j6 Eq Eq rfl (by simp[Value.oneCell']) hlen Aij ?_;intro g6 AL w6 Aw _;obtain⟨q1,q2,q3⟩:=Alg.out g6 AL w6 (S.trans Aw);have uD:=D (S.trans Aw);clear Aw)|fail)
 go_end0
 exact⟨rfl,g6,AL,w6,uD,rfl⟩
structure np (g:FG):Prop where
 cs:J g.cs<=1000
 us:∀f,f∈g.fr->J f.us<=1000
 fr:J g.fr<=100
def ux (y:qH) (F:List (Nat×Obj)) (g:FG) (x:qH) (wv:Value) (Ae:Int) (w:World) (e:Ending) (w':World):Prop:=
 e= qF (qC #[])/\∃g',g'.xb=g.xb/\Ai w (g.Ay x wv Ae) w' (g'.Ay y wv Ae)/\aa F g' y
def FG.NF (g:FG) (x:qH) (wv:Value) (Ae:Int):List Ob:=
 [.Ao g.xb #[wv,iI Ae,iJ g.pb,.map (U g.sb),.map (U g.lb),m9 (U ⟨g.ob,0,Z⟩) (J g.fr+1) g.oc,iI x.Ah] 151,
  .Ao g.pb #[m9 (U ⟨g.tb,0,Z⟩) (J g.tv+1) g.tc,iI x.cells] 146,
  .W2 g.sb (IZ (FV x.Ax)),
  .row (m9 (U ⟨g.tb,0,Z⟩) (J g.tv+1) g.tc) 165 1 (J g.tv+1) (g.tv++[m9 g.c.p (J g.cs) g.c.c]),
  .W2 g.lb (IZ (GB x.AA)),
  .row (m9 (U ⟨g.ob,0,Z⟩) (J g.fr+1) g.oc) 205 3 (J g.fr+1) g.De,
  .row (m9 g.c.p (J g.cs) g.c.c) 208 1 (J g.cs) g.cs]
theorem NN (g:FG) (x:qH) (wv:Value) (Ae:Int) {fs:List Kz} {f:Kz} (h:g.fr=fs++[f]):g.Ay x wv Ae=g.NF x wv Ae++(.Ao f.bb #[m9 f.s.p (J f.us) f.s.c] 165:: .row (m9 f.s.p (J f.us) f.s.c) 208 1 (J f.us) f.us::fs.reverse.flatMap Kz.Ay):=by
 show g.NF x wv Ae++g.fr.reverse.flatMap Kz.Ay=_;rw[h,List.reverse_append];rfl
theorem OL (g:FG) (x:qH) (wv:Value) (Ae:Int) (h:g.fr=[]):g.Ay x wv Ae=g.NF x wv Ae:=by
 show g.NF x wv Ae++g.fr.reverse.flatMap Kz.Ay=_;rw[h];simp
theorem Aaq (l:List Value) (a b:Value):(l++[a]).set (J l) b=l++[b]:=by
 rw[Qd _ _ (Jf _)];simp
theorem RB (s:Bj->Bj) (T:TypeId) (u:Value) (w:World) (g:FG) (x:qH) (wv:Value) (Ae:Int) (F:List (Nat×Obj)) (h:Aq w (g.Ay x wv Ae)) (hF:aa F g x) (hs:D8 F (s .nil) [.iface T u]) (hb:np g):
  Calls prog 100 #[iJ g.xb,.iface T u] w (ux (x.add s) F g x wv Ae w):=by
 have hc:=(Iv h).c 5;obtain⟨tcl,_,_⟩:=A4 (h.row (i:=5) rfl);obtain⟨⟨ts,t,TM,SZ,ht⟩,Xt⟩:=hF;rcases Jv g.fr with OP|⟨fs,f,OP⟩
 .have ho:x.Ad=[]:=by rw[OP] at Xt;exact Xt
  have e0:g.De[J g.fr*3]?=U (qE (U ⟨g.tb,J g.tv,Z⟩)):=by rw[OP];rfl
  obtain⟨e1,e2⟩:=Jn.1 e0;have tz:=tcl _ e1;rw[e2] at tz;obtain⟨tcl3,_,_⟩:=A4 (h.row (i:=3) rfl);have hp:=tcl3 (J g.tv) EQ;rw[show(g.tv++[m9 g.c.p (J g.cs) g.c.c])[J g.tv]' EQ= m9 g.c.p (J g.cs) g.c.c by simp] at hp;refine(dJ T u w _ g.xb g.ob (J g.fr) g.oc g.tb (J g.tv) (J g.cs) g.c.c 6 g.c.p g.cs h hc hb.fr tz rfl hb.cs hp ?_).mono ?_
  .intro g9 KZ w9 Aw;obtain⟨c3,f3,l3⟩:=A4 (Aw.Ak.row (i:=3) rfl);have:=c3 (J g.tv) EQ;rw[show(g.tv++[m9 g.c.p (J g.cs) g.c.c])[J g.tv]' EQ= m9 g.c.p (J g.cs) g.c.c by simp] at this;exact⟨this,f3 _,l3⟩
  .rintro e w' ⟨rfl,g9,KZ,w9,Aw,rfl⟩;have xA:x.add s={x with Aa:=ts++[t.FQ (s .nil)]}:=by unfold qH.add;rw[ho,TM];simp
   have t1:=Aw.Ak.ET (i:=3) rfl (J g.tv) EQ (m9 (U ⟨g9,0,Z⟩) (J g.cs+1) KZ);rw[xA];refine⟨rfl,{g with c:=⟨U ⟨g9,0,Z⟩,KZ⟩,cs:=g.cs++[.iface T u]},rfl,?_,⟨⟨ts,_,rfl,SZ,ht.FQ hs⟩,Xt⟩⟩;have t2:=Aw.trans t1;rw[Aaq] at t2;rw[OL g x wv Ae OP] at t2⊢;rw[OL {g with c:=⟨U ⟨g9,0,Z⟩,KZ⟩,cs:=g.cs++[.iface T u]} _ wv Ae OP];have el:(g.cs++[Value.iface T u]).length=J g.cs+1:=EQ
   unfold FG.NF at t2⊢;simp only[el];exact t2
 .rw[Jy] at OP;rw[OP] at Xt;obtain⟨r,o,IV,hr,hfo⟩:=Xt.Dv;have hj:g.fr[J fs]?=U f:=by rw[OP];simp
  have hnl:J g.fr=J fs+1:=by rw[OP];simp
  have e0:g.De[J g.fr*3]?=U (iJ f.bb):=by
   rw[show J g.fr*3=3*(J fs+1)+0 by omega,VX g (J fs) f hj 0 Y];rfl
  obtain⟨e1,e2⟩:=Jn.1 e0;have tz:=tcl _ e1;rw[e2] at tz;have h':=h;rw[NN g x wv Ae OP] at h';have hp:=(h'.Ao (i:=7) rfl).cell 0;refine(dJ T u w _ g.xb g.ob (J g.fr) g.oc f.bb 0 (J f.us) f.s.c 8 f.s.p f.us h' hc hb.fr tz rfl (hb.us f (by rw[OP];simp)) hp ?_).mono ?_
  .intro g9 KZ w9 Aw;have hq:=Aw.Ak.Ao (i:=7) rfl;exact⟨hq.cell 0,hq.free 0,hq.lt⟩
  .rintro e w' ⟨rfl,g9,KZ,w9,Aw,rfl⟩;have xA:x.add s={x with Ad:=r++[{o with body:=o.body.FQ (s .nil)}]}:=by unfold qH.add;rw[IV];simp
   have t1:=Aw.Ak.set (i:=7) rfl 0 (m9 (U ⟨g9,0,Z⟩) (J f.us+1) KZ);rw[xA];refine⟨rfl,{g with fr:=fs++[{f with s:=⟨U ⟨g9,0,Z⟩,KZ⟩,us:=f.us++[.iface T u]}]},rfl,?_,⟨⟨ts,t,TM,SZ,ht⟩,hr.Ad8 ⟨hfo.st.FQ hs,hfo.Ao,hfo.cl⟩⟩⟩;have t2:=Aw.trans t1;have el:(f.us++[Value.iface T u]).length=J f.us+1:=EQ
   have eo:FG.De {g with fr:=fs++[{f with s:=⟨U ⟨g9,0,Z⟩,KZ⟩,us:=f.us++[.iface T u]}]}=g.De:=by
    unfold FG.De;rw[OP,J9,J9];rfl
   have en:(fs++[({f with s:=⟨U ⟨g9,0,Z⟩,KZ⟩,us:=f.us++[.iface T u]}:Kz)]).length=J g.fr:=by rw[OP];simp
   have es:FG.NF {g with fr:=fs++[{f with s:=⟨U ⟨g9,0,Z⟩,KZ⟩,us:=f.us++[.iface T u]}]} {x with Ad:=r++[{o with body:=o.body.FQ (s .nil)}]} wv Ae=g.NF x wv Ae:=by
    unfold FG.NF;simp only[eo,en]
   rw[NN {g with fr:=fs++[{f with s:=⟨U ⟨g9,0,Z⟩,KZ⟩,us:=f.us++[.iface T u]}]} _ wv Ae rfl,es];simp only[el];rw[NN g x wv Ae OP];exact t2
theorem Aq.H9 (h:Aq w (A++B)) (e:TypeId) (s:Nat):Aq w (A++ .row (m9 Z 0 0) e s 0 []::B):=by
 refine⟨λo ho=>?_,?_⟩
 .rcases Jp.1 ho with h1|h1
  .exact h.holds o (IR _ h1)
  .rcases Jl.1 h1 with rfl|h2
   .exact ownsRow_nil _ _ _ _
   .exact h.holds o (Jc _ h2)
 .have:=h.K7;rw[Bo] at this⊢;exact this
theorem Ai.H9 (h:Aq w (A++B)) (e:TypeId) (s:Nat):Ai w (A++B) w (A++ .row (m9 Z 0 0) e s 0 []::B):=
 ⟨h.H9 e s,Az.refl _ _,λb hb=> .inl (by rw[Bo] at hb⊢;exact hb)⟩
theorem vL {S R:List Ob} (h:Ai w L w' ((S++R)++[.Ao b #[m9 Z 0 0] 165])):Ai w L w' (S++(.Ao b #[m9 Z 0 0] 165:: .row (m9 Z 0 0) 208 1 0 []::R)):=by
 have p:((S++R)++[Ob.Ao b #[m9 Z 0 0] 165]).Perm ((S++[Ob.Ao b #[m9 Z 0 0] 165])++R):=by
  rw[Ji,Ji];exact Qn S J4
 have t3:=h.trans (Ai.VU h.Ak p);have t4:=t3.trans (Ai.H9 t3.Ak 208 1);rw[Ji] at t4;exact t4
theorem xg:(prog.info? 205).map (λi=>(i.zero,i.size,i.bytes))=U (U (qD #[qE Z,.nilFunc,qB I]),3,24):=Fd
theorem ku (g:FG) (f:Kz) (ob oc:Nat):FG.De {g with ob:=ob,oc:=oc,fr:=g.fr++[f]}=g.De++f.cells:=by
 unfold FG.De;simp
theorem TY (kd:KQ) (fn:Fn) (cap:Array Value) (w:World) (g:FG) (x:qH) (wv:Value) (Ae:Int) (F:List (Nat×Obj)) (h:Aq w (g.Ay x wv Ae)) (hF:aa F g x) (hc:SA F kd fn cap) (hb:np g):
  Calls prog 123 #[iJ g.xb,qB kd.Cn,.func fn #[] cap] w (ux (x.DU kd) F g x wv Ae w):=by
 obtain⟨j0,hj,Lc,Lb,Mm⟩:=info_parts xg;have hcx:=(Iv h).c 5;have hn:=hb.fr;have S:=D (Ai.new h (qG #[m9 Z 0 0] 165));have HF:=D hF;have Hc:=D hc;have hlen:J g.fr+1+1<=maxLen:=by unfold maxLen;omega
 have Aij:(J g.fr+1+1)*24<=140737488355328:=Y
 obtain⟨bk,Xx⟩:∃b,b=kd.Cn:=⟨_,rfl⟩;rw[<-Xx];have Hbk:=D Xx;clear h hF hc hb hn Xx;go_enter func123,ntmps123;go_wp2_with (first|(at_builtin;refine Ke 24 _ _ _ j0 _ #[iJ w.heap.size,.func fn #[] cap,qB bk] _ (w.heap.size+1) (Kk _ _) S.Ak (k:=5) rfl Eq Eq underlying149 hj Lc Lb Mm rfl Do Eq Eq rfl (by simp[Value.oneCell']) hlen Aij ?_;intro g6 AL w6 Aw _;have q1:=(Aw.Ak.Ao (i:=0) rfl).cell;have q2:=(Aw.Ak.Ao (i:=0) rfl).free;have q3:=(Aw.Ak.Ao (i:=0) rfl).lt;have uD:=D (S.trans Aw);clear Aw)|fail)
 go_end0
 refine⟨rfl,{g with ob:=g6,oc:=AL,fr:=g.fr++[⟨w.heap.size,⟨Z,0⟩,fn,cap,bk,[]⟩]},rfl,?_,?_⟩
 .have t1:=uD.trans (uD.Ak.set (i:=0) rfl 5 (m9 (U ⟨g6,0,Z⟩) (J g.fr+1+1) AL));rw[NN {g with ob:=g6,oc:=AL,fr:=g.fr++[⟨w.heap.size,⟨Z,0⟩,fn,cap,bk,[]⟩]} _ wv Ae rfl];have es:FG.NF {g with ob:=g6,oc:=AL,fr:=g.fr++[⟨w.heap.size,⟨Z,0⟩,fn,cap,bk,[]⟩]} (x.DU kd) wv Ae=((g.NF x wv Ae).set 5 (.row (m9 (U ⟨g6,0,Z⟩) (J g.fr+1+1) AL) 205 3 (J g.fr+1+1) (g.De++(#[iJ w.heap.size,.func fn #[] cap,qB bk]).toList))).set 0 (.Ao g.xb #[wv,iI Ae,iJ g.pb,.map (U g.sb),.map (U g.lb),m9 (U ⟨g6,0,Z⟩) (J g.fr+1+1) AL,iI x.Ah] 151):=by
   have en:(g.fr++[(⟨w.heap.size,⟨Z,0⟩,fn,cap,bk,[]⟩:Kz)]).length=J g.fr+1:=EQ
   unfold FG.NF;rw[ku];simp only[en];rfl
  rw[es];have t2:Ai w (g.Ay x wv Ae) _ (((((g.NF x wv Ae).set 5 (.row (m9 (U ⟨g6,0,Z⟩) (J g.fr+1+1) AL) 205 3 (J g.fr+1+1) (g.De++(#[iJ w.heap.size,.func fn #[] cap,qB bk]).toList))).set 0 (.Ao g.xb #[wv,iI Ae,iJ g.pb,.map (U g.sb),.map (U g.lb),m9 (U ⟨g6,0,Z⟩) (J g.fr+1+1) AL,iI x.Ah] 151))++g.fr.reverse.flatMap Kz.Ay)++[.Ao w.heap.size #[m9 Z 0 0] 165]):=t1;exact vL t2
 .obtain⟨h1,h2⟩:=HF.out;exact⟨h1,h2.Ad8 ⟨rfl,Hbk,Hc⟩⟩
structure SR (F:List (Nat×Obj)) (g:FG) (x:qH) (wv:Value) (Ae:Int) (w:World):Prop where
 Ak:Aq w (g.Ay x wv Ae)
 AJ:AY w (g.Ay x wv Ae) F
 D1:aa F g x
theorem SR.quiet (h:SR F g x wv Ae w) (k:Az [] w w'):SR F g x wv Ae w':=⟨h.Ak.quiet k,h.AJ.quiet k,h.D1⟩
theorem SR.new (h:SR F g x wv Ae w) (o:Obj):SR ((w.heap.size,o)::F) g x wv Ae (w.alloc o):=
 ⟨(Ai.alloc h.Ak o).Ak,h.AJ.new h.Ak o,h.D1.sub λ_ hb=>Id _ hb⟩
def gL (F F':List (Nat×Obj)):Prop:=∀y,y∈F->y∈F'
def RU (res:Except Int qH) (F:List (Nat×Obj)) (g:FG) (x:qH) (wv:Value) (Ae:Int) (w:World) (e:Ending) (w':World):Prop:=match res with
 |.error c=>I8 [] c Ae w e w'
 |.ok y=>e= qF (qC #[])/\∃g' F',g'.xb=g.xb/\gL F F'/\Ai w (g.Ay x wv Ae) w' (g'.Ay y wv Ae)/\SR F' g' y wv Ae w'
theorem RA (h:ux y F g x wv Ae w e w') (S:SR F g x wv Ae w) (hm:Az [] w0 w) (h0:Aq w0 (g.Ay x wv Ae)) (hF:gL F0 F):RU (.ok y) F0 g x wv Ae w0 e w':=by
 obtain⟨rfl,g',hx,st,hf⟩:=h;exact⟨rfl,g',F,hx,hF,(Ai.quiet h0 hm).trans st,⟨st.Ak,S.AJ.step st,hf⟩⟩
theorem AcK (a:Wd) (w:World) (g:FG) (x:qH) (wv:Value) (Ae:Int) (F:List (Nat×Obj)) (h:SR F g x wv Ae w) (hb:np g) (bx ba:Nat)
  (hx:(bx,qG #[iJ g.xb] 143 (0,0))∈F) (ha:(ba,qG #[qA a.name,iI a.v] 230 (0,0))∈F):
  Calls prog 121 #[iJ bx,iJ ba] w (RU (x.finish (.out a)) F g x wv Ae w):=by
 have cx:=h.AJ.cell hx 0;have ca0:=h.AJ.cell ha 0;have ca1:=h.AJ.cell ha 1;have H:=D h;have Hb:=D hb;have HX:=D hx;have HA:=D ha;have AG:x.finish (.out a)=match x.Cz a with|.error c=> .error c|.ok a=> .ok (x.add (.out a)):=rfl
 have Hres:=D AG;clear h hb hx ha AG;go_enter func121,ntmps121;go_upto_region 0 with fail
 refine AF [3,5] 7 (λW=>W.cell? ⟨bx,0,Z⟩=U (iJ g.xb)/\W.cell? ⟨ba,0,Z⟩=U (qA a.name)/\W.cell? ⟨ba,1,Z⟩=U (iI a.v)) ⟨cx,ca0,ca1⟩ ?_;refine Ds ?_;intro K hK;have S:=H.quiet (Az.refl [] w).drew;refine(LF a _ g x wv Ae S.Ak).mono ?_;intro e w1 he;unfold ae at he;cases FE:x.Cz a with
 |error c=>
  rw[FE] at he;obtain⟨⟨fb,rfl,hb⟩,hm⟩:=he;rw[Hres.out,FE];exact mbu
 |ok b=>
  rw[FE] at he;obtain⟨rfl,hm⟩:=he;have S1:=S.quiet hm;have Hr:=D (show x.finish (.out a)=.ok (x.add (.out b)) by rw[Hres.out,FE]);clear FE;refine hK _ w1 (λ_=>⟨S1.AJ.cell HX 0,S1.AJ.cell HA 0,S1.AJ.cell HA 1⟩) ?_;clear hK;refine Ds ?_;intro K hK;have S2:=S1.new (qG #[qB b.AX,iI b.v] 251);refine hK _ _ (λ_=>⟨S2.AJ.cell (Id _ HX) 0,S2.AJ.cell (Id _ HA) 0,S2.AJ.cell (Id _ HA) 1⟩) ?_;clear hK;refine Ds ?_;intro K hK;refine(RB (.out b) _ _ _ g x wv Ae _ S2.Ak S2.D1 ⟨_,[],rfl,Jd ..,rfl⟩ Hb).mono ?_;intro e w3 he;have hf:=D (RA he S2 ((((Az.refl [] w).drew).Aj hm).alloc _) H.Ak (λy hy=>Id _ hy));exact maL
theorem AcJ (n:ByteArray) (a i:Wd) (w:World) (g:FG) (x:qH) (wv:Value) (Ae:Int) (F:List (Nat×Obj)) (h:SR F g x wv Ae w) (hb:np g) (bx bn bi ba:Nat)
  (SJ:(bx,qG #[iJ g.xb] 143 (0,0))∈F) (lH:(bn,qG #[qA n] 9 (0,0))∈F) (Mp:(bi,qG #[qA i.name,iI i.v] 230 (0,0))∈F) (Xy:(ba,qG #[qA a.name,iI a.v] 230 (0,0))∈F):
  Calls prog 120 #[iJ bx,iJ bn,iJ bi,iJ ba] w (RU (x.finish (.put n a i)) F g x wv Ae w):=by
 have AG:x.finish (.put n a i)=match x.cell n i with
  |.error c=> .error c
  |.ok (f,z,i)=>match x.Cz a with
   |.error c=> .error c
   |.ok a=> .ok (x.add (.put f z i a)):=rfl
 have H:=D h;have Hb:=D hb;have Hres:=D AG;have HX:=D SJ;have HN:=D lH;have HI:=D Mp;have HA:=D Xy;clear SJ lH Mp Xy;clear h hb AG;go_enter func120,ntmps120;go_upto_region 0 with fail
 have S:=H.quiet (Az.refl [] w).drew;refine Cf (l:=[(0,V),(1,V),(2,V),(3,V),(5,V),(6,V),(4,I),(7,I),(8,V),(9,I),(10,V),(11,I)]) (λW=>W.cell? ⟨bx,0,Z⟩=U (iJ g.xb)/\W.cell? ⟨bn,0,Z⟩=U (qA n)/\W.cell? ⟨bi,0,Z⟩=U (qA i.name)/\W.cell? ⟨bi,1,Z⟩=U (iI i.v)/\W.cell? ⟨ba,0,Z⟩=U (qA a.name)/\W.cell? ⟨ba,1,Z⟩=U (iI a.v)) 11 ⟨S.AJ.cell HX 0,S.AJ.cell HN 0,S.AJ.cell HI 0,S.AJ.cell HI 1,S.AJ.cell HA 0,S.AJ.cell HA 1⟩ ?_;refine Ds ?_;intro K hK;refine(dI n i _ g x wv Ae S.Ak).mono ?_;intro e w1 he;unfold rW at he;cases hc:x.cell n i with
 |error c=>
  rw[hc] at he;obtain⟨⟨fb,rfl,hb⟩,hm⟩:=he;rw[Hres.out,hc];exact mbu
 |ok p=>
  obtain⟨f,z,j⟩:=p;rw[hc] at he;obtain⟨rfl,Dg⟩:=he;have S1:=S.quiet Dg;refine hK _ w1 (λ_=>⟨S1.AJ.cell HX 0,S1.AJ.cell HN 0,S1.AJ.cell HI 0,S1.AJ.cell HI 1,S1.AJ.cell HA 0,S1.AJ.cell HA 1⟩) ?_;clear hK;refine Ds ?_;intro K hK;refine(LF a _ g x wv Ae S1.Ak).mono ?_;intro e w2 he;unfold ae at he;cases FE:x.Cz a with
  |error c=>
   rw[FE] at he;obtain⟨⟨fb,rfl,hb⟩,hm⟩:=he;rw[Hres.out,hc];simp only[];rw[FE];exact⟨rfl,⟨fb,rfl,hb⟩,(((Az.refl [] w).drew).Aj Dg).Aj hm⟩
  |ok b=>
   rw[FE] at he;obtain⟨rfl,FM⟩:=he;have S2:=S1.quiet FM;have Hr:=D (show x.finish (.put n a i)=.ok (x.add (.put f z j b)) by rw[Hres.out,hc];simp only[];rw[FE]);have HM:=D ((((Az.refl [] w).drew).Aj Dg).Aj FM);clear FE hc;refine hK _ w2 (λ_=>⟨S2.AJ.cell HX 0,S2.AJ.cell HN 0,S2.AJ.cell HI 0,S2.AJ.cell HI 1,S2.AJ.cell HA 0,S2.AJ.cell HA 1⟩) ?_;clear hK;refine Ds ?_;intro K hK;have S3:=S2.new (qG #[iI f,iI z,qB j.AX,iI j.v,qB b.AX,iI b.v] 248);refine hK _ _ (λ_=>⟨S3.AJ.cell (Id _ HX) 0,S3.AJ.cell (Id _ HN) 0,S3.AJ.cell (Id _ HI) 0,S3.AJ.cell (Id _ HI) 1,S3.AJ.cell (Id _ HA) 0,S3.AJ.cell (Id _ HA) 1⟩) ?_;clear hK;refine Ds ?_;intro K hK;refine(RB (.put f z j b) _ _ _ g x wv Ae _ S3.Ak S3.D1 ⟨_,[],rfl,Jd ..,rfl⟩ Hb).mono ?_;intro e w3 he;have hf:=D (RA he S3 (HM.alloc _) H.Ak (λy hy=>Id _ hy));exact maL
theorem TE {v:Int} (h:x.Df n=.ok (v,y)):y.Aa=x.Aa/\y.Ad=x.Ad:=by
 exact mbb
theorem aa.cast (h:aa F g x) (e:y.Aa=x.Aa/\y.Ad=x.Ad):aa F g y:=by
 obtain⟨h1,h2⟩:=h;exact⟨by rw[e.1];exact h1,by rw[e.2];exact h2⟩
theorem dH {z:qH} (h:ux z F g y wv Ae w e w') (S:SR F g y wv Ae w) (h0:Ai w0 (g.Ay x wv Ae) w (g.Ay y wv Ae)) (hF:gL F0 F):RU (.ok z) F0 g x wv Ae w0 e w':=by
 obtain⟨rfl,g',hx,st,hf⟩:=h;exact⟨rfl,g',F,hx,hF,h0.trans st,⟨st.Ak,S.AJ.step st,hf⟩⟩
theorem AcR (n s:ByteArray) (i:Wd) (w:World) (g:FG) (x:qH) (wv:Value) (Ae:Int) (F:List (Nat×Obj)) (h:SR F g x wv Ae w) (hb:np g) (bx bs_ bi bn:Nat)
  (SJ:(bx,qG #[iJ g.xb] 143 (0,0))∈F) (AkA:(bs_,qG #[qA s] 9 (0,0))∈F) (Mp:(bi,qG #[qA i.name,iI i.v] 230 (0,0))∈F) (lH:(bn,qG #[qA n] 9 (0,0))∈F):
  Calls prog 118 #[iJ bx,iJ bs_,iJ bi,iJ bn] w (RU (x.finish (.get n s i)) F g x wv Ae w):=by
 have AG:x.finish (.get n s i)=match x.cell s i with
  |.error c=> .error c
  |.ok (f,z,i)=>match x.Df n with
   |.error c=> .error c
   |.ok (v,y)=> .ok (y.add (.get v f z i)):=rfl
 have c1:=h.AJ.cell SJ 0;have c2:=h.AJ.cell AkA 0;have c3:=h.AJ.cell Mp 0;have c4:=h.AJ.cell Mp 1;have H:=D h;have Hb:=D hb;have Hres:=D AG;have HX:=D SJ;have HN:=D lH;clear h hb AG SJ AkA Mp lH;go_enter func118,ntmps118;go_wp2_with fail;refine(dI s i _ g x wv Ae H.Ak).mono ?_;intro e w1 he;clear c1 c2 c3 c4;unfold rW at he;cases hc:x.cell s i with
 |error c=>
  rw[hc] at he;obtain⟨⟨fb,rfl,hb⟩,hm⟩:=he;have Hr:=D (show x.finish (.get n s i)=.error c by rw[Hres.out,hc]);clear hc;go_wp2;rw[Hr.out];exact maZ
 |ok p=>
  obtain⟨f,z,j⟩:=p;rw[hc] at he;obtain⟨rfl,Dg⟩:=he;have Hc:=D hc;have yY:=D Dg;clear hc;have S1:=D ((H.quiet Dg).new (qG #[iI f,iI z,qB j.AX,iI j.v] 241));clear Dg;go_upto_region 1 with fail
  have S:=S1.quiet (Az.refl [] _).drew;refine Cf (l:=[(0,V),(1,V),(2,V),(4,V),(3,I),(5,V),(6,I),(7,V),(8,I)]) (λW=>W.cell? ⟨bx,0,Z⟩=U (iJ g.xb)/\W.cell? ⟨bn,0,Z⟩=U (qA n)/\W.cell? ⟨w1.heap.size,0,Z⟩=U (iI f)/\W.cell? ⟨w1.heap.size,1,Z⟩=U (iI z)/\W.cell? ⟨w1.heap.size,2,Z⟩=U (qB j.AX)/\W.cell? ⟨w1.heap.size,3,Z⟩=U (iI j.v)) 8 ⟨S.AJ.cell (Id _ HX) 0,S.AJ.cell (Id _ HN) 0,S.AJ.cell (Jd ..) 0,S.AJ.cell (Jd ..) 1,S.AJ.cell (Jd ..) 2,S.AJ.cell (Jd ..) 3⟩ ?_;refine Ds ?_;intro K hK;refine(ZK n _ g x wv Ae S.Ak).mono ?_;intro e w2 he;unfold rR at he;cases hl:x.Df n with
  |error c=>
   rw[hl] at he;obtain⟨⟨fb,rfl,hb⟩,hm⟩:=he;have Hr:=D (show x.finish (.get n s i)=.error c by rw[Hres.out,Hc.out];simp only[];rw[hl]);rw[Hr.out];exact⟨rfl,⟨fb,rfl,hb⟩,((yY.alloc _).drew).Aj hm⟩
  |ok p=>
   obtain⟨v,y⟩:=p;rw[hl] at he;obtain⟨rfl,st⟩:=he;have Hr:=D (show x.finish (.get n s i)=.ok (y.add (.get v f z j)) by rw[Hres.out,Hc.out];simp only[];rw[hl]);have S2:SR _ g y wv Ae w2:=⟨st.Ak,S.AJ.step st,S.D1.cast (TE hl)⟩;have Aw:=(Ai.quiet H.Ak ((yY.alloc _).drew)).trans st;clear hl;refine hK _ w2 (λ_=>⟨S2.AJ.cell (Id _ HX) 0,S2.AJ.cell (Id _ HN) 0,S2.AJ.cell (Jd ..) 0,S2.AJ.cell (Jd ..) 1,S2.AJ.cell (Jd ..) 2,S2.AJ.cell (Jd ..) 3⟩) ?_;clear hK;refine Ds ?_;intro K hK;have S3:=S2.new (qG #[iI v,iI f,iI z,qB j.AX,iI j.v] 245);refine hK _ _ (λ_=>⟨S3.AJ.cell (Id _ (Id _ HX)) 0,S3.AJ.cell (Id _ (Id _ HN)) 0,S3.AJ.cell (Id _ (Jd ..)) 0,S3.AJ.cell (Id _ (Jd ..)) 1,S3.AJ.cell (Id _ (Jd ..)) 2,S3.AJ.cell (Id _ (Jd ..)) 3⟩) ?_;clear hK;refine Ds ?_;intro K hK;refine(RB (.get v f z j) _ _ _ g y wv Ae _ S3.Ak S3.D1 ⟨_,[],rfl,Jd ..,rfl⟩ Hb).mono ?_;intro e w3 he;have hf:=D (dH he S3 (Aw.trans (Ai.alloc st.Ak _)) (λy hy=>Id _ (Id _ hy)));exact maL
theorem SR.Ag6 (h:SR ((b,qG c T (0,0))::F) g x wv Ae w) (hf:aa F g x) (hne:∀q,q∈F->q.1≠b) (i:Nat) (v:Value):
  SR ((b,qG (c.setIfInBounds i v) T (0,0))::F) g x wv Ae (w.setCell ⟨b,i,Z⟩ v):=by
 have hb:=h.AJ.out b _ (Jd ..);have hm:Az [b] w (w.setCell ⟨b,i,Z⟩ v):=(Az.refl [b] w).setCell (.inl EQ) v;refine⟨h.Ak.mod hm (λx hx hm=>by rw[GE] at hm;exact hb (hm▸hx)),⟨λb' o hq=>?_,λb' o hq=>?_⟩,hf.sub λ_ hy=>Id _ hy⟩
 .rcases Jl.1 hq with hq|hq
  .cases hq;exact Ci.set (c:=c) (T:=T) (h.AJ.heap _ _ (Jd ..)) i v
  .exact hm.heap (h.AJ.heap _ _ (Id _ hq)) (by rw[GE];exact hne _ hq)
 .rcases Jl.1 hq with hq|hq
  .cases hq;exact hb
  .exact h.AJ.out _ _ (Id _ hq)
theorem SR.Aeb (h:SR ((b,qG c T (0,0))::F) g x wv Ae w) (st:Ai w0 L w (g.Ay x wv Ae)) (hb:w0.heap.size<=b) (i:Nat) (v:Value):
  Ai w0 L (w.setCell ⟨b,i,Z⟩ v) (g.Ay x wv Ae):=by
 have tK:=h.AJ.out b _ (Jd ..);have hm:Az [b] w (w.setCell ⟨b,i,Z⟩ v):=(Az.refl [b] w).setCell (.inl EQ) v;exact⟨st.Ak.mod hm (λx hx hm=>by rw[GE] at hm;exact tK (hm▸hx)),st.mod.trans hm (λx hx=>by rw[GE] at hx;exact .inr (hx▸hb)),st.fp⟩
theorem lL (n op:ByteArray) (a c:Wd) (w:World) (g:FG) (x:qH) (wv:Value) (Ae:Int) (F:List (Nat×Obj)) (h:SR F g x wv Ae w) (hb:np g) (bo bx ba bc bn:Nat)
  (hbo:(bo,qG #[qA op] 9 (0,0))∈F) (SJ:(bx,qG #[iJ g.xb] 143 (0,0))∈F) (Xy:(ba,qG #[qA a.name,iI a.v] 230 (0,0))∈F) (VH:(bc,qG #[qA c.name,iI c.v] 230 (0,0))∈F) (lH:(bn,qG #[qA n] 9 (0,0))∈F):
  Calls prog 114 #[iJ bo,iJ bx,iJ ba,iJ bc,iJ bn] w (RU (x.finish (.set n a op c)) F g x wv Ae w):=by
 have AG:x.finish (.set n a op c)=match x.Cz a with
  |.error c=> .error c
  |.ok a=>match x.Cz c with
   |.error c=> .error c
   |.ok b=>match x.Df n with
    |.error c=> .error c
    |.ok (v,y)=> .ok (y.add (.set v op a b)):=rfl
 have H:=D h;have Hb:=D hb;have Hres:=D AG;have HO:=D hbo;have HX:=D SJ;have HA:=D Xy;have HC:=D VH;have HN:=D lH;clear hbo SJ Xy VH lH;clear h hb AG;go_enter func114,ntmps114;go_upto_region 0 with fail
 have S:=H.quiet (Az.refl [] w).drew;refine Cf (l:=[(0,V),(1,V),(2,V),(4,V),(5,V),(3,I),(6,I),(7,V),(8,I),(9,I)]) (λW=>W.cell? ⟨bo,0,Z⟩=U (qA op)/\W.cell? ⟨bx,0,Z⟩=U (iJ g.xb)/\W.cell? ⟨ba,0,Z⟩=U (qA a.name)/\W.cell? ⟨ba,1,Z⟩=U (iI a.v)/\W.cell? ⟨bc,0,Z⟩=U (qA c.name)/\W.cell? ⟨bc,1,Z⟩=U (iI c.v)/\W.cell? ⟨bn,0,Z⟩=U (qA n)) 9 ⟨S.AJ.cell HO 0,S.AJ.cell HX 0,S.AJ.cell HA 0,S.AJ.cell HA 1,S.AJ.cell HC 0,S.AJ.cell HC 1,S.AJ.cell HN 0⟩ ?_;refine Ds ?_;intro K hK;refine(LF a _ g x wv Ae S.Ak).mono ?_;intro e w1 he;unfold ae at he;cases h1:x.Cz a with
 |error c1=>
  rw[h1] at he;obtain⟨⟨fb,rfl,hb⟩,hm⟩:=he;rw[Hres.out,h1];exact mbu
 |ok p=>
  rw[h1] at he;obtain⟨rfl,Dg⟩:=he;have S1:=S.quiet Dg;refine hK _ w1 (λ_=>⟨S1.AJ.cell HO 0,S1.AJ.cell HX 0,S1.AJ.cell HA 0,S1.AJ.cell HA 1,S1.AJ.cell HC 0,S1.AJ.cell HC 1,S1.AJ.cell HN 0⟩) ?_;clear hK;refine Ds ?_;intro K hK;refine(LF c _ g x wv Ae S1.Ak).mono ?_;intro e w2 he;unfold ae at he;cases h2:x.Cz c with
  |error c1=>
   rw[h2] at he;obtain⟨⟨fb,rfl,hb⟩,hm⟩:=he;rw[Hres.out,h1];simp only[];rw[h2];exact⟨rfl,⟨fb,rfl,hb⟩,(((Az.refl [] w).drew).Aj Dg).Aj hm⟩
  |ok q=>
   rw[h2] at he;obtain⟨rfl,FM⟩:=he;have S2:=S1.quiet FM;have Hr:=D (show x.finish (.set n a op c)=match x.Df n with|.error c=> .error c|.ok (v,y)=> .ok (y.add (.set v op p q)) by rw[Hres.out,h1];simp only[];rw[h2]);have hm:=(((Az.refl [] w).drew).Aj Dg).Aj FM;clear h1 h2;refine hK _ w2 (λ_=>⟨S2.AJ.cell HO 0,S2.AJ.cell HX 0,S2.AJ.cell HA 0,S2.AJ.cell HA 1,S2.AJ.cell HC 0,S2.AJ.cell HC 1,S2.AJ.cell HN 0⟩) ?_;clear hK;refine Ds ?_;intro K hK;have S3:=S2.new (qG #[iI 0,qA op,qB p.AX,iI p.v,qB q.AX,iI q.v] 238);refine hK _ _ (λ_=>⟨S3.AJ.cell (Id _ HO) 0,S3.AJ.cell (Id _ HX) 0,S3.AJ.cell (Id _ HA) 0,S3.AJ.cell (Id _ HA) 1,S3.AJ.cell (Id _ HC) 0,S3.AJ.cell (Id _ HC) 1,S3.AJ.cell (Id _ HN) 0⟩) ?_;clear hK;refine AI rfl (λK hK=>?_);go_simp;refine hK _ _ (λh=>Jk rfl h) ?_;clear hK;simp only[BN];have GL:=D S3;have HM:=D (hm.alloc (qG #[iI 0,qA op,qB p.AX,iI p.v,qB q.AX,iI q.v] 238));have Vg:∀z,z∈F->z.1≠w2.heap.size:=λz hz e=>Jk (S2.AJ.lt (b:=z.1) (o:=z.2) hz) Y
   have aZ:=hm.size;have HNE:=D Vg;have HGE:=D aZ;have cx:=S3.AJ.cell (Id _ HX) 0;have cn:=S3.AJ.cell (Id _ HN) 0;obtain⟨nb,Pr⟩:∃b,b=w2.heap.size:=⟨_,rfl⟩;obtain⟨w3,Ld⟩:∃z,z=World.alloc w2 (qG #[iI 0,qA op,qB p.AX,iI p.v,qB q.AX,iI q.v] 238):=⟨_,rfl⟩;rw[<-Ld] at GL HM cx cn⊢;rw[<-Pr] at GL HNE HGE⊢;clear S S1 S2 S3 hm Dg FM Vg aZ Pr Ld;go_wp2_with fail;refine(ZK n _ g x wv Ae GL.Ak).mono ?_;intro e w4 he;clear cx cn;unfold rR at he;cases hl:x.Df n with
   |error c1=>
    rw[hl] at he;obtain⟨⟨fb,rfl,hb⟩,hm⟩:=he;have IA:=D (show x.finish (.set n a op c)=.error c1 by rw[Hr.out,hl]);clear hl;go_wp2;rw[IA.out];exact⟨rfl,⟨fb,rfl,hb⟩,HM.Aj hm⟩
   |ok r=>
    obtain⟨v,y⟩:=r;rw[hl] at he;obtain⟨rfl,st⟩:=he;have IA:=D (show x.finish (.set n a op c)=.ok (y.add (.set v op p q)) by rw[Hr.out,hl]);have S4:SR _ g y wv Ae w4:=⟨st.Ak,GL.AJ.step st,GL.D1.cast (TE hl)⟩;have Aw:=(Ai.quiet H.Ak HM).trans st;have S5:=S4.Ag6 (H.D1.cast (TE hl)) HNE 0 (iI v);have uD:=D (S4.Aeb Aw HGE 0 (iI v));have Ue:=D S5;have cb:=S4.AJ.cell (Jd ..);have cf:=S4.AJ.free (Jd ..);have cx:=S4.AJ.cell (Id _ HX) 0;have hne:=HNE.out _ HX.out;clear hl st S4 S5 Aw;go_wp2_with fail;refine(RB (.set v op p q) _ _ _ g y wv Ae _ Ue.Ak Ue.D1 ⟨_,[],rfl,Jd ..,rfl⟩ Hb).mono ?_;intro e w5 he;have hf:=D (dH he Ue uD (λy hy=>Id _ hy));obtain⟨rfl,_⟩:=he;clear cb cf cx hne;go_wp2
    go_end0
    rw[IA.out];exact hf.out
theorem lS (w:World) (g:FG) (x:qH) (wv:Value) (Ae:Int) (F:List (Nat×Obj)) (h:SR F g x wv Ae w) (hb:np g) (bx:Nat)
  (SJ:(bx,qG #[iJ g.xb] 143 (0,0))∈F):
  Calls prog 122 #[iJ bx] w (RU (x.finish .atomic) F g x wv Ae w):=by
 have cx:=h.AJ.cell SJ 0;have H:=D h;have Hb:=D hb;clear h hb SJ;go_enter func122,ntmps122;go_wp2_with fail;refine(TY .atomic _ _ _ g x wv Ae F H.Ak H.D1 ⟨rfl,rfl⟩ Hb).mono ?_;exact mbk
theorem xP (n:Int) (w:World) (g:FG) (x:qH) (wv:Value) (Ae:Int) (F:List (Nat×Obj)) (h:SR F g x wv Ae w) (hb:np g) (bx bn:Nat)
  (SJ:(bx,qG #[iJ g.xb] 143 (0,0))∈F) (lH:(bn,qG #[iI n] 3 (0,0))∈F):
  Calls prog 127 #[iJ bx,iJ bn] w (RU (x.finish (.loop n)) F g x wv Ae w):=by
 have cx:=h.AJ.cell SJ 0;have H:=D h;have Hb:=D hb;have HN:=D lH;clear h hb SJ lH;go_enter func127,ntmps127;go_wp2_with fail;refine(TY (.loop n) _ _ _ g x wv Ae F H.Ak H.D1 ⟨rfl,bn,rfl,HN⟩ Hb).mono ?_;exact mbk
theorem Aft (a:Wd) (w:World) (g:FG) (x:qH) (wv:Value) (Ae:Int) (F:List (Nat×Obj)) (h:SR F g x wv Ae w) (hb:np g) (bx ba:Nat)
  (SJ:(bx,qG #[iJ g.xb] 143 (0,0))∈F) (Xy:(ba,qG #[qA a.name,iI a.v] 230 (0,0))∈F):
  Calls prog 125 #[iJ bx,iJ ba] w (RU (x.finish (.Es a)) F g x wv Ae w):=by
 have cx:=h.AJ.cell SJ 0;have ca0:=h.AJ.cell Xy 0;have ca1:=h.AJ.cell Xy 1;have AG:x.finish (.Es a)=match x.Cz a with|.error c=> .error c|.ok a=> .ok (x.DU (.Es a)):=rfl
 have H:=D h;have Hb:=D hb;have HX:=D SJ;have Hres:=D AG;clear h hb SJ Xy AG;go_enter func125,ntmps125;go_wp2_with fail;refine(LF a _ g x wv Ae H.Ak).mono ?_;intro e w1 he;clear cx ca0 ca1;unfold ae at he;cases FE:x.Cz a with
 |error c=>
  rw[FE] at he;obtain⟨⟨fb,rfl,hb⟩,hm⟩:=he;have Hr:=D (show x.finish (.Es a)=.error c by rw[Hres.out,FE]);clear FE;go_wp2;rw[Hr.out];exact maZ
 |ok b=>
  rw[FE] at he;obtain⟨rfl,hm⟩:=he;have Hr:=D (show x.finish (.Es a)=.ok (x.DU (.Es b)) by rw[Hres.out,FE]);have S1:=(H.quiet hm).new (qG #[qB b.AX,iI b.v] 235);have cx:=(H.quiet hm).AJ.cell HX 0;have hxl:=(H.quiet hm).AJ.lt HX.out;have HS1:=D S1;have HM:=D (hm.alloc (qG #[qB b.AX,iI b.v] 235));clear FE hm S1;go_wp2_with fail;refine(TY (.Es b) _ _ _ g x wv Ae _ HS1.Ak HS1.D1 ⟨rfl,_,rfl,Jd ..⟩ Hb).mono ?_;intro e w2 he;have hf:=D (RA he HS1 HM H.Ak (λ_ hy=>Id _ hy));obtain⟨rfl,_⟩:=he;clear cx hxl;go_wp2
  go_end0
  rw[Hr.out];exact hf.out
def X9 (k:KQ) (b:Bj) (sl:Value) (w:World) (e:Ending) (w':World):Prop:=
 ∃T nb o,e= qF (.iface T (iJ nb))/\Az [] w w'/\w'.heap[nb]?=U o/\w.heap.size<=nb/\∀(F:List (Nat×Obj)) (ws:List Value),(nb,o)∈F->Ew F sl ws->D8 F b ws->D8 F (Fr.done ⟨k,b⟩ .nil) [.iface T (iJ nb)]
theorem XC (b:Bj) (p:Option Addr) (n c:Nat) (w:World):Calls prog 124 #[m9 p n c] w (X9 .atomic b (m9 p n c) w):=by
 go_enter func124,ntmps124;exact maH
theorem me (a:At) (cb:Nat) (b:Bj) (p:Option Addr) (n c:Nat) (w:World) (h:Ci w cb #[qB a.AX,iI a.v] 235):Calls prog 126 #[m9 p n c,iJ cb] w (X9 (.Es a) b (m9 p n c) w):=by
 have c0:=h.cell 0;have c1:=h.cell 1;clear h;go_enter func126,ntmps126;exact maH
theorem bw (k:Int) (cb:Nat) (b:Bj) (p:Option Addr) (n c:Nat) (w:World) (h:Ci w cb #[iI k] 3):Calls prog 128 #[m9 p n c,iJ cb] w (X9 (.loop k) b (m9 p n c) w):=by
 have c0:=h.cell 0;clear h;go_enter func128,ntmps128;exact maH
structure Rd (w0:World) (xb:Nat) (r:PV) (Ae:Int) (E:List (Nat×Obj)) (l:Ws) (w:World):Prop where
 px:∃wv,ig w xb r wv Ae/\Sl w (λb=>b≠xb/\b<w0.heap.size) wv (Bq l)
 mod:Az [xb] w0 w
 new:∀q,q∈E->w0.heap.size<=q.1/\w.heap[q.1]?=U q.2
 nd:(E.map Prod.fst).Nodup
 lt:xb<w0.heap.size
theorem Rd.quiet (h:Rd w0 xb r Ae E l w) (k:Az [] w w'):Rd w0 xb r Ae E l w':=by
 obtain⟨⟨wv,h1,h2⟩,h3,h4,h5,h6⟩:=h;exact⟨⟨wv,h1.mod k EQ,h2.mod k (λb hb hm=>by cases hm)⟩,h3.Aj k,λq hq=>⟨(h4 q hq).1,k.heap (h4 q hq).2 EQ⟩,h5,h6⟩
theorem Rd.vM (h:Rd w0 xb r Ae E l w) (o:Obj):Rd w0 xb r Ae ((w.heap.size,o)::E) l (w.alloc o):=by
 have h':=h.quiet ((Az.refl [] w).alloc o);refine⟨h'.px,h'.mod,λq hq=>?_,?_,h.lt⟩
 .rcases Jl.1 hq with rfl|hq
  .exact⟨h.mod.size,by show(w.heap.push o)[w.heap.size]?=U o;simp⟩
  .exact h'.new q hq
 .rw[Js,JU];refine⟨λhm=>?_,h.nd⟩;obtain⟨q,hq,he⟩:=Qf.1 hm;have:=Dq (h.new q hq).2;simp only[] at he;omega
theorem Rd.Eb {l':Ws} (h:Rd w0 xb r Ae E l w) (k:O2 (U (v,l')) xb r Ae (λb=>b≠xb/\b<w0.heap.size) w e w'):e= qF v/\Rd w0 xb r Ae E l' w':=by
 obtain⟨rfl,wv,h1,h2,h3⟩:=k;exact⟨rfl,⟨wv,h1,h2⟩,h.mod.trans h3 (λx hx=> .inl hx),λq hq=>⟨(h.new q hq).1,h3.heap (h.new q hq).2 (by simp;have:=(h.new q hq).1;have:=h.lt;omega)⟩,h.nd,h.lt⟩
theorem Rd.fail (h:Rd w0 xb r Ae E l w) {c:Int} (k:I8 [xb] c Ae w e w'):I8 [xb] c Ae w0 e w':=
 ⟨k.1,h.mod.trans k.2 (λx hx=> .inl hx)⟩
theorem Rd.set {E1 E2:List (Nat×Obj)} (h:Rd w0 xb r Ae (E1++(b,qG c T (0,0))::E2) l w) (i:Nat) (v:Value):
  Rd w0 xb r Ae (E1++(b,qG (c.setIfInBounds i v) T (0,0))::E2) l (w.setCell ⟨b,i,Z⟩ v):=by
 have hb:=h.new (b,qG c T (0,0)) (Jc _ (Jd ..));have hm:Az [b] w (w.setCell ⟨b,i,Z⟩ v):=(Az.refl [b] w).setCell (.inl EQ) v;have EG:=h.nd;rw[JQ,Js,Jt,JU] at EG;have hlt:=h.lt;obtain⟨wv,h1,h2⟩:=h.px;refine⟨⟨wv,h1.mod hm (by simp;have:=hb.1;simp only[] at this;omega),h2.mod hm (λ_ hx hm=>by rw[GE] at hm;have:=hb.1;simp only[] at this;omega)⟩,h.mod.trans hm (λx hx=>by rw[GE] at hx;exact .inr (by rw[hx];exact hb.1)),λq hq=>?_,?_,hlt⟩
 .have FZ:∀q:Nat×Obj,w0.heap.size<=q.1/\w.heap[q.1]?=U q.2->q.1≠b->w0.heap.size<=q.1/\(w.setCell ⟨b,i,Z⟩ v).heap[q.1]?=U q.2:=λq hq hne=>⟨hq.1,hm.heap hq.2 (by rw[GE];exact hne)⟩
  rcases Jp.1 hq with hq|hq
  .exact FZ q (h.new q (IR _ hq)) (λe=>EG.2.2 q.1 (List.mem_map_of_mem hq) b (Jd ..) e)
  .rcases Jl.1 hq with rfl|hq
   .exact⟨hb.1,Ci.set (c:=c) (T:=T) hb.2 i v⟩
   .exact FZ q (h.new q (Jc _ (Id _ hq))) (λe=>EG.2.1.1 (Qf.2 ⟨q,hq,e⟩))
 .rw[JQ,Js];have:=h.nd;rwa[JQ,Js] at this
theorem Rd.O4 (h:Rd w0 xb r Ae E l w) (hb:(b,qG c T (0,0))∈E) (i:Nat) (v:Value):
  ∃E',Rd w0 xb r Ae E' l (w.setCell ⟨b,i,Z⟩ v)/\(b,qG (c.setIfInBounds i v) T (0,0))∈E'/\∀q,q∈E->q.1≠b->q∈E':=by
 obtain⟨E1,E2,rfl⟩:=List.append_of_mem hb;refine⟨_,h.set i v,Jc _ (Jd ..),λq hq hne=>?_⟩;rcases Jp.1 hq with hq|hq
 .exact IR _ hq
 .rcases Jl.1 hq with rfl|hq
  .exact Jk rfl hne
  .exact Jc _ (Id _ hq)
theorem Rd.cell (h:Rd w0 xb r Ae E l w) (hb:(b,qG c T (0,0))∈E):∀i:Nat,w.cell? ⟨b,i,Z⟩=c[i]?:=Ci.cell (h.new _ hb).2
theorem Rd.free (h:Rd w0 xb r Ae E l w) (hb:(b,qG c T (0,0))∈E):∀i:Nat,w.frozen? ⟨b,i,Z⟩=I:=Ci.free (h.new _ hb).2
theorem Rd.blt {q:Nat×Obj} (h:Rd w0 xb r Ae E l w) (hb:q∈E):q.1<w.heap.size:=Dq (h.new q hb).2
theorem Rd.Po (h:Rd w0 xb r Ae E l w) {b:Nat} {o p:Obj} (h1:(b,o)∈E) (h2:(b,p)∈E):o=p:=by
 have:=(h.new _ h1).2.symm.trans (h.new _ h2).2;simpa using this
def FG.pv (g:FG) (x:qH):PV:=⟨iJ g.pb,.map (U g.sb),.map (U g.lb),m9 (U ⟨g.ob,0,Z⟩) (J g.fr+1) g.oc,iI x.Ah⟩
theorem Rd.GM (h0:SR F g x wv Ae w0) (h:Rd w0 g.xb (g.pv x) Ae E l w):
  ∃wv',SR (E++F) g x wv' Ae w/\Ai w0 (g.Ay x wv Ae) w (g.Ay x wv' Ae):=by
 obtain⟨wv',h1,_⟩:=h.px;have st:Ai w0 (g.Ay x wv Ae) w (g.Ay x wv' Ae):=h0.Ak.swap (i:=0) rfl (h.mod.mono (λy hy=> .inl (by simpa[Ob.fp] using hy))) h1 (by simp[Ob.fp]) (λb hb=> .inl hb);refine⟨wv',⟨st.Ak,AY.fP (h0.AJ.step st) ⟨λb o hb=>(h.new _ hb).2,λb o hb hl=>?_⟩,h0.D1.sub λ_ hy=>Jc _ hy⟩,st⟩;have h2:=(h.new _ hb).1;have h3:b∈Et (g.Ay x wv Ae):=hl;have:=h0.Ak.lt b h3;simp only[] at h2;omega
theorem Rd.start (h:ig w0 xb r wv Ae) (hs:Sl w0 (λb=>b≠xb) wv (Bq l)):Rd w0 xb r Ae [] l w0:=
 ⟨⟨wv,h,hs.mono λb hb ho=>⟨ho,hb⟩⟩,Az.refl _ _,λq hq=>by simp at hq,EQ,Dq h⟩
theorem KO.any (h:KO F fs os):(os.any λf=>f.kind.Cn)=fs.any Kz.Ao:=by
 induction fs generalizing os with
 |nil=>rw[h];rfl
 |cons f fs ih=>obtain⟨o,r,rfl,h2,h3⟩:=h;simp only[List.any_cons,ih h3,h2.Ao]
theorem aa.BB (h:aa F g x):x.BB=g.fr.any Kz.Ao:=h.frs.any
theorem aa.ne (h:aa F g x):x.Aa≠[]:=by
 obtain⟨ts,t,h1,_,_⟩:=h.Uh;rw[h1];simp
theorem aa.EV (h:aa F g x):x.EV=J g.fr+1:=by
 unfold qH.EV;rw[In h.ne,h.frs.len]
theorem OS (x:qH) (s:Bj->Bj):(x.add s).Ah=x.Ah:=by
 unfold qH.add;split
 .rfl
 .split<;>rfl
theorem Vk {v:Int} (h:x.Df n=.ok (v,y)):y.Ah=x.Ah:=by
 unfold qH.Df at h;split at h
 .cases h
 .split at h
  .cases h;rfl
  .split at h
   .cases h
   .cases h;rfl
theorem EI (h:x.finish s=.ok y):y.Ah=x.Ah:=by
 cases s with
 |set n a op b=>
  simp only[qH.finish] at h;split at h
  .cases h
  .exact mbF
 |get n s i=>
  simp only[qH.finish] at h;exact mbF
 |put n a i=>
  simp only[qH.finish] at h;split at h
  .cases h
  .split at h
   .cases h
   .cases h;rw[OS]
 |out a=>
  simp only[qH.finish] at h;split at h
  .cases h
  .cases h;rw[OS]
 |atomic=>simp only[qH.finish] at h;cases h;rfl
 |Es a=>
  simp only[qH.finish] at h;split at h
  .cases h
  .cases h;rfl
 |loop n=>simp only[qH.finish] at h;cases h;rfl
def PM (g:FG) (x:qH) (wv:Value) (Ae:Int):List Nat:=if x.Aa=[] then [g.xb] else Et (g.Ay x wv Ae)
structure Ak8 (x:qH) (r:PV):Prop where
 th:x.Aa=[]
 o:r.o= m9 Z 0 0
def PSt (F:List (Nat×Obj)) (g:FG) (x:qH) (wv:Value) (Ae:Int) (w:World) (r:PV):Prop:=(SR F g x wv Ae w/\r=g.pv x)\/(Ak8 x r/\ig w g.xb r wv Ae)
theorem PSt.px (h:PSt F g x wv Ae w r):ig w g.xb r wv Ae:=by
 rcases h with⟨h,rfl⟩|⟨_,h⟩
 .exact h.Ak.Ao (i:=0) rfl
 .exact h
def AdD (res:Except Int qH) (F:List (Nat×Obj)) (g:FG) (x:qH) (wv:Value) (Ae:Int) (w:World) (e:Ending) (w':World):Prop:=match res with
 |.error c=>I8 (PM g x wv Ae) c Ae w e w'
 |.ok y=>e= qF (qC #[])/\∃g' F' wv',g'.xb=g.xb/\gL F F'/\Ai w (g.Ay x wv Ae) w' (g'.Ay y wv' Ae)/\SR F' g' y wv' Ae w'
theorem AZ {c:Int} (h:I8 [g.xb] c Ae w e w'):I8 (PM g x wv Ae) c Ae w e w':=
 ⟨h.1,h.2.mono λy hy=> .inl (by
   unfold PM;split
   · exact hy
   · rw[GE] at hy;rw[hy];exact JT.2 ⟨_,Jd ..,GE.2 rfl⟩)⟩
theorem Cd {c:Int} (hx:x.Aa≠[]) (h:I8 (Et (g.Ay x wv Ae)) c Ae w e w'):I8 (PM g x wv Ae) c Ae w e w':=by
 unfold PM;rw[In hx];exact h
def qH.PY (x:qH) (w:ByteArray) (s:Vw):Except Int qH:=
 if x.Aa=[]\/(s.Cn=V/\x.BB=I)\/(bs w=A8/\x.BB=V) then .error 3
 else match x.finish s with
  |.error c=> .error c
  |.ok y=>if 14<y.Ah+1\/4<y.EV then .error 5 else .ok {y with Ah:=y.Ah+1}
theorem FB {w:ByteArray} {r:Ws} (h:IF w r=U s):x.Bd w r=x.PY w s:=by
 unfold qH.Bd;rw[h];rfl
theorem Cb {w:ByteArray} {r:Ws} (h:IF w r=Z):x.Bd w r=.error 2:=by
 unfold qH.Bd;rw[h]
theorem YK {w:ByteArray} {r:Ws} (h:bs w=Iz):IF w r=Fk .out r:=by
 unfold IF;rw[h];rfl
theorem fv {w:ByteArray} {r:Ws} (h:bs w=Uj):IF w r=Fk .Es r:=by
 unfold IF;rw[h];rfl
theorem VS {w:ByteArray} {r:Ws} (h:bs w=EW):IF w r=Lk r:=by
 unfold IF;rw[h];rfl
theorem W1 {w:ByteArray} {r:Ws} (h:bs w=A8):IF w r=GM .atomic r:=by
 unfold IF;rw[h];rfl
theorem LX {w:ByteArray} {r:Ws} (h:bs w=Fw):IF w r=Kd r:=by
 unfold IF;rw[h];rfl
theorem PX {w:ByteArray} {r:Ws} (h:bs w=DQ):IF w r=LY r:=by
 unfold IF;rw[h];rfl
theorem PU {w:ByteArray} {r:Ws} (h:bs w=EF):IF w r=LW r:=by
 unfold IF;rw[h];rfl
theorem SR.count (h:SR F g y wv Ae w) (st:Ai w0 L w (g.Ay y wv Ae)):
  Ai w0 L (w.setCell ⟨g.xb,6,Z⟩ (iI (y.Ah+1))) (g.Ay {y with Ah:=y.Ah+1} wv Ae)/\SR F g {y with Ah:=y.Ah+1} wv Ae (w.setCell ⟨g.xb,6,Z⟩ (iI (y.Ah+1))):=by
 have t:Ai w (g.Ay y wv Ae) (w.setCell ⟨g.xb,6,Z⟩ (iI (y.Ah+1))) (g.Ay {y with Ah:=y.Ah+1} wv Ae):=h.Ak.set (i:=0) rfl 6 (iI (y.Ah+1));exact⟨st.trans t,⟨t.Ak,h.AJ.step t,h.D1.Uh,h.D1.frs⟩⟩
theorem Rd.fJ (h:Rd w0 xb r Ae E l w) (o:Obj):∃E',Rd w0 xb r Ae E' l (w.alloc o)/\(w.heap.size,o)∈E'/\gL E E':=
 ⟨_,h.vM o,Jd ..,λ_ hy=>Id _ hy⟩
theorem Ip (h:aa F g x) (h1:s.Cn=V->g.fr.any Kz.Ao=V) (h2:bs nm=A8->g.fr.any Kz.Ao=I):
  x.PY nm s=match x.finish s with
   |.error c=> .error c
   |.ok y=>if 14<y.Ah+1\/4<y.EV then .error 5 else .ok {y with Ah:=y.Ah+1}:=by
 unfold qH.PY;rw[In];rintro(h3|⟨h3,h4⟩|⟨h3,h4⟩)
 .exact h.ne h3
 .rw[h.BB,h1 h3] at h4;cases h4
 .rw[h.BB,h2 h3] at h4;cases h4
theorem VT (h:aa F g x) (h1:(s.Cn=V/\g.fr.any Kz.Ao=I)\/(bs nm=A8/\g.fr.any Kz.Ao=V)):x.PY nm s=.error 3:=by
 unfold qH.PY;rw[Jb];rw[h.BB];exact .inr h1
theorem EC (h:x.Aa=[]):x.PY nm s=.error 3:=by
 unfold qH.PY;rw[Jb (.inl h)]
structure gP (nm:ByteArray) (ws:Ws) (mb:Nat) (w:World) (g:FG) (x:qH) (wv:Value) (Ae:Int) (F:List (Nat×Obj)) (r:PV):Prop where
 h:PSt F g x wv Ae w r
 hs:Sl w (λb=>b≠g.xb) wv (Bq ws)
 hz:∀a,a∈ws->a.size<=1000000
 hg:Gl mb w
 aq:g.xb∉dz mb
 hb:np g
 Aw:0<=x.Ah/\x.Ah<=1000
def Z8 (nm:ByteArray) (ws:Ws) (w:World) (g:FG) (x:qH) (wv:Value) (Ae:Int) (F:List (Nat×Obj)):Prop:=
 Calls prog 101 #[iJ g.xb,qA nm] w (AdD (x.Bd nm ws) F g x wv Ae w)
theorem pT {p q:Prop} (k:q) (h:Hid q->p:=by
  intro zk;unfold Z8;have H:=D k.h;have Hz:=D k.hz;have Hg:=D k.hg;have Hb:=D k.hb;have Hk:=D hk;have HX:=D k.aq;have Aw:=k.Aw;have hmf:∀(fn:Fn) (first cap:Array Value) (w:World),(Instr.makeFunc fn first cap).run prog w=.ok (.func fn first cap) w:=λ_ _ _ _=>rfl
  have R0:=D ((Rd.start (r:=r) k.h.px k.hs).vM (qG #[iJ g.xb] 143));have hlt:=Dq k.h.px;obtain⟨bx,SJ⟩:∃b,b=w.heap.size:=⟨_,rfl⟩;have Hbx:=D SJ;clear SJ;go_enter func101,ntmps101;have hmR:Hid ((w.heap.size,qG #[iJ g.xb] 143 (0,0))∈[(w.heap.size,qG #[iJ g.xb] 143 (0,0))]):=D (Jd ..);obtain⟨E,hE⟩:∃E,E=[(w.heap.size,qG #[iJ g.xb] 143 (0,0))]:=⟨_,rfl⟩;rw[<-hE] at hmR R0;clear hE;have MX:=hmR;clear hmR
  revert H Hz Hg Hb Hk HX Aw hmf R0 hlt bx Hbx E MX
  exact zk.out):p:=h k
theorem Afn (k:gP nm ws mb w g x wv Ae F r) (hk:bs nm=Iz):Z8 nm ws w g x wv Ae F:=by
 obtain⟨q0,q1,q2,q3,q4,q5,q6⟩:=Fm hk I I I V I I I rfl;refine pT ?_;clear k hk;intro H Hz Hg Hb Hk HX Aw hmf hlt bx Hbx E R0 MX;obtain⟨Ou,p1,s1⟩:=R0.out.px;have cb:=R0.out.cell MX 0;have mQ:=D (Kh mb ws _ g.xb r Ou Ae _ p1 s1 (λh=>h.1 rfl) Hz.out (Hg.out.mod R0.out.mod (λb hb hm=>by rw[GE] at hm;rw[hm] at hb;exact HX.out hb)) HX.out);clear p1 s1;go_wp2_with fail;refine mQ.mono ?_;intro e w1 he;clear cb mQ;cases hw:ES ws with
 |none=>
  rw[hw] at he;obtain⟨⟨fb,rfl,hb⟩,hm⟩:=he;have hr:=D (Cb (x:=x) (w:=nm) (r:=ws) (by rw[YK Hk.out];unfold Fk;rw[hw]));exact ma4
 |some p=>
  obtain⟨a,l⟩:=p;rw[hw] at he;obtain⟨rfl,R1⟩:=R0.out.Eb he;obtain⟨E2,R2,m2,more2⟩:=R1.fJ (qG #[qA a.name,iI a.v] 230);have R:=D R2;have MA:=D m2;replace MX:=D (more2 _ MX);have Hw:=D hw;have LC:a.val= qD #[qA a.name,iI a.v]:=rfl;simp only[LC];clear hw R1 R2 m2 more2 he LC R0;obtain⟨ba,Xy⟩:∃b,b=w1.heap.size:=⟨_,rfl⟩;obtain⟨eO,p2,s2⟩:=R.px;have cb:=R.cell MX 0;have No:=D (DH l _ g.xb r eO Ae _ p2 s2);clear p2 s2;go_wp2_with fail;refine No.mono ?_;intro e w3 he;clear cb;cases l with
  |cons b l2=>
   obtain⟨⟨fb,rfl,hb⟩,hm⟩:=he;have hr:=D (Cb (x:=x) (w:=nm) (r:=ws) (by rw[YK Hk.out];unfold Fk;rw[Hw.out];rfl));exact mam
  |nil=>
   obtain⟨rfl,R3⟩:=R.Eb he;have Hr:=D (FB (x:=x) (w:=nm) (r:=ws) (s:=.out a) (by rw[YK Hk.out];unfold Fk;rw[Hw.out];rfl));rcases H.out with⟨hS,rfl⟩|⟨hN,hP⟩;rotate_left
   .obtain⟨wvq,p3,_⟩:=R3.px;have x5:w3.cell? ⟨g.xb,5,Z⟩=U (m9 Z 0 0):=(p3.cell 5).trans (JM U hN.o);have x1:w3.cell? ⟨g.xb,1,Z⟩=U (iI Ae):=p3.cell 1;have xl:g.xb<w3.heap.size:=p3.lt;have cb:=R3.cell MX 0;exact mai
   obtain⟨Ns,S3,OB⟩:=R3.GM hS;have Np:=D hS.D1.ne;clear hS;obtain⟨wvq,p3,_⟩:=R3.px;have x5:w3.cell? ⟨g.xb,5,Z⟩=U (m9 (U ⟨g.ob,0,Z⟩) (J g.fr+1) g.oc):=p3.cell 5;have x1:w3.cell? ⟨g.xb,1,Z⟩=U (iI Ae):=p3.cell 1;have xl:g.xb<w3.heap.size:=p3.lt;have cb:=R3.cell MX 0;have IN:((J g.fr:Int)+1==0)=I:=by rw[Jh];omega
   have GL:=D S3;have Ge:=D OB;clear S3 OB p3 he R3 R No;have Hp:=D (Hr.trans (Ip GL.D1 (λh=>by cases h) (λh=>by rw[Hk.out] at h;exact Jk h Do)));clear Hr;go_wp2_with fail;refine(AcK a _ g x Ns Ae _ GL Hb.out _ _ (IR _ MX) (IR _ MA)).mono ?_;intro e w4 he;clear cb x5 x1 xl IN;unfold RU at he;cases BZ:x.finish (.out a) with
   |error c=>
    exact maj
   |ok y=>
    exact mae
theorem Ain (k:gP nm ws mb w g x wv Ae F r) (hk:bs nm=Uj):Z8 nm ws w g x wv Ae F:=by
 obtain⟨q0,q1,q2,q3,q4,q5,q6⟩:=Fm hk I I I I V I I rfl;refine pT ?_;clear k hk;intro H Hz Hg Hb Hk HX Aw hmf hlt bx Hbx E R0 MX;obtain⟨Ou,p1,s1⟩:=R0.out.px;have cb:=R0.out.cell MX 0;have mQ:=D (Kh mb ws _ g.xb r Ou Ae _ p1 s1 (λh=>h.1 rfl) Hz.out (Hg.out.mod R0.out.mod (λb hb hm=>by rw[GE] at hm;rw[hm] at hb;exact HX.out hb)) HX.out);clear p1 s1;go_wp2_with fail;refine mQ.mono ?_;intro e w1 he;clear cb mQ;cases hw:ES ws with
 |none=>
  rw[hw] at he;obtain⟨⟨fb,rfl,hb⟩,hm⟩:=he;have hr:=D (Cb (x:=x) (w:=nm) (r:=ws) (by rw[fv Hk.out];unfold Fk;rw[hw]));exact ma4
 |some p=>
  obtain⟨a,l⟩:=p;rw[hw] at he;obtain⟨rfl,R1⟩:=R0.out.Eb he;obtain⟨E2,R2,m2,more2⟩:=R1.fJ (qG #[qA a.name,iI a.v] 230);have R:=D R2;have MA:=D m2;replace MX:=D (more2 _ MX);have Hw:=D hw;have LC:a.val= qD #[qA a.name,iI a.v]:=rfl;simp only[LC];clear hw R1 R2 m2 more2 he LC R0;obtain⟨ba,Xy⟩:∃b,b=w1.heap.size:=⟨_,rfl⟩;obtain⟨eO,p2,s2⟩:=R.px;have cb:=R.cell MX 0;have No:=D (DH l _ g.xb r eO Ae _ p2 s2);clear p2 s2;go_wp2_with fail;refine No.mono ?_;intro e w3 he;clear cb;cases l with
  |cons b l2=>
   obtain⟨⟨fb,rfl,hb⟩,hm⟩:=he;have hr:=D (Cb (x:=x) (w:=nm) (r:=ws) (by rw[fv Hk.out];unfold Fk;rw[Hw.out];rfl));exact mam
  |nil=>
   obtain⟨rfl,R3⟩:=R.Eb he;have Hr:=D (FB (x:=x) (w:=nm) (r:=ws) (s:=.Es a) (by rw[fv Hk.out];unfold Fk;rw[Hw.out];rfl));rcases H.out with⟨hS,rfl⟩|⟨hN,hP⟩;rotate_left
   .obtain⟨wvq,p3,_⟩:=R3.px;have x5:w3.cell? ⟨g.xb,5,Z⟩=U (m9 Z 0 0):=(p3.cell 5).trans (JM U hN.o);have x1:w3.cell? ⟨g.xb,1,Z⟩=U (iI Ae):=p3.cell 1;have xl:g.xb<w3.heap.size:=p3.lt;have cb:=R3.cell MX 0;exact mai
   obtain⟨Ns,S3,OB⟩:=R3.GM hS;have Np:=D hS.D1.ne;clear hS;obtain⟨wvq,p3,_⟩:=R3.px;have x5:w3.cell? ⟨g.xb,5,Z⟩=U (m9 (U ⟨g.ob,0,Z⟩) (J g.fr+1) g.oc):=p3.cell 5;have x1:w3.cell? ⟨g.xb,1,Z⟩=U (iI Ae):=p3.cell 1;have xl:g.xb<w3.heap.size:=p3.lt;have cb:=R3.cell MX 0;have IN:((J g.fr:Int)+1==0)=I:=by rw[Jh];omega
   have GL:=D S3;have Ge:=D OB;clear S3 OB p3 he R3 R No;have Hp:=D (Hr.trans (Ip GL.D1 (λh=>by cases h) (λh=>by rw[Hk.out] at h;exact Jk h Do)));clear Hr;go_wp2_with fail;refine(Aft a _ g x Ns Ae _ GL Hb.out _ _ (IR _ MX) (IR _ MA)).mono ?_;intro e w4 he;clear cb x5 x1 xl IN;unfold RU at he;cases BZ:x.finish (.Es a) with
   |error c=>
    exact maj
   |ok y=>
    exact mae
theorem AcG (k:gP nm ws mb w g x wv Ae F r) (hk:bs nm=EW):Z8 nm ws w g x wv Ae F:=by
 obtain⟨q0,q1,q2,q3,q4,q5,q6⟩:=Fm hk I I I I I V I rfl;refine pT ?_;clear k hk;intro H Hz Hg Hb Hk HX Aw hmf hlt bx Hbx E R0 MX;obtain⟨Ou,p1,s1⟩:=R0.out.px;have cb:=R0.out.cell MX 0;have mQ:=D (dC 4 mb ws _ g.xb r Ou Ae _ p1 s1 (λh=>h.1 rfl) Hz.out (Hg.out.mod R0.out.mod (λb hb hm=>by rw[GE] at hm;rw[hm] at hb;exact HX.out hb)) HX.out Do);clear p1 s1;go_wp2_with fail;refine mQ.mono ?_;intro e w1 he;clear cb mQ;cases hw:Il 4 ws with
 |none=>
  rw[hw] at he;obtain⟨⟨fb,rfl,hb⟩,hm⟩:=he;have hr:=D (Cb (x:=x) (w:=nm) (r:=ws) (by rw[VS Hk.out];unfold Lk;rw[hw]));exact ma4
 |some p=>
  obtain⟨a,l⟩:=p;rw[hw] at he;obtain⟨rfl,R1⟩:=R0.out.Eb he;obtain⟨E2,R2,m2,more2⟩:=R1.fJ (qG #[iI a] 3);have R:=D R2;have MA:=D m2;replace MX:=D (more2 _ MX);have Hw:=D hw;clear hw R1 R2 m2 more2 he R0;obtain⟨eO,p2,s2⟩:=R.px;have cb:=R.cell MX 0;have No:=D (DH l _ g.xb r eO Ae _ p2 s2);clear p2 s2;go_wp2_with fail;refine No.mono ?_;intro e w3 he;clear cb;cases l with
  |cons b l2=>
   obtain⟨⟨fb,rfl,hb⟩,hm⟩:=he;have hr:=D (Cb (x:=x) (w:=nm) (r:=ws) (by rw[VS Hk.out];unfold Lk;rw[Hw.out];rfl));exact mam
  |nil=>
   obtain⟨rfl,R3⟩:=R.Eb he;have Hr:=D (FB (x:=x) (w:=nm) (r:=ws) (s:=.loop a) (by rw[VS Hk.out];unfold Lk;rw[Hw.out];rfl));rcases H.out with⟨hS,rfl⟩|⟨hN,hP⟩;rotate_left
   .obtain⟨wvq,p3,_⟩:=R3.px;have x5:w3.cell? ⟨g.xb,5,Z⟩=U (m9 Z 0 0):=(p3.cell 5).trans (JM U hN.o);have x1:w3.cell? ⟨g.xb,1,Z⟩=U (iI Ae):=p3.cell 1;have xl:g.xb<w3.heap.size:=p3.lt;have cb:=R3.cell MX 0;exact mai
   obtain⟨Ns,S3,OB⟩:=R3.GM hS;have Np:=D hS.D1.ne;clear hS;obtain⟨wvq,p3,_⟩:=R3.px;have x5:w3.cell? ⟨g.xb,5,Z⟩=U (m9 (U ⟨g.ob,0,Z⟩) (J g.fr+1) g.oc):=p3.cell 5;have x1:w3.cell? ⟨g.xb,1,Z⟩=U (iI Ae):=p3.cell 1;have xl:g.xb<w3.heap.size:=p3.lt;have cb:=R3.cell MX 0;have IN:((J g.fr:Int)+1==0)=I:=by rw[Jh];omega
   have GL:=D S3;have Ge:=D OB;clear S3 OB p3 he R3 R No;have Hp:=D (Hr.trans (Ip GL.D1 (λh=>by cases h) (λh=>by rw[Hk.out] at h;exact Jk h Do)));clear Hr;go_wp2_with fail;refine(xP a _ g x Ns Ae _ GL Hb.out _ _ (IR _ MX) (IR _ MA)).mono ?_;intro e w4 he;clear cb x5 x1 xl IN;unfold RU at he;cases BZ:x.finish (.loop a) with
   |error c=>
    exact maj
   |ok y=>
    exact mae
theorem pS (k:gP nm ws mb w g x wv Ae F r) (hk:bs nm=A8):Z8 nm ws w g x wv Ae F:=by
 obtain⟨q0,q1,q2,q3,q4,q5,q6⟩:=Fm hk I I I I I I V rfl;refine pT ?_;clear k hk;intro H Hz Hg Hb Hk HX Aw hmf hlt bx Hbx E R0 MX;obtain⟨l,hl⟩:∃l,l=ws:=⟨_,rfl⟩;have R:Hid (Rd w g.xb r Ae E l _):=hl▸R0;have Hl:=D hl;clear hl R0;obtain⟨eO,p2,s2⟩:=R.px;have cb:=R.cell MX.out 0;have No:=D (DH l _ g.xb r eO Ae _ p2 s2);clear p2 s2;go_wp2_with fail;refine No.mono ?_;intro e w3 he;clear cb;cases l with
 |cons b l2=>
  obtain⟨⟨fb,rfl,hb⟩,hm⟩:=he;have hr:=D (Cb (x:=x) (w:=nm) (r:=ws) (by rw[W1 Hk.out,<-Hl.out];rfl));exact mam
 |nil=>
  obtain⟨rfl,R3⟩:=R.Eb he;have Hr:=D (FB (x:=x) (w:=nm) (r:=ws) (s:=.atomic) (by rw[W1 Hk.out,<-Hl.out];rfl));rcases H.out with⟨hS,rfl⟩|⟨hN,hP⟩;rotate_left
  .obtain⟨wvq,p3,_⟩:=R3.px;have x5:w3.cell? ⟨g.xb,5,Z⟩=U (m9 Z 0 0):=(p3.cell 5).trans (JM U hN.o);have x1:w3.cell? ⟨g.xb,1,Z⟩=U (iI Ae):=p3.cell 1;have xl:g.xb<w3.heap.size:=p3.lt;have cb:=R3.cell MX.out 0;exact mai
  obtain⟨Ns,S3,OB⟩:=R3.GM hS;have Np:=D hS.D1.ne;clear hS;obtain⟨wvq,p3,_⟩:=R3.px;have x5:w3.cell? ⟨g.xb,5,Z⟩=U (m9 (U ⟨g.ob,0,Z⟩) (J g.fr+1) g.oc):=p3.cell 5;have x1:w3.cell? ⟨g.xb,1,Z⟩=U (iI Ae):=p3.cell 1;have xl:g.xb<w3.heap.size:=p3.lt;have cb:=R3.cell MX.out 0;have IN:((J g.fr:Int)+1==0)=I:=by rw[Jh];omega
  have GL:=D S3;have Ge:=D OB;clear S3 OB p3 he R3 R No;have Hin:=D (Rz _ g x Ns Ae GL.Ak Hb.out.fr);go_wp2_with fail;refine Hin.mono ?_;rintro e w3b ⟨rfl,Ps⟩;clear Hin;replace x5:=AK Ps x5;replace x1:=AK Ps x1;replace cb:=AK Ps cb;have Acb:=Ps.size;replace xl:g.xb<w3b.heap.size:=Y
  have Xd:=D (Ge.trans (Ai.quiet GL.Ak Ps));have lh:=D (GL.quiet Ps);clear Ge GL Ps Acb;have Ge:=Xd;have GL:=lh;clear Xd lh;cases Fb:g.fr.any Kz.Ao with
  |true=>
   have uG:=D Fb;clear Fb;have hr:=D (Hr.trans (VT GL.D1 (by exact .inr ⟨Hk.out,uG⟩)));go_wp2_with fail;refine(AP _ _ _).mono ?_;rintro e w5 ⟨⟨fb,rfl,hb⟩,hm⟩;exact mar
  |false=>
   have uG:=D Fb;clear Fb;have Hp:=D (Hr.trans (Ip GL.D1 (λh=>by cases h) (λ_=>uG.out)));clear Hr uG;go_wp2_with fail;refine(lS _ g x Ns Ae _ GL Hb.out _ (IR _ MX.out)).mono ?_;intro e w4 he;clear cb x5 x1 xl IN;unfold RU at he;cases BZ:x.finish (.atomic) with
   |error c=>
    exact maj
   |ok y=>
    rw[BZ] at he;obtain⟨rfl,g',F',DS,Eg,VN,S4⟩:=he;have gS:=EI BZ;have hr:x.Bd nm ws=if 14<y.Ah+1\/4<y.EV then .error 5 else .ok {y with Ah:=y.Ah+1}:=by rw[Hp.out,BZ]
    rw[S4.D1.EV] at hr;have Pu:True->wrap64 (y.Ah+1)=y.Ah+1:=λ_=>IntWalk.wrap64_in _ Y
    have f4:=Iv S4.Ak;have y6:w4.cell? ⟨g.xb,6,Z⟩=U (iI y.Ah):=DS▸f4.c 6;have y5:w4.cell? ⟨g.xb,5,Z⟩=U (m9 (U ⟨g'.ob,0,Z⟩) (J g'.fr+1) g'.oc):=DS▸f4.c 5;have y1:w4.cell? ⟨g.xb,1,Z⟩=U (iI Ae):=DS▸f4.c 1;have yf:World.frozen? w4 ⟨g.xb,6,Z⟩=I:=DS▸f4.f 6;have yl:g.xb<w4.heap.size:=DS▸f4.lt;have cb:=S4.AJ.cell (Eg _ (IR _ MX.out)) 0;have SJ:w.heap.size≠g.xb:=λe=>by rw[e] at hlt;omega
    obtain⟨t5,S5⟩:=S4.count (Ge.trans VN);rw[DS] at t5 S5;have Ud:=D t5;have Ue:=D S5;have rT:=D DS;have Mg:=D Eg;have Ub:=D hr;clear BZ f4 S4 VN t5 S5 DS Eg hr gS;by_cases OR:14<y.Ah+1
    .have LB:x.Bd nm ws=.error 5:=Ub.trans (Jb (.inl OR));have IA:=D LB;clear LB;exact mag
    .by_cases h4:4<J g'.fr+1
     .have pQ:(4:Int)<(J g'.fr:Int)+1:=Y
      have IA:=D (Ub.trans (Jb (.inr h4)));clear h4;exact mag
     .have pQ:¬(4:Int)<(J g'.fr:Int)+1:=Y
      have IA:=D (Ub.trans (In (λh=>h.elim OR h4)));clear h4;go_wp2
      go_end0
      rw[IA.out];exact⟨rfl,g',F',Ns,rT,λy hy=>Mg.out y (Jc _ hy),Ud,Ue⟩
structure Km where
 v1:Value
 v2:Value
 p1:Option Nat
 p2:Option Nat
 p3:Option Nat
def mZ:Option Nat->Value
 |none=>undef
 |some b=> iJ b
def Km.P2 (i1 i2 a1 a2:Nat) (T:Array Value) (s:Km):Array Value:=(((T.setIfInBounds i1 s.v1).setIfInBounds i2 s.v2).setIfInBounds a1 (mZ s.p1)).setIfInBounds a2 (mZ s.p2)
def Km.oN (i1 i2 a1 a2 a3:Nat) (T:Array Value) (s:Km):Array Value:=(Km.P2 i1 i2 a1 a2 T s).setIfInBounds a3 (mZ s.p3)
def sP (l:Ws):Option (Value×Ws):=(cN l).map λp=>(qA p.1,p.2)
def WJ (l:Ws):Option (Value×Ws):=(ES l).map λp=>(p.1.val,p.2)
def RgC (f1 f2:Ws->Option (Value×Ws)) (ws:Ws) (c1 c2:Nat) (cs:List Nat) (s:Km) (l:Ws):Prop:=
 (cs=[c1,c2]/\l=ws)\/(cs=[c2]/\f1 ws=U (s.v1,l))\/(cs=[]/\∃l1,f1 ws=U (s.v1,l1)/\f2 l1=U (s.v2,l))
def RgA (i:Nat) (al:List Nat) (p:Option Nat) (E:List (Nat×Obj)) (o:Obj):Prop:=(i∈al/\p=Z)\/(i∉al/\∃b,p=U b/\(b,o)∈E)
structure Ua (w0:World) (xb:Nat) (r:PV) (Ae:Int) (f1 f2:Ws->Option (Value×Ws)) (ws:Ws) (c1 c2 i1 i2 i3:Nat) (o1 o2 o3:Obj) (is:List Nat) (E0:List (Nat×Obj)) (cs al:List Nat) (s:Km) (w:World):Prop where
 ex:∃E l,Rd w0 xb r Ae E l w/\gL E0 E/\RgC f1 f2 ws c1 c2 cs s l/\RgA i1 al s.p1 E o1/\RgA i2 al s.p2 E o2/\RgA i3 al s.p3 E o3
 nd:al.Nodup
 sub:∀i,i∈al->i∈is
 X7:∀b,s.p1=U b->s.p2=U b->False
 gw:∀b,s.p1=U b->s.p3=U b->False
 dQ:∀b,s.p2=U b->s.p3=U b->False
section
variable {w0:World} {xb:Nat} {r:PV} {Ae:Int} {f1 f2:Ws->Option (Value×Ws)} {ws:Ws} {c1 c2 i1 i2 i3:Nat} {o1 o2 o3:Obj} {is:List Nat} {E0:List (Nat×Obj)} {cs al:List Nat} {s:Km} {w:World}
theorem RgA.same {p:Option Nat} (h:RgA i al p E o) {j:Nat} (hj:i≠j) (nb:Nat×Obj):RgA i (al.erase j) p (nb::E) o:=by
 rcases h with⟨h1,h2⟩|⟨h1,b,h2,h3⟩
 .exact .inl ⟨(List.mem_erase_of_ne hj).2 h1,h2⟩
 .exact .inr ⟨λh=>h1 ((List.mem_erase_of_ne hj).1 h),b,h2,Id _ h3⟩
theorem RgA.Ml (hd:al.Nodup) (E:List (Nat×Obj)) (o:Obj) (b:Nat):RgA i (al.erase i) (U b) ((b,o)::E) o:=
 .inr ⟨λh=>(List.Nodup.mem_erase_iff hd).1 h |>.1 rfl,b,rfl,Jd ..⟩
theorem RgA.lt {p:Option Nat} (h:RgA i al p E o) (hR:Rd w0 xb r Ae E l w):p=U w.heap.size->False:=by
 rintro rfl;rcases h with⟨_,h2⟩|⟨_,b,h2,h3⟩
 .cases h2
 .cases h2;exact RK _ (hR.blt h3)
theorem Ua.a1 (hn:i1≠i2/\i1≠i3/\i2≠i3) (h:Ua w0 xb r Ae f1 f2 ws c1 c2 i1 i2 i3 o1 o2 o3 is E0 cs al s w):Ua w0 xb r Ae f1 f2 ws c1 c2 i1 i2 i3 o1 o2 o3 is E0 cs (al.erase i1) {s with p1:=U w.heap.size} (w.alloc o1):=by
 obtain⟨⟨E,l,hR,hM,hC,h1,h2,h3⟩,nd,sub,X7,gw,dQ⟩:=h;exact⟨⟨_,l,hR.vM o1,λy hy=>Id _ (hM y hy),hC,.Ml nd E o1 _,h2.same (Ne.symm hn.1) _,h3.same (Ne.symm hn.2.1) _⟩,nd.erase _,λi hi=>sub i (i9 hi),
   λb hb=>by cases hb;exact h2.lt hR,λb hb=>by cases hb;exact h3.lt hR,dQ⟩
theorem Ua.a2 (hn:i1≠i2/\i1≠i3/\i2≠i3) (h:Ua w0 xb r Ae f1 f2 ws c1 c2 i1 i2 i3 o1 o2 o3 is E0 cs al s w):Ua w0 xb r Ae f1 f2 ws c1 c2 i1 i2 i3 o1 o2 o3 is E0 cs (al.erase i2) {s with p2:=U w.heap.size} (w.alloc o2):=by
 obtain⟨⟨E,l,hR,hM,hC,h1,h2,h3⟩,nd,sub,X7,gw,dQ⟩:=h;exact⟨⟨_,l,hR.vM o2,λy hy=>Id _ (hM y hy),hC,h1.same hn.1 _,.Ml nd E o2 _,h3.same (Ne.symm hn.2.2) _⟩,nd.erase _,λi hi=>sub i (i9 hi),
   λb hb hc=>by cases hc;exact h1.lt hR hb,gw,λb hb=>by cases hb;exact h3.lt hR⟩
theorem Ua.a3 (hn:i1≠i2/\i1≠i3/\i2≠i3) (h:Ua w0 xb r Ae f1 f2 ws c1 c2 i1 i2 i3 o1 o2 o3 is E0 cs al s w):Ua w0 xb r Ae f1 f2 ws c1 c2 i1 i2 i3 o1 o2 o3 is E0 cs (al.erase i3) {s with p3:=U w.heap.size} (w.alloc o3):=by
 obtain⟨⟨E,l,hR,hM,hC,h1,h2,h3⟩,nd,sub,X7,gw,dQ⟩:=h;exact⟨⟨_,l,hR.vM o3,λy hy=>Id _ (hM y hy),hC,h1.same hn.2.1 _,h2.same hn.2.2 _,.Ml nd E o3 _⟩,nd.erase _,λi hi=>sub i (i9 hi),
   X7,λb hb hc=>by cases hc;exact h1.lt hR hb,λb hb hc=>by cases hc;exact h2.lt hR hb⟩
theorem Ua.Oi (h:Ua w0 xb r Ae f1 f2 ws c1 c2 i1 i2 i3 o1 o2 o3 is E0 cs al s w) (hb:(b,qG c T (0,0))∈E0) (i:Nat):w.cell? ⟨b,i,Z⟩=c[i]?:=by
 obtain⟨⟨E,l,hR,hM,_⟩,_⟩:=h;exact hR.cell (hM _ hb) i
theorem Ua.done (h:Ua w0 xb r Ae f1 f2 ws c1 c2 i1 i2 i3 o1 o2 o3 is E0 [] [] s w):∃E l l1 b1 b2 b3,Rd w0 xb r Ae E l w/\gL E0 E/\f1 ws=U (s.v1,l1)/\f2 l1=U (s.v2,l)/\s.p1=U b1/\s.p2=U b2/\s.p3=U b3/\(b1,o1)∈E/\(b2,o2)∈E/\(b3,o3)∈E/\b1≠b2/\b1≠b3/\b2≠b3:=by
 obtain⟨⟨E,l,hR,hM,hC,h1,h2,h3⟩,nd,sub,X7,gw,dQ⟩:=h;rcases hC with⟨h,_⟩|⟨h,_⟩|⟨_,l1,k1,k2⟩
 .cases h
 .cases h
 rcases h1 with⟨h,_⟩|⟨_,b1,e1,m1⟩
 .cases h
 rcases h2 with⟨h,_⟩|⟨_,b2,e2,m2⟩
 .cases h
 rcases h3 with⟨h,_⟩|⟨_,b3,e3,m3⟩
 .cases h
 exact⟨E,l,l1,b1,b2,b3,hR,hM,k1,k2,e1,e2,e3,m1,m2,m3,λe=>X7 b1 e1 (e▸e2),λe=>gw b1 e1 (e▸e3),λe=>dQ b2 e2 (e▸e3)⟩
theorem Ua.Adg (h:Ua w0 xb r Ae f1 f2 ws c1 c2 i1 i2 i3 o1 o2 o3 is E0 [c1,c2] al s w) (hf:f1 ws=U (v,l1)) {w':World} (hw:∀E,Rd w0 xb r Ae E ws w->Rd w0 xb r Ae E l1 w'):Ua w0 xb r Ae f1 f2 ws c1 c2 i1 i2 i3 o1 o2 o3 is E0 [c2] al {s with v1:=v} w':=by
 obtain⟨⟨E,l,hR,hM,hC,h1,h2,h3⟩,nd,sub,X7,gw,dQ⟩:=h;rcases hC with⟨_,rfl⟩|⟨h,_⟩|⟨h,_⟩
 .exact⟨⟨E,l1,hw E hR,hM,.inr (.inl ⟨rfl,hf⟩),h1,h2,h3⟩,nd,sub,X7,gw,dQ⟩
 .cases h
 .cases h
theorem Ua.Adf (h:Ua w0 xb r Ae f1 f2 ws c1 c2 i1 i2 i3 o1 o2 o3 is E0 [c2] al s w) (TP:f1 ws=U (s.v1,l)) (hf:f2 l=U (v,l1)) {w':World} (hw:∀E,Rd w0 xb r Ae E l w->Rd w0 xb r Ae E l1 w'):Ua w0 xb r Ae f1 f2 ws c1 c2 i1 i2 i3 o1 o2 o3 is E0 [] al {s with v2:=v} w':=by
 obtain⟨⟨E,l',hR,hM,hC,h1,h2,h3⟩,nd,sub,X7,gw,dQ⟩:=h;rcases hC with⟨h,_⟩|⟨_,h⟩|⟨h,_⟩
 .cases h
 .rw[TP] at h;cases h;exact⟨⟨E,l1,hw E hR,hM,.inr (.inr ⟨rfl,_,TP,hf⟩),h1,h2,h3⟩,nd,sub,X7,gw,dQ⟩
 .cases h
theorem Ua.at1 (h:Ua w0 xb r Ae f1 f2 ws c1 c2 i1 i2 i3 o1 o2 o3 is E0 [c1,c2] al' s w):∃E,Rd w0 xb r Ae E ws w:=by
 obtain⟨⟨E,l,hR,hM,hC,_⟩,_⟩:=h;rcases hC with⟨_,rfl⟩|⟨h,_⟩|⟨h,_⟩
 .exact⟨E,hR⟩
 .cases h
 .cases h
theorem Ua.at2 (h:Ua w0 xb r Ae f1 f2 ws c1 c2 i1 i2 i3 o1 o2 o3 is E0 [c2] al' s w):∃E l,Rd w0 xb r Ae E l w/\f1 ws=U (s.v1,l):=by
 obtain⟨⟨E,l,hR,hM,hC,_⟩,_⟩:=h;rcases hC with⟨h,_⟩|⟨_,h⟩|⟨h,_⟩
 .cases h
 .exact⟨E,l,hR,h⟩
 .cases h
theorem Ua.zA {c:Nat} {cs':List Nat} (h:Ua w0 xb r Ae f1 f2 ws c1 c2 i1 i2 i3 o1 o2 o3 is E0 (c::cs') al s w):(c=c1/\cs'=[c2])\/(c=c2/\cs'=[]):=by
 obtain⟨⟨E,l,hR,hM,hC,_⟩,_⟩:=h;rcases hC with⟨h,_⟩|⟨h,_⟩|⟨h,_⟩
 .cases h;exact .inl ⟨rfl,rfl⟩
 .cases h;exact .inr ⟨rfl,rfl⟩
 .cases h
end
theorem D4 {P:Program} {Bf:Array Oper} {Q:Exit->Act->World->Prop} {o:Oper} {K:Act->World->Prop} {a:Act} (ho:Bf[i]?=U o)
  (h:∀K':Act->World->Prop,(∀a' w',K a' w'->K' a' w')->if Region.wanted o (yielded Bf a.tmps)=V then Oper.wp P o a w K' Q else K' (a.put o.dst undef) w):wpOp P Bf Q i K a w:=uL ho (h K λ_ _ h=>h)
theorem MJ (h:cN l=U (n,l1)):∀a,a∈l1->a∈l:=by
 cases l with
 |nil=>cases h
 |cons a q=>
  cases hb:Cg (bs a) with
  |true=>rw[Ajs hb] at h;cases h;exact λb hb=>Id _ hb
  |false=>rw[Ajt hb] at h;cases h
theorem bM {n:Wd} (h:ES l=U (n,l1)):∀a,a∈l1->a∈l:=by
 cases l with
 |nil=>cases h
 |cons a q=>
  rw[Ct] at h;split at h
  .cases h;exact λb hb=>Id _ hb
  .cases h
theorem L2 (h:sP l=U (v,l1)):∃n,cN l=U (n,l1)/\v= qA n:=by
 unfold sP at h;cases hn:cN l with
 |none=>rw[hn] at h;cases h
 |some p=>obtain⟨n,l2⟩:=p;rw[hn] at h;cases h;exact⟨n,rfl,rfl⟩
theorem Yf (h:WJ l=U (v,l1)):∃a,ES l=U (a,l1)/\v=a.val:=by
 unfold WJ at h;cases hn:ES l with
 |none=>rw[hn] at h;cases h
 |some p=>obtain⟨n,l2⟩:=p;rw[hn] at h;cases h;exact⟨n,rfl,rfl⟩
theorem zB:∀op,op∈B4->¬op.size=0:=by decide+kernel
theorem Rd.ne (h:Rd w0 xb r Ae E l w) {b c:Nat} {o p:Obj} (h1:(b,o)∈E) (h2:(c,p)∈E) (ho:o≠p):b≠c:=by
 rintro rfl;exact ho (h.Po h1 h2)
theorem Afo (k:gP nm ws mb w g x wv Ae F r) (hk:bs nm=DQ):Z8 nm ws w g x wv Ae F:=by
 obtain⟨q0,q1,q2,q3,q4,q5,q6⟩:=Fm hk I V I I I I I rfl;refine pT ?_;clear k hk;intro H Hz Hg Hb Hk HX Aw hmf hlt bx Hbx E R0 MX;go_upto_region 15 with fail
 have S0:=R0.out.quiet (Az.refl [] _).drew;refine Ov [0,2] [1,3] [4,5] [(6,I),(7,I)] (λW=>W.cell? ⟨w.heap.size,0,Z⟩=U (iJ g.xb)) 7 (S0.cell MX 0) ?_;refine Lw (v:= ?_) rfl rfl rfl (λW hW=>?_) ?_;rotate_left
 .go_simp;rfl
 simp only[FH];refine Lw (v:= ?_) rfl rfl rfl (λW hW=>?_) ?_;rotate_left
 .go_simp;rfl
 simp only[FH];simp only[WH];have J0:Ua w g.xb r Ae sP sP ws 1 3 4 5 99 (qG #[qA ⟨#[]⟩] 9 (0,0)) (qG #[qA ⟨#[]⟩] 9 (0,0)) (qG #[iJ g.xb] 143 (0,0)) [4,5] E [1,3] [4,5] ⟨undef,undef,Z,Z,U w.heap.size⟩ _:=⟨⟨E,ws,S0,λ_ h=>h,.inl ⟨rfl,rfl⟩,.inl ⟨Do,rfl⟩,.inl ⟨Do,rfl⟩,.inr ⟨Do,_,rfl,MX⟩⟩,Do,λ_ h=>h,EQ,EQ,EQ⟩;refine VK (Km.P2 49 51 10 11) (Ua w g.xb r Ae sP sP ws 1 3 4 5 99 (qG #[qA ⟨#[]⟩] 9 (0,0)) (qG #[qA ⟨#[]⟩] 9 (0,0)) (qG #[iJ g.xb] 143 (0,0)) [4,5] E) ?_ ?_ ?_ rfl _ (by simp only[Km.P2,mZ,FH]) J0
 .clear J0 S0;intro c cs al s w1 hJ;rcases hJ.zA with⟨rfl,rfl⟩|⟨rfl,rfl⟩
  .refine D4 rfl (λK hK=>?_);simp only[Km.P2,FH];go_simp;obtain⟨E1,hR⟩:=hJ.at1;obtain⟨Ou,p1,s1⟩:=hR.px;refine(N9 ws _ g.xb r Ou Ae _ p1 s1 (λh=>h.1 rfl) Hz.out).mono ?_;intro e w2 he;cases hf:cN ws with
   |none=>
    rw[hf] at he;obtain⟨⟨fb,rfl,hb⟩,hm⟩:=he;rw[Cb (by rw[PX Hk.out];unfold LY;rw[hf])];exact maN
   |some p=>
    obtain⟨n,l1⟩:=p;rw[hf] at he;have h2:=hJ.Adg (v:= qA n) (by unfold sP;rw[hf];rfl) (λE hE=>(hE.Eb he).2);exact maO
  .refine D4 rfl (λK hK=>?_);simp only[Km.P2,FH];go_simp;obtain⟨E1,l1,hR,TP⟩:=hJ.at2;obtain⟨n,hn,hv⟩:=L2 TP;obtain⟨Ou,p1,s1⟩:=hR.px;refine(N9 l1 _ g.xb r Ou Ae _ p1 s1 (λh=>h.1 rfl) (λq hq=>Hz.out q (MJ hn q hq))).mono ?_;intro e w2 he;cases hf:cN l1 with
   |none=>
    rw[hf] at he;obtain⟨⟨fb,rfl,hb⟩,hm⟩:=he;rw[Cb (by rw[PX Hk.out];unfold LY;rw[hn];simp only[];rw[hf])];exact maN
   |some p=>
    obtain⟨a,l2⟩:=p;rw[hf] at he;have h2:=hJ.Adf (v:= qA a) TP (by unfold sP;rw[hf];rfl) (λE hE=>(hE.Eb he).2);exact maO
 .exact mau
 clear J0 S0;intro s w1 hJ;obtain⟨E1,l,l1,b1,b2,b3,R1,hM,TP,Zx,e1,e2,e3,m1,m2,m3,X7,gw,dQ⟩:=hJ.done;obtain⟨v1,v2,q1,q2,q3⟩:=s;simp only at TP Zx e1 e2 e3;subst e1;subst e2;subst e3;obtain⟨n,hn,rfl⟩:=L2 TP;obtain⟨a,ha,rfl⟩:=L2 Zx;clear hJ TP Zx;simp only[Km.P2,mZ,FH];have n1:=R1.ne (hM _ MX) m1 (by intro h;injection h with _ h;exact Jk h Do);have n2:=R1.ne (hM _ MX) m2 (by intro h;injection h with _ h;exact Jk h Do);have mX:=hM _ MX.out;have c1:=R1.cell m1;have f1:=R1.free m1;refine AI rfl (λK hK=>?_);go_simp;clear c1 f1;obtain⟨E2,R2,m1',k2⟩:=R1.O4 m1 0 (qA n);replace mX:=k2 _ mX n1;replace m2:=k2 _ m2 (Ne.symm X7)
 skip
 refine hK _ _ (λ_=>R2.cell mX 0) ?_;clear hK;have c2:=R2.cell m2;have f2:=R2.free m2;refine AI rfl (λK hK=>?_);go_simp;clear c2 f2;obtain⟨E4,R4,m2',k4⟩:=R2.O4 m2 0 (qA a);replace mX:=k4 _ mX n2;replace m1':=k4 _ m1' X7;refine hK _ _ (λh=>Jk rfl h) ?_;clear hK;simp only[BN];generalize (World.setCell (World.setCell w1 ⟨b1,0,Z⟩ (qA n)) ⟨b2,0,Z⟩ (qA a))=w4 at R4⊢;have R:=D R4;replace MX:=D mX;have MA:=D m1';have MB:=D m2';have Hn:=D hn;have Ha:=D ha;clear R1 R2 R4 hM m1 m1' m2 m2' m3 mX k2 k4 hn ha n1 n2 X7 gw dQ R0;obtain⟨Ou,p1,s1⟩:=R.px;have cb:=R.cell MX 0;have mQ:=D (tV mb l _ g.xb r Ou Ae _ p1 s1 (λh=>h.1 rfl) (λq hq=>Hz.out q (MJ Hn q (MJ Ha q hq))) (Hg.out.mod R.mod (λb hb hm=>by rw[GE] at hm;rw[hm] at hb;exact HX.out hb)) HX.out);clear p1 s1;go_wp2_with fail;refine mQ.mono ?_;intro e w5 he;clear cb mQ;cases hw:atF l with
 |none=>
  rw[hw] at he;obtain⟨⟨fb,rfl,hb⟩,hm⟩:=he;have hr:=D (Cb (x:=x) (by rw[PX Hk.out];unfold LY;rw[Hn.out];simp only[];rw[Ha.out];simp only[];rw[hw]));clear hw;exact mam
 |some p=>
  obtain⟨i,l⟩:=p;rw[hw] at he;obtain⟨rfl,R1⟩:=R.Eb he;obtain⟨E2,R2,m2,more2⟩:=R1.fJ (qG #[qA i.name,iI i.v] 230);have LC:i.val= qD #[qA i.name,iI i.v]:=rfl;simp only[LC];clear R;have R:=D R2;have MI:=D m2;replace MX:=D (more2 _ MX);replace MA:=D (more2 _ MA);replace MB:=D (more2 _ MB);have Hw:=D hw;clear hw R1 R2 m2 more2 he LC;obtain⟨eO,p2,s2⟩:=R.px;have cb:=R.cell MX 0;have No:=D (DH l _ g.xb r eO Ae _ p2 s2);clear p2 s2;go_wp2_with fail;refine No.mono ?_;intro e w3 he;clear cb;cases l with
  |cons b l2=>
   obtain⟨⟨fb,rfl,hb⟩,hm⟩:=he;have hr:=D (Cb (x:=x) (by rw[PX Hk.out];unfold LY;rw[Hn.out];simp only[];rw[Ha.out];simp only[];rw[Hw.out];rfl));exact mam
  |nil=>
   obtain⟨rfl,R3⟩:=R.Eb he;have Hr:=D (FB (x:=x) (by rw[PX Hk.out];unfold LY;rw[Hn.out];simp only[];rw[Ha.out];simp only[];rw[Hw.out];rfl));rcases H.out with⟨hS,rfl⟩|⟨hN,hP⟩;rotate_left
   .obtain⟨wvq,p3,_⟩:=R3.px;have x5:=(p3.cell 5).trans (JM U hN.o);have x1:w3.cell? ⟨g.xb,1,Z⟩=U (iI Ae):=p3.cell 1;have cb:=R3.cell MX 0;exact mai
   obtain⟨Ns,S3,OB⟩:=R3.GM hS;have Np:=D hS.D1.ne;clear hS;obtain⟨wvq,p3,_⟩:=R3.px;have x5:w3.cell? ⟨g.xb,5,Z⟩=U (m9 (U ⟨g.ob,0,Z⟩) (J g.fr+1) g.oc):=p3.cell 5;have x1:w3.cell? ⟨g.xb,1,Z⟩=U (iI Ae):=p3.cell 1;have xl:=p3.lt;have cb:=R3.cell MX 0;have IN:((J g.fr:Int)+1==0)=I:=by rw[Jh];omega
   have GL:=D S3;have Ge:=D OB;clear S3 OB p3 he R3 R No;have Hin:=D (Rz _ g x Ns Ae GL.Ak Hb.out.fr);go_wp2_with fail;refine Hin.mono ?_;rintro e w3b ⟨rfl,Ps⟩;clear Hin;replace x5:=AK Ps x5;replace x1:=AK Ps x1;replace cb:=AK Ps cb;have Acb:=Ps.size;replace xl:g.xb<w3b.heap.size:=Y
   have Xd:=D (Ge.trans (Ai.quiet GL.Ak Ps));have lh:=D (GL.quiet Ps);clear Ge GL Ps Acb;have Ge:=Xd;have GL:=lh;clear Xd lh;cases Fb:g.fr.any Kz.Ao with
   |true=>
    have uG:=D Fb;clear Fb;have Hp:=D (Hr.trans (Ip GL.D1 (λ_=>uG.out) (λh=>by rw[Hk.out] at h;exact Jk h Do)));clear Hr uG;go_wp2_with fail;refine(AcR n a i _ g x Ns Ae _ GL Hb.out _ _ _ _ (IR _ MX) (IR _ MB) (IR _ MI) (IR _ MA)).mono ?_;intro e w4 he;clear cb x5 x1 IN;unfold RU at he;cases BZ:x.finish (.get n a i) with
    |error c=>
     exact maj
    |ok y=>
     exact mab
   |false=>
    have uG:=D Fb;clear Fb;have hr:=D (Hr.trans (VT GL.D1 (by exact .inl ⟨rfl,uG⟩)));go_wp2_with fail;refine(AP _ _ _).mono ?_;rintro e w5 ⟨⟨fb,rfl,hb⟩,hm⟩;exact mar
theorem Afm (k:gP nm ws mb w g x wv Ae F r) (hk:bs nm=EF):Z8 nm ws w g x wv Ae F:=by
 obtain⟨q0,q1,q2,q3,q4,q5,q6⟩:=Fm hk I I V I I I I rfl;refine pT ?_;clear k hk;intro H Hz Hg Hb Hk HX Aw hmf hlt bx Hbx E R0 MX;go_upto_region 20 with fail
 have S0:=R0.out.quiet (Az.refl [] _).drew;refine Ov [0,2] [1,3] [4,5] [(6,I),(7,I)] (λW=>W.cell? ⟨w.heap.size,0,Z⟩=U (iJ g.xb)) 7 (S0.cell MX 0) ?_;refine Lw (v:= ?_) rfl rfl rfl (λW hW=>?_) ?_;rotate_left
 .go_simp;rfl
 simp only[FH];refine Lw (v:= ?_) rfl rfl rfl (λW hW=>?_) ?_;rotate_left
 .go_simp;rfl
 simp only[FH];simp only[WH];have J0:Ua w g.xb r Ae sP WJ ws 1 3 4 5 99 (qG #[qA ⟨#[]⟩] 9 (0,0)) (qG #[qA ⟨#[]⟩,iI 0] 230 (0,0)) (qG #[iJ g.xb] 143 (0,0)) [4,5] E [1,3] [4,5] ⟨undef,undef,Z,Z,U w.heap.size⟩ _:=⟨⟨E,ws,S0,λ_ h=>h,.inl ⟨rfl,rfl⟩,.inl ⟨Do,rfl⟩,.inl ⟨Do,rfl⟩,.inr ⟨Do,_,rfl,MX⟩⟩,Do,λ_ h=>h,EQ,EQ,EQ⟩;refine VK (Km.P2 58 60 13 14) (Ua w g.xb r Ae sP WJ ws 1 3 4 5 99 (qG #[qA ⟨#[]⟩] 9 (0,0)) (qG #[qA ⟨#[]⟩,iI 0] 230 (0,0)) (qG #[iJ g.xb] 143 (0,0)) [4,5] E) ?_ ?_ ?_ rfl _ (by simp only[Km.P2,mZ,FH]) J0
 .clear J0 S0;intro c cs al s w1 hJ;rcases hJ.zA with⟨rfl,rfl⟩|⟨rfl,rfl⟩
  .refine D4 rfl (λK hK=>?_);simp only[Km.P2,FH];go_simp;obtain⟨E1,hR⟩:=hJ.at1;obtain⟨Ou,p1,s1⟩:=hR.px;refine(N9 ws _ g.xb r Ou Ae _ p1 s1 (λh=>h.1 rfl) Hz.out).mono ?_;intro e w2 he;cases hf:cN ws with
   |none=>
    rw[hf] at he;obtain⟨⟨fb,rfl,hb⟩,hm⟩:=he;rw[Cb (by rw[PU Hk.out];unfold LW;rw[hf])];exact maN
   |some p=>
    obtain⟨n,l1⟩:=p;rw[hf] at he;have h2:=hJ.Adg (v:= qA n) (by unfold sP;rw[hf];rfl) (λE hE=>(hE.Eb he).2);exact maO
  .refine D4 rfl (λK hK=>?_);simp only[Km.P2,FH];go_simp;obtain⟨E1,l1,hR,TP⟩:=hJ.at2;obtain⟨n,hn,hv⟩:=L2 TP;obtain⟨Ou,p1,s1⟩:=hR.px;refine(Kh mb l1 _ g.xb r Ou Ae _ p1 s1 (λh=>h.1 rfl) (λq hq=>Hz.out q (MJ hn q hq)) (Hg.out.mod hR.mod (λb hb hm=>by rw[GE] at hm;rw[hm] at hb;exact HX.out hb)) HX.out).mono ?_;intro e w2 he;cases hf:ES l1 with
   |none=>
    rw[hf] at he;obtain⟨⟨fb,rfl,hb⟩,hm⟩:=he;rw[Cb (by rw[PU Hk.out];unfold LW;rw[hn];simp only[];rw[hf])];exact maN
   |some p=>
    obtain⟨a,l2⟩:=p;rw[hf] at he;have h2:=hJ.Adf (v:=a.val) TP (by unfold WJ;rw[hf];rfl) (λE hE=>(hE.Eb he).2);exact maO
 .exact mau
 clear J0 S0;intro s w1 hJ;obtain⟨E1,l,l1,b1,b2,b3,R1,hM,TP,Zx,e1,e2,e3,m1,m2,m3,X7,gw,dQ⟩:=hJ.done;obtain⟨v1,v2,q1,q2,q3⟩:=s;simp only at TP Zx e1 e2 e3;subst e1;subst e2;subst e3;obtain⟨n,hn,rfl⟩:=L2 TP;obtain⟨a,ha,rfl⟩:=Yf Zx;clear hJ TP Zx;simp only[Km.P2,mZ,FH];have n1:=R1.ne (hM _ MX) m1 (by intro h;injection h with _ h;exact Jk h Do);have n2:=R1.ne (hM _ MX) m2 (by intro h;injection h with _ h;exact Jk h Do);have LC:a.val= qD #[qA a.name,iI a.v]:=rfl;simp only[LC];clear LC;have mX:=hM _ MX.out;have c1:=R1.cell m1;have f1:=R1.free m1;refine AI rfl (λK hK=>?_);go_simp;clear c1 f1;obtain⟨E2,R2,m1',k2⟩:=R1.O4 m1 0 (qA n);replace mX:=k2 _ mX n1;replace m2:=k2 _ m2 (Ne.symm X7)
 skip
 refine hK _ _ (λ_=>R2.cell mX 0) ?_;clear hK;have c2:=R2.cell m2;have f2:=R2.free m2;refine AI rfl (λK hK=>?_);go_simp;clear c2 f2;obtain⟨E3,R3,m2',k3⟩:=R2.O4 m2 0 (qA a.name);obtain⟨E4,R4,m2'',k4⟩:=R3.O4 m2' 1 (iI a.v);replace mX:=k4 _ (k3 _ mX n2) n2;replace m1':=k4 _ (k3 _ m1' X7) X7;refine hK _ _ (λh=>Jk rfl h) ?_;clear hK;simp only[BN];generalize (World.setCell (World.setCell (World.setCell w1 ⟨b1,0,Z⟩ (qA n)) ⟨b2,0,Z⟩ (qA a.name)) ⟨b2,1,Z⟩ (iI a.v))=w4 at R4⊢;have R:=D R4;replace MX:=D mX;have MA:=D m1';have MB:=D m2'';have Hn:=D hn;have Ha:=D ha;clear R1 R2 R3 R4 k3 m2' hM m1 m1' m2 m2'' m3 mX k2 k4 hn ha n1 n2 X7 gw dQ R0;obtain⟨Ou,p1,s1⟩:=R.px;have cb:=R.cell MX 0;have mQ:=D (tV mb l _ g.xb r Ou Ae _ p1 s1 (λh=>h.1 rfl) (λq hq=>Hz.out q (MJ Hn q (bM Ha q hq))) (Hg.out.mod R.mod (λb hb hm=>by rw[GE] at hm;rw[hm] at hb;exact HX.out hb)) HX.out);clear p1 s1;go_wp2_with fail;refine mQ.mono ?_;intro e w5 he;clear cb mQ;cases hw:atF l with
 |none=>
  rw[hw] at he;obtain⟨⟨fb,rfl,hb⟩,hm⟩:=he;have hr:=D (Cb (x:=x) (by rw[PU Hk.out];unfold LW;rw[Hn.out];simp only[];rw[Ha.out];simp only[];rw[hw]));clear hw;exact mam
 |some p=>
  obtain⟨i,l⟩:=p;rw[hw] at he;obtain⟨rfl,R1⟩:=R.Eb he;obtain⟨E2,R2,m2,more2⟩:=R1.fJ (qG #[qA i.name,iI i.v] 230);have LC:i.val= qD #[qA i.name,iI i.v]:=rfl;simp only[LC];clear R;have R:=D R2;have MI:=D m2;replace MX:=D (more2 _ MX);replace MA:=D (more2 _ MA);replace MB:=D (more2 _ MB);have Hw:=D hw;clear hw R1 R2 m2 more2 he LC;obtain⟨eO,p2,s2⟩:=R.px;have cb:=R.cell MX 0;have No:=D (DH l _ g.xb r eO Ae _ p2 s2);clear p2 s2;go_wp2_with fail;refine No.mono ?_;intro e w3 he;clear cb;cases l with
  |cons b l2=>
   obtain⟨⟨fb,rfl,hb⟩,hm⟩:=he;have hr:=D (Cb (x:=x) (by rw[PU Hk.out];unfold LW;rw[Hn.out];simp only[];rw[Ha.out];simp only[];rw[Hw.out];rfl));exact mam
  |nil=>
   obtain⟨rfl,R3⟩:=R.Eb he;have Hr:=D (FB (x:=x) (by rw[PU Hk.out];unfold LW;rw[Hn.out];simp only[];rw[Ha.out];simp only[];rw[Hw.out];rfl));rcases H.out with⟨hS,rfl⟩|⟨hN,hP⟩;rotate_left
   .obtain⟨wvq,p3,_⟩:=R3.px;have x5:=(p3.cell 5).trans (JM U hN.o);have x1:w3.cell? ⟨g.xb,1,Z⟩=U (iI Ae):=p3.cell 1;have cb:=R3.cell MX 0;exact mai
   obtain⟨Ns,S3,OB⟩:=R3.GM hS;have Np:=D hS.D1.ne;clear hS;obtain⟨wvq,p3,_⟩:=R3.px;have x5:w3.cell? ⟨g.xb,5,Z⟩=U (m9 (U ⟨g.ob,0,Z⟩) (J g.fr+1) g.oc):=p3.cell 5;have x1:w3.cell? ⟨g.xb,1,Z⟩=U (iI Ae):=p3.cell 1;have xl:=p3.lt;have cb:=R3.cell MX 0;have IN:((J g.fr:Int)+1==0)=I:=by rw[Jh];omega
   have GL:=D S3;have Ge:=D OB;clear S3 OB p3 he R3 R No;have Hin:=D (Rz _ g x Ns Ae GL.Ak Hb.out.fr);go_wp2_with fail;refine Hin.mono ?_;rintro e w3b ⟨rfl,Ps⟩;clear Hin;replace x5:=AK Ps x5;replace x1:=AK Ps x1;replace cb:=AK Ps cb;have Acb:=Ps.size;replace xl:g.xb<w3b.heap.size:=Y
   have Xd:=D (Ge.trans (Ai.quiet GL.Ak Ps));have lh:=D (GL.quiet Ps);clear Ge GL Ps Acb;have Ge:=Xd;have GL:=lh;clear Xd lh;cases Fb:g.fr.any Kz.Ao with
   |true=>
    have uG:=D Fb;clear Fb;have Hp:=D (Hr.trans (Ip GL.D1 (λ_=>uG.out) (λh=>by rw[Hk.out] at h;exact Jk h Do)));clear Hr uG;go_wp2_with fail;refine(AcJ n a i _ g x Ns Ae _ GL Hb.out _ _ _ _ (IR _ MX) (IR _ MA) (IR _ MI) (IR _ MB)).mono ?_;intro e w4 he;clear cb x5 x1 IN;unfold RU at he;cases BZ:x.finish (.put n a i) with
    |error c=>
     exact maj
    |ok y=>
     exact mab
   |false=>
    have uG:=D Fb;clear Fb;have hr:=D (Hr.trans (VT GL.D1 (by exact .inl ⟨rfl,uG⟩)));go_wp2_with fail;refine(AP _ _ _).mono ?_;rintro e w5 ⟨⟨fb,rfl,hb⟩,hm⟩;exact mar
