/- Part 6 of the proof. -/
import Derived.Test.YtpdfifdlhpmofaaGreatDoorA05
set_option linter.unusedVariables false
set_option linter.unusedSimpArgs false
set_option maxHeartbeats 0
set_option maxRecDepth 99999
namespace Go.Proofs.YtpdfifdlhpmofaaGreatDoor
open Go.RowKit Tryz
open Value renaming slice->qD,string->qE,bool->qF,tuple->qG,agg->qH,pointer->qI
open Ending renaming returned->qJ
open Obj renaming cells->qK
open Option renaming none->Z,some->U
open Bool renaming true->V,false->I
open Go.Lib renaming hid->D
open List renaming length->J
theorem mae {p:Prop} (h:p:=by
 rw[B0] at he;obtain⟨rfl,g',F',DT,Ef,V7,S4⟩:=he;have iU:=EI B0;have hr:x.Bf nm ws=if 14<y.Ai+1\/4<y.EX then .error 5 else .ok {y with Ai:=y.Ai+1}:=by rw[Hp.out,B0]
 rw[S4.DU.EX] at hr;have PB:True->wrap64 (y.Ai+1)=y.Ai+1:=λ_=>IntWalk.wrap64_in _ Y
 have f4:=Iz S4.Ak;have y6:w4.cell? ⟨g.xb,6,Z⟩=U (iI y.Ai):=DT▸f4.c 6;have y5:w4.cell? ⟨g.xb,5,Z⟩=U (qD (U ⟨g'.ob,0,Z⟩) (J g'.fr+1) g'.oc):=DT▸f4.c 5;have y1:w4.cell? ⟨g.xb,1,Z⟩=U (iI Ae):=DT▸f4.c 1;have yf:World.frozen? w4 ⟨g.xb,6,Z⟩=I:=DT▸f4.f 6;have yl:g.xb<w4.heap.size:=DT▸f4.lt;have cb:=S4.AK.cell (Ef _ (IR _ MX)) 0;have SP:w.heap.size≠g.xb:=λe=>by rw[e] at hlt;omega
 obtain⟨t5,S5⟩:=S4.count (Gm.trans V7);rw[DT] at t5 S5;have Uz:=D t5;have UA:=D S5;have tq:=D DT;have MF:=D Ef;have Uw:=D hr;clear B0 f4 S4 V7 t5 S5 DT Ef hr iU;by_cases O2:14<y.Ai+1
 .have Lz:x.Bf nm ws=.error 5:=Uw.trans (Jd (.inl O2));have ID:=D Lz;clear Lz;go_wp2_with fail;refine(AO _ _ _).mono ?_;rintro e w5 ⟨⟨fb,rfl,hb⟩,hm⟩;go_wp2;rw[ID.out];exact⟨rfl,Ce M8 ⟨⟨fb,rfl,hb⟩,Uz.mod.Aj hm⟩⟩
 .by_cases h4:4<J g'.fr+1
  .have r6:(4:Int)<(J g'.fr:Int)+1:=Y
   have ID:=D (Uw.trans (Jd (.inr h4)));clear h4;go_wp2_with fail;refine(AO _ _ _).mono ?_;rintro e w5 ⟨⟨fb,rfl,hb⟩,hm⟩;go_wp2;rw[ID.out];exact⟨rfl,Ce M8 ⟨⟨fb,rfl,hb⟩,Uz.mod.Aj hm⟩⟩
  .have r6:¬(4:Int)<(J g'.fr:Int)+1:=Y
   have ID:=D (Uw.trans (In (λh=>h.elim O2 h4)));clear h4;go_wp2
   go_end0
   rw[ID.out];exact⟨rfl,g',F',NO,tq,λy hy=>MF.out y (Jc _ hy),Uz,UA⟩):p:=h
theorem mag {p:Prop} (h:p:=by
 go_wp2_with fail;refine(AO _ _ _).mono ?_;rintro e w5 ⟨⟨fb,rfl,hb⟩,hm⟩;go_wp2;rw[ID.out];exact⟨rfl,Ce M8 ⟨⟨fb,rfl,hb⟩,Uz.mod.Aj hm⟩⟩):p:=h
theorem mar {p:Prop} (h:p:=by
 go_wp2;rw[hr.out];exact⟨rfl,Ce M8 ⟨⟨fb,rfl,hb⟩,Gm.mod.Aj hm⟩⟩):p:=h
theorem mav {p:Prop} (h:p:=by
 clear J0 S0;intro cs al i s w1 hi hJ;have LU:=hJ.sub i hi;simp only[Jl,QY,or_false] at LU;rcases LU with rfl|rfl
 .refine D4 rfl (λK hK=>?_);simp only[Ku.P9,FL];go_simp;have h2:=hJ.a1 Do;refine hK _ _ ⟨h2.OA MX 0,_,?_,h2⟩;simp only[Ku.P9,ot,FL]
 .refine D4 rfl (λK hK=>?_);simp only[Ku.P9,FL];go_simp;have h2:=hJ.a2 Do;refine hK _ _ ⟨h2.OA MX 0,_,?_,h2⟩;simp only[Ku.P9,ot,FL]):p:=h
theorem maJ {p:Prop} (h:p:=by
 go_wp2;go_ret;exact⟨_,_,_,rfl,(Aw.refl _ _).alloc _,Ch.new _ _ _,Jf _,λF ws h1 h2 h3=>⟨_,[],_,ws,rfl,h1,h2,h3,rfl⟩⟩):p:=h
theorem maN {p:Prop} (h:p:=by
 obtain⟨rfl,_⟩:=he;refine hK _ _ (λh=>Jk rfl h) ?_;clear hK;simp only[BO];go_wp2
 go_end0
 rw[Hr.out];exact hf.out):p:=h
theorem maQ {p:Prop} (h:p:=by
 obtain⟨rfl,_⟩:=he;refine hK _ _ ⟨h2.OA MX 0,_,?_,h2⟩;simp only[Ku.P9,FL]):p:=h
theorem maT {p:Prop} (h:p:=by
 clear hc;go_wp2_with fail;refine(Fb _ xb r _ Ae (B1.mod ((Aw.refl [] w1).alloc _) EQ)).mono ?_;rintro e w5 ⟨⟨fb,rfl,hb⟩,hm⟩;go_wp2;rw[Hr.out];exact⟨rfl,⟨fb,rfl,hb⟩,(M1.alloc _).Aj hm⟩):p:=h
theorem maW {p:Prop} (h:p:=by
 go_enter func116,ntmps116;go_wp2_with fail;refine(AO _ _ _).mono ?_;rintro e w1 ⟨⟨fb,rfl,hb⟩,hm⟩;go_wp2;rw[Hr.out];exact⟨rfl,⟨fb,rfl,hb⟩,((Aw.refl _ _).alloc _).Aj hm⟩):p:=h
theorem ma8 {p:Prop} (h:p:=by
 clear hw;go_wp2;rw[hr.out];exact⟨rfl,A3 (R0.out.fail ⟨⟨fb,rfl,hb⟩,hm⟩)⟩):p:=h
theorem mbo {p:Prop} (h:p:=by
 intro e w1 he;have hf:=D (RA he H (Aw.refl _ _) H.Ak (λ_ hy=>hy));obtain⟨rfl,_⟩:=he;go_wp2
 go_end0
 exact hf.out):p:=h
theorem mbs {p:Prop} (h:p:=by
 have Hn:=D hn;clear hn;go_enter func112,ntmps112;go_wp2;go_ret;exact⟨by rw[Hn.out];rfl,Aw.refl _ _⟩):p:=h
theorem mby {p:Prop} (h:p:=by
 exact⟨rfl,⟨fb,rfl,hb⟩,((Aw.refl [] w).drew).Aj hm⟩):p:=h
theorem mbH {p:Prop} (h:p:=by
 exact⟨by go_simp,((((Aw.refl [] w).alloc _).alloc _).drew).heap Ue EQ,by go_simp⟩):p:=h
theorem mbK {p:Prop} (h:p:=by
 split at h
 .cases h
 .split at h
  .cases h
  .rename_i hl;cases h;rw[O3];exact VC hl):p:=h
theorem mbV {p:Prop} (h:p:=by
 go_enter func75,ntmps75;go_wp2
 go_end0
 exact⟨rfl,Aw.refl _ _⟩):p:=h
variable {a n nm:ByteArray} {l ws l1:Ws} {v wv:Value} {s:VP} {xb i b mb:Nat} {r:PV} {Ae:Int} {w W w' w0:World} {F E F0:List (Nat×Obj)} {c:Array Value} {o p:Obj} {os:List Fr} {ts:List Bj} {vs:List Value} {x y:qL} {L A B:List Ob} {e:Ending} {T:TypeId} {al':List Nat}
theorem vj (l:By):(AR l).toList=l:=by rw[ByteArray.toList_eq];exact Di l
theorem ak (s:ByteArray) (w:World) (hs:s.size<=1000000):
  Calls prog 112 #[qE s] w (Ajc (Ci (bs s)) w):=by
 by_cases h0:(0:Int)<(s.size:Int)
 .by_cases h6:(s.size:Int)<=6
  .have hn:Ci (bs s)=(AR (Lib.trimS (bs s) OX)).toList.isEmpty:=by
    rw[TZ,Bt,JC Y,JC Y,vj];cases Lib.trimS (bs s) OX with
    |nil=>rfl
    |cons a l=>rfl
   have Hn:=D hn;clear hn;go_enter func112,ntmps112;go_wp2_with fail;refine(Aau s _ hs).mono ?_;rintro e w1 ⟨rfl,hm⟩;go_wp2;go_ret;exact⟨by rw[Hn.out];rfl,hm⟩
  .have hn:Ci (bs s)=I:=by
    rw[TZ,Bt,Ju (by omega:¬s.size<=6)];simp
   exact mbs
 .have hn:Ci (bs s)=I:=by
   rw[TZ,Bt,Ju Y];simp
  exact mbs
def Wd.val (a:Wd):Value:= qH #[qE a.name,iI a.v]
theorem AjR (h:Ci (bs a)=V):dJ (a::l)=U (a,l):=by show(if _ then _ else _)=_;rw[Jd h]
theorem AjS (h:Ci (bs a)=I):dJ (a::l)=Z:=by show(if _ then _ else _)=_;rw[In (by rw[h];simp)]
theorem Al7 (h:Ci (bs a)=V):EV (a::l)=U (⟨a,0⟩,l):=by show(if _ then _ else _)=_;rw[Jd h]
theorem Al8 {v:Int} (h:Ci (bs a)=I) (k:number (bs a)=U v):EV (a::l)=U (⟨⟨#[]⟩,v⟩,l):=by show(if _ then _ else _)=_;rw[In (by rw[h];simp),k]
theorem Ajn (h:Ci (bs a)=I) (k:number (bs a)=Z):EV (a::l)=Z:=by show(if _ then _ else _)=_;rw[In (by rw[h];simp),k]
theorem Ou (l:Ws) (w:World) (xb:Nat) (r:PV) (wv:Value) (Ae:Int) (ok:Nat->Prop) (h:km w xb r wv Ae) (hs:Sl w ok wv (Bp l)) (hx:¬ok xb) (hz:∀a,a∈l->a.size<=1000000):
  Calls prog 97 #[iJ xb] w (Pc ((dJ l).map λp=>(qE p.1,p.2)) xb r Ae ok w):=by
 have hn:=Kp l w xb r wv Ae ok h hs hx;have Hn:=D hn;clear hn h hs;go_enter func97,ntmps97;go_wp2_with fail;refine Hn.mono ?_;intro e w1 he;cases l with
 |nil=>
  obtain⟨⟨fb,rfl,hb⟩,hm⟩:=he;go_wp2;exact ma3
 |cons a l=>
  obtain⟨rfl,OH,h1,s1,m1⟩:=he;have hza:=hz a (Je ..);clear hz;go_wp2_with fail;refine(ak a _ hza).mono ?_;rintro e w2 ⟨rfl,m2⟩;cases hb:Ci (bs a) with
  |true=>
   have Hb:=D hb;clear hb;go_wp2;go_ret;rw[AjR Hb.out];exact⟨rfl,OH,Ch.mod h1 m2 EQ,s1.mod m2 (λb hb hm=>by cases hm),m1.Aj m2⟩
  |false=>
   have Hb:=D hb;clear hb;go_wp2_with fail;refine(Fb _ xb r _ Ae (Ch.mod h1 m2 EQ)).mono ?_;rintro e w3 ⟨⟨fb,rfl,hb⟩,hm⟩;go_wp2;rw[AjS Hb.out];exact⟨rfl,⟨fb,rfl,hb⟩,(m1.Aj m2).Aj hm⟩
theorem Acl {v:Int} {s:ByteArray}:((AR (Lib.itoa v)).toList==s.toList)=decide (Lib.itoa v=bs s):=by
 rw[vj,ByteArray.toList_eq,Q5,Q4,JD]
theorem NR {ok:Nat->Prop} {w2 w3:World} (h1:km w2 xb r wv Ae) (s1:Sl w2 (λb=>ok b/\b<w.heap.size) wv (Bp l)) (M:Aw [xb] w w2) {nb:Nat} (Px:w.heap.size<=nb) (hx:xb<w.heap.size) (k:Aw [nb] w2 w3):
  Pc (U (v,l)) xb r Ae ok w (qJ v) w3:=
 ⟨rfl,wv,Ch.mod h1 k (by simp;omega),(s1.mod k (λb hb hm=>by rw[GE] at hm;have:=hb.2;omega)).mono (λb _ hb=>hb.1),M.trans k (λx hx=>by rw[GE] at hx;exact .inr Y)⟩
theorem Ko (mb:Nat) (l:Ws) (w:World) (xb:Nat) (r:PV) (wv:Value) (Ae:Int) (ok:Nat->Prop) (h:km w xb r wv Ae) (hs:Sl w ok wv (Bp l)) (hx:¬ok xb) (hz:∀a,a∈l->a.size<=1000000) (hg:Gl mb w) (bp:xb∉eI mb):
  Calls prog 113 #[iJ xb] w (Pc ((EV l).map λp=>(p.1.val,p.2)) xb r Ae ok w):=by
 have ha:=λt=>Ch.mod h ((Aw.refl [] w).alloc t) EQ
 have hn:=λt:Obj=>Kp l (w.alloc t) xb r wv Ae (λb=>ok b/\b<w.heap.size) (ha t) ((hs.mono (λb hb ho=>⟨ho,hb⟩)).mod ((Aw.refl [] w).alloc t) (λb hb hm=>by cases hm)) (λh=>hx h.1)
 have Hn:=D hn;have Hg:=D hg;have Ib:=Dp h;clear hn h hs ha hg;go_enter func113,ntmps113;go_wp2_with fail;refine(Hn _).mono ?_;intro e w1 he;cases l with
 |nil=>
  obtain⟨⟨fb,rfl,hb⟩,hm⟩:=he;go_wp2;exact⟨rfl,⟨fb,rfl,hb⟩,((Aw.refl [xb] w).alloc _).trans hm (λx hx=> .inl hx)⟩
 |cons a l=>
  obtain⟨rfl,OH,h1,s1,m1⟩:=he;have hza:=hz a (Je ..);clear hz Hn;have R1:=Ch.mod (Ch.new w _ _) m1 (by simp;omega);have M1:=((Aw.refl [xb] w).alloc _).trans m1 (λx hx=> .inl hx);have G1:=D (Hg.mod M1 (λb hb hm=>by rw[GE] at hm;rw[hm] at hb;exact bp hb));have B1:=D h1;have S1:=D s1;have HR1:=D R1;have NQ:=D M1;clear m1 h1 s1 M1;clear R1;go_wp2_with fail;refine(ak a _ hza).mono ?_;rintro e w2 ⟨rfl,m2⟩;have R2:=HR1.mod m2 EQ;have rc:=R2.cell;have rf:=R2.free;have rl:=R2.lt;have SX:=D (NQ.Aj m2);have X8:=D m2;clear R2 m2;cases hb:Ci (bs a) with
  |true=>
   have Hb:=D hb;clear hb;go_wp2_with fail;refine bodyPost_ret (v:= qH #[qE a,iI 0]) (by simp[results,results113,go_sem,rc,rf,rl]) rfl ?_;rw[Al7 Hb.out];exact NR (B1.mod X8 EQ) (S1.mod X8 (λb hb hm=>by cases hm)) SX (Jf _) Ib (((Aw.refl _ _).setCell (.inl EQ) _).setCell (.inl EQ) _)
  |false=>
   have Hb:=D hb;clear hb rf rl;go_wp2_with fail;refine(xg mb a _ (G1.quiet X8) hza).mono ?_;rintro e w3 ⟨m3,⟨v,hp,rfl⟩|⟨hp,v,t,p,rfl⟩⟩
   .have h64: -9223372036854775808<=v/\v<=9223372036854775807:=by
     have h:=Lib.parseIntB_bounds hp;rw[show((2 ^ (64-1):Nat):Int)=9223372036854775808 from rfl] at h;omega
    have vB:=D (X8.Aj m3);have Hp:=D hp;have oe:=D (SX.Aj m3);clear hp m3;go_wp2_with fail;refine(Yu v h64 _ (G1.quiet vB).tab).mono ?_;rintro e w4 ⟨rfl,m4⟩;have Hm4:=D (vB.Aj m4);have HM4:=D (oe.Aj m4);have R4:=HR1.mod Hm4 EQ;have rc:=R4.cell;have rf:=R4.free;have rl:=R4.lt;clear m4 R4;have Ay:=Acl (v:=v) (s:=a);by_cases he:Lib.itoa v=bs a
    .have hn:=(TT _ _).2 ⟨Hp,he⟩;rw[JC he] at Ay;have Hn2:=D hn;clear he hn;go_wp2_with fail;refine bodyPost_ret (v:= qH #[qE ⟨#[]⟩,iI v]) (by simp[results,results113,go_sem,rc,rf,rl]) rfl ?_;rw[Al8 Hb.out Hn2.out];exact NR (B1.mod Hm4 EQ) (S1.mod Hm4 (λb hb hm=>by cases hm)) HM4 (Jf _) Ib (((Aw.refl _ _).setCell (.inl EQ) _).setCell (.inl EQ) _)
    .have hn:number (bs a)=Z:=by
      cases hq:number (bs a) with
      |none=>rfl
      |some u=>
       obtain⟨q1,q2⟩:=(TT _ _).1 hq;rw[Hp.out] at q1;cases q1;exact Jk q2 he
     rw[Ju he] at Ay;have Hn2:=D hn;clear he hn rf rl;go_wp2_with fail;refine(Fb _ xb r _ Ae (B1.mod Hm4 EQ)).mono ?_;rintro e w5 ⟨⟨fb,rfl,hb⟩,hm⟩;go_wp2;rw[Ajn Hb.out Hn2.out];exact⟨rfl,⟨fb,rfl,hb⟩,HM4.Aj hm⟩
   .have hn:number (bs a)=Z:=by
     cases hq:number (bs a) with
     |none=>rfl
     |some u=>exact Jk ((TT _ _).1 hq).1 (hp u)
    have Hn2:=D hn;have vB:=D (X8.Aj m3);have oe:=D (SX.Aj m3);clear hn hp m3;go_wp2_with fail;refine(Fb _ xb r _ Ae (B1.mod vB EQ)).mono ?_;rintro e w5 ⟨⟨fb,rfl,hb⟩,hm⟩;go_wp2;rw[Ajn Hb.out Hn2.out];exact⟨rfl,⟨fb,rfl,hb⟩,oe.Aj hm⟩
theorem eJ (Cd:Int) (mb:Nat) (l:Ws) (w:World) (xb:Nat) (r:PV) (wv:Value) (Ae:Int) (ok:Nat->Prop) (h:km w xb r wv Ae) (hs:Sl w ok wv (Bp l)) (hx:¬ok xb) (hz:∀a,a∈l->a.size<=1000000) (hg:Gl mb w) (bp:xb∉eI mb) (hm:Cd<=1000):
  Calls prog 98 #[iJ xb,iI Cd] w (Pc ((Iq Cd l).map λp=>(iI p.1,p.2)) xb r Ae ok w):=by
 have Hn:=D (Ko mb l w xb r wv Ae (λb=>ok b/\b<w.heap.size) h (hs.mono (λb hb ho=>⟨ho,hb⟩)) (λh=>hx h.1) hz hg bp);have Ib:=Dp h;clear h hs hg hz;go_enter func98,ntmps98;go_wp2_with fail;refine Hn.mono ?_;intro e w1 he;cases hw:EV l with
 |none=>
  have hu:Iq Cd l=Z:=by unfold Iq;rw[hw]
  rw[hw] at he;obtain⟨⟨fb,rfl,hb⟩,hm⟩:=he;have Hu:=D hu;clear hw hu Hn;go_wp2;rw[Hu.out];exact ma3
 |some q=>
  obtain⟨a,l'⟩:=q;have hu:Iq Cd l=if a.name.size=0/\1<=a.v/\a.v<=Cd then U (a.v,l') else Z:=by unfold Iq;rw[hw]
  rw[hw] at he;obtain⟨rfl,OH,h1,s1,m1⟩:=he;have B1:=D h1;have S1:=D s1;have M1:=D m1;have Hu:=D hu;have rJ:=m1.size;obtain⟨nm,v⟩:=a;have LV:(⟨nm,v⟩:Wd).val= qH #[qE nm,iI v]:=rfl;simp only[LV];clear hw hu Hn h1 s1 m1 LV;by_cases IL:nm.size=0
  .have bV:=ByteArray.ext (jH IL);subst bV;clear IL;by_cases hc:1<=v/\v<=Cd
   .obtain⟨h1,h2⟩:=hc;have hr:Iq Cd l=U (v,l'):=by rw[Hu.out];exact Jd ⟨rfl,h1,h2⟩
    have Hr:=D hr;clear hr Hu;go_wp2;go_ret;rw[Hr.out];exact NR (B1) (S1) M1 rJ Ib ((Aw.refl _ _).alloc _)
   .have hr:Iq Cd l=Z:=by rw[Hu.out];exact In (λh=>hc ⟨h.2.1,h.2.2⟩)
    have Hr:=D hr;clear hr Hu;by_cases h1:v<1
    .exact maT
    .have h2:Cd<v:=Y
     exact maT
  .have bV:¬nm.toList=[]:=by
    rw[ByteArray.toList_eq];intro h;apply IL;have:=JM List.length h;exact(Bt nm).symm.trans this
   have hr:Iq Cd l=Z:=by rw[Hu.out];exact In (λh=>IL h.1)
   have Hr:=D hr;clear hr Hu IL;go_wp2_with fail;refine(Fb _ xb r _ Ae (B1.mod ((Aw.refl [] w1).alloc _) EQ)).mono ?_;rintro e w5 ⟨⟨fb,rfl,hb⟩,hm⟩;go_wp2;rw[Hr.out];exact⟨rfl,⟨fb,rfl,hb⟩,(M1.alloc _).Aj hm⟩
theorem uX (mb:Nat) (l:Ws) (w:World) (xb:Nat) (r:PV) (wv:Value) (Ae:Int) (ok:Nat->Prop) (h:km w xb r wv Ae) (hs:Sl w ok wv (Bp l)) (hx:¬ok xb) (hz:∀a,a∈l->a.size<=1000000) (hg:Gl mb w) (bp:xb∉eI mb):
  Calls prog 117 #[iJ xb] w (Pc ((atF l).map λp=>(p.1.val,p.2)) xb r Ae ok w):=by
 have Ib:=Dp h;have h0:=h.mod ((Aw.refl [] w).alloc (qK #[qE ⟨#[]⟩,iI 0] 230)) EQ;have s0:=(hs.mono (ok':=λb=>ok b/\b<w.heap.size) (λb hb ho=>⟨ho,hb⟩)).mod ((Aw.refl [] w).alloc (qK #[qE ⟨#[]⟩,iI 0] 230)) (λb hb hm=>by cases hm);have Hi:=D (AfP ⟨#[97,116]⟩ l _ xb r wv Ae (λb=>ok b/\b<w.heap.size) h0 s0 (λh=>hx h.1));have Hg:=D hg;have Hz:=D hz;clear h hs h0 s0 hg hz;go_enter func117,ntmps117;go_wp2_with fail;refine Hi.mono ?_;rintro e w1 ⟨rfl,OH,h1,s1,m1⟩;have R1:=Ch.mod (Ch.new w _ _) m1 (by simp;omega);have M1:=((Aw.refl [xb] w).alloc _).trans m1 (λx hx=> .inl hx);have G1:=D (Hg.mod M1 (λb hb hm=>by rw[GE] at hm;rw[hm] at hb;exact bp hb));have B1:=D h1;have S1:=D s1;have HR1:=D R1;have NQ:=D M1;clear m1 h1 s1 M1 R1 Hi;by_cases ha:∃a q,l=a::q/\bs a=kAt
 .obtain⟨a,q,rfl,ha⟩:=ha;have e1:isF (bs ⟨#[97,116]⟩) (a::q)=(V,q):=Acm ha;have e2:atF (a::q)=EV q:=by show(if _ then _ else _)=_;rw[Jd ha]
  simp only[e1] at S1⊢;have Hw:=D (Ko mb q w1 xb r OH Ae (λb=>ok b/\b<w.heap.size) B1 S1 (λh=>hx h.1) (λb hb=>Hz.out b (Id _ hb)) G1 bp);have E2:=D e2;clear e1 e2 ha;go_wp2_with fail;refine Hw.mono ?_;intro e w2 he;cases hw:EV q with
  |none=>
   rw[hw] at he;obtain⟨⟨fb,rfl,hb⟩,hm⟩:=he;have Hwn:=D hw;clear hw;go_wp2;rw[E2.out,Hwn.out];exact⟨rfl,⟨fb,rfl,hb⟩,NQ.trans hm (λx hx=> .inl hx)⟩
  |some p=>
   obtain⟨b,l'⟩:=p;rw[hw] at he;obtain⟨rfl,fK,h2,s2,m2⟩:=he;have R2:=HR1.mod m2 (by simp;omega);have rc:=R2.cell;have rf:=R2.free;have rl:=R2.lt;have B2:=D h2;have S2:=D s2;have M2:=D (NQ.trans m2 (λx hx=> .inl hx));have Hwn:=D hw;obtain⟨nm,v⟩:=b;have LV:(⟨nm,v⟩:Wd).val= qH #[qE nm,iI v]:=rfl;simp only[LV];clear h2 s2 m2 hw LV R2;go_wp2_with fail;refine bodyPost_ret (v:= qH #[qE nm,iI v]) (by simp[results,results117,go_sem,rc,rf,rl]) rfl ?_;rw[E2.out,Hwn.out];exact NR B2 S2 M2 (Jf _) Ib (((Aw.refl _ _).setCell (.inl EQ) _).setCell (.inl EQ) _)
 .have e1:isF (bs ⟨#[97,116]⟩) l=(I,l):=by
   cases l with
   |nil=>rfl
   |cons a q=>exact AgF (k:=bs ⟨#[97,116]⟩) (λh=>ha ⟨a,q,rfl,h⟩)
  have e2:atF l=U (.zero,l):=by
   cases l with
   |nil=>rfl
   |cons a q=>show(if _ then _ else _)=_;rw[In (λh=>ha ⟨a,q,rfl,h⟩)]
  simp only[e1] at S1⊢;have E2:=D e2;clear e1 e2 ha;have rc:=HR1.cell;have rf:=HR1.free;have rl:=HR1.lt;go_wp2_with fail;refine bodyPost_ret (v:= qH #[qE ⟨#[]⟩,iI 0]) (by simp[results,results117,go_sem,rc,rf,rl]) rfl ?_;rw[E2.out];exact NR B1 S1 NQ (Jf _) Ib (((Aw.refl _ _).setCell (.inl EQ) _).setCell (.inl EQ) _)
structure KG where
 bb:Nat
 s:SG
 fn:Fn
 cap:Array Value
 Ao:Bool
 us:List Value
variable {f:KG} {fs:List KG}
structure FG where
 xb:Nat
 pb:Nat
 sb:Nat
 lb:Nat
 tb:Nat
 tc:Nat
 tv:List Value
 c:SG
 cs:List Value
 ob:Nat
 oc:Nat
 fr:List KG
variable {g:FG}
def F5 (l:List nU):List (ByteArray×Value):=l.map λs=>(s.name,qH #[iI s.first,iI s.size])
def GK (l:List ByteArray):List (ByteArray×Value):=l.mapIdx λi n=>(n,iI (i:Int))
def KG.Az (f:KG):List Ob:=[.Ao f.bb #[qD f.s.p (J f.us) f.s.c] 165,.row (qD f.s.p (J f.us) f.s.c) 208 1 (J f.us) f.us]
def KG.cells (f:KG):List Value:=[iJ f.bb,.func f.fn #[] f.cap,qF f.Ao]
def FG.De (g:FG):List Value:=[qI (U ⟨g.tb,J g.tv,Z⟩),.nilFunc,qF I]++g.fr.flatMap KG.cells
def FG.Az (g:FG) (x:qL) (wv:Value) (Ae:Int):List Ob:=
 [.Ao g.xb #[wv,iI Ae,iJ g.pb,.map (U g.sb),.map (U g.lb),qD (U ⟨g.ob,0,Z⟩) (J g.fr+1) g.oc,iI x.Ai] 151,
  .Ao g.pb #[qD (U ⟨g.tb,0,Z⟩) (J g.tv+1) g.tc,iI x.cells] 146,
  .Xk g.sb (I9 (F5 x.Ax)),
  .row (qD (U ⟨g.tb,0,Z⟩) (J g.tv+1) g.tc) 165 1 (J g.tv+1) (g.tv++[qD g.c.p (J g.cs) g.c.c]),
  .Xk g.lb (I9 (GK x.AA)),
  .row (qD (U ⟨g.ob,0,Z⟩) (J g.fr+1) g.oc) 205 3 (J g.fr+1) g.De,
  .row (qD g.c.p (J g.cs) g.c.c) 208 1 (J g.cs) g.cs]++g.fr.reverse.flatMap KG.Az
def FG.AeP (g:FG) (x:qL) (wv:Value) (Ae:Int):List Ob:=
 [.Ao g.xb #[wv,iI Ae,iJ g.pb,.map (U g.sb),.map Z,qD Z 0 0,iI 0] 151,
  .Ao g.pb #[qD Z 0 0,iI x.cells] 146,
  .Xk g.sb (I9 (F5 x.Ax))]
def SD (F:List (Nat×Obj)):KY->Fn->Array Value->Prop
 |.atomic,f,c=>f=.func 124/\c= #[]
 |.Ew a,f,c=>f=.func 126/\∃b,c= #[iJ b]/\(b,qK #[qF a.AX,iI a.v] 235 (0,0))∈F
 |.loop n,f,c=>f=.func 128/\∃b,c= #[iJ b]/\(b,qK #[iI n] 3 (0,0))∈F
theorem SD.sub {k:KY} {f:Fn} (h:SD F k f c) (s:∀x,x∈F->x∈E):SD E k f c:=by
 cases k with
 |atomic=>exact h
 |Ew a=>obtain⟨h0,b,h1,h2⟩:=h;exact⟨h0,b,h1,s _ h2⟩
 |loop n=>obtain⟨h0,b,h1,h2⟩:=h;exact⟨h0,b,h1,s _ h2⟩
structure Aaa (F:List (Nat×Obj)) (f:KG) (o:Fr):Prop where
 st:D8 F o.body f.us
 Ao:f.Ao=o.kind.Cm
 cl:SD F o.kind f.fn f.cap
def KX (F:List (Nat×Obj)):List KG->List Fr->Prop
 |[],os=>os=[]
 |f::fs,os=>∃o r,os=o::r/\Aaa F f o/\KX F fs r
structure aX (F:List (Nat×Obj)) (g:FG) (x:qL):Prop where
 PQ:∃ts t,x.Aa=ts++[t]/\HY F ts g.tv/\D8 F t g.cs
 frs:KX F g.fr x.Ad
theorem Aaa.sub {o:Fr} (h:Aaa F f o) (s:∀x,x∈F->x∈E):Aaa E f o:=⟨h.st.sub s,h.Ao,h.cl.sub s⟩
theorem KX.sub (h:KX F fs os) (s:∀x,x∈F->x∈E):KX E fs os:=by
 induction fs generalizing os with
 |nil=>exact h
 |cons f fs ih=>obtain⟨o,r,h1,h2,h3⟩:=h;exact⟨o,r,h1,h2.sub s,ih h3⟩
theorem KX.len (h:KX F fs os):J os=J fs:=by
 induction fs generalizing os with
 |nil=>rw[h];rfl
 |cons f fs ih=>obtain⟨o,r,rfl,_,h3⟩:=h;simp[ih h3]
theorem KX.kS (h:KX F fs os) {f:KG} {o:Fr} (k:Aaa F f o):KX F (fs++[f]) (os++[o]):=by
 induction fs generalizing os with
 |nil=>rw[h];exact⟨o,[],rfl,k,rfl⟩
 |cons f' fs ih=>obtain⟨o',r,rfl,h2,h3⟩:=h;exact⟨o',r++[o],rfl,h2,ih h3⟩
theorem KX.CF (h:KX F (fs++[f]) os):∃r o,os=r++[o]/\KX F fs r/\Aaa F f o:=by
 induction fs generalizing os with
 |nil=>obtain⟨o,r,rfl,h2,h3⟩:=h;rw[h3];exact⟨[],o,rfl,rfl,h2⟩
 |cons f' fs ih=>
  obtain⟨o',r,rfl,h2,h3⟩:=h;obtain⟨r',o,rfl,h4,h5⟩:=ih h3;exact⟨o'::r',o,rfl,⟨o',r',rfl,h2,h4⟩,h5⟩
theorem HY.sub (h:HY F ts vs) (s:∀x,x∈F->x∈E):HY E ts vs:=by
 induction ts generalizing vs with
 |nil=>exact h
 |cons t r ih=>obtain⟨sl,ws,us,h1,h2,h3,h4⟩:=h;exact⟨sl,ws,us,h1,h2.sub s,h3.sub s,ih h4⟩
theorem HY.kS (h:HY F ts vs) {t:Bj} {sl:Value} {ws:List Value} (k1:Et F sl ws) (k2:D8 F t ws):HY F (ts++[t]) (vs++[sl]):=by
 induction ts generalizing vs with
 |nil=>rw[h];exact⟨sl,ws,[],rfl,k1,k2,rfl⟩
 |cons t' r ih=>obtain⟨sl',ws',us,rfl,h2,h3,h4⟩:=h;exact⟨sl',ws',us++[sl],rfl,h2,h3,ih h4⟩
theorem aX.sub (h:aX F g x) (s:∀y,y∈F->y∈E):aX E g x:=by
 obtain⟨⟨ts,t,h1,h2,h3⟩,h4⟩:=h;exact⟨⟨ts,t,h1,h2.sub s,h3.sub s⟩,h4.sub s⟩
theorem D8.FY {t u:Bj} {us:List Value} (h:D8 F t vs) (k:D8 F u us):D8 F (t.FY u) (vs++us):=by
 induction t generalizing vs with
 |nil=>rw[h];exact k
 |set v op a b r ih=>obtain⟨p,q,rfl,h2,h3⟩:=h;exact⟨p,q++us,rfl,h2,ih h3⟩
 |get v f s a r ih=>obtain⟨p,q,rfl,h2,h3⟩:=h;exact⟨p,q++us,rfl,h2,ih h3⟩
 |put f s i a r ih=>obtain⟨p,q,rfl,h2,h3⟩:=h;exact⟨p,q++us,rfl,h2,ih h3⟩
 |out a r ih=>obtain⟨p,q,rfl,h2,h3⟩:=h;exact⟨p,q++us,rfl,h2,ih h3⟩
 |atomic b r ib ih=>obtain⟨p,q,sl,ws,rfl,h2,h3,h4,h5⟩:=h;exact⟨p,q++us,sl,ws,rfl,h2,h3,h4,ih h5⟩
 |Ew a b r ib ih=>obtain⟨p,q,sl,ws,rfl,h2,h3,h4,h5⟩:=h;exact⟨p,q++us,sl,ws,rfl,h2,h3,h4,ih h5⟩
 |loop n b r ib ih=>obtain⟨p,q,sl,ws,rfl,h2,h3,h4,h5⟩:=h;exact⟨p,q++us,sl,ws,rfl,h2,h3,h4,ih h5⟩
theorem Aq.AaZ (h:Aq w L) (hi:L[i]?=U (.Xk b o)) (o':Obj):
  Af w L {w with heap:=w.heap.setIfInBounds b o'} (L.set i (.Xk b o')):=by
 have hb:=Dp (h.get hi);refine h.swap hi ⟨rfl,rfl,rfl,EQ,λj hj hne=>?_⟩ ?_ (by simp[Ob.fp]) (λ_ hb=> .inl hb)
 .show(w.heap.setIfInBounds b o')[j]?=_;rw[Array.getElem?_setIfInBounds_ne];intro e;exact hne (by simp[Ob.fp,e])
 .show(w.heap.setIfInBounds b o')[b]?=U o';rw[Array.getElem?_setIfInBounds_self];simp[hb]
theorem TN {e:TypeId} {n:Nat} {xs:List Value} (h:Aq w (A++ .row v e 1 n xs::B)) (K:AY w (A++ .row v e 1 n xs::B) F):
  ∃E,AY w (A++B) (E++F)/\Et (E++F) v xs:=by
 have hr:w.ownsRow 0 e 1 v n xs:=h.holds _ (Jc _ (Je ..));have bS:∀b,b∈Er (A++B)->b∈Er (A++ .row v e 1 n xs::B):=λb hb=>by
  rw[Bo,Jq] at hb⊢;rw[G9,Jq];rcases hb with hb|hb
  .exact .inl hb
  .exact .inr (.inr hb)
 have K0:AY w (A++B) F:=⟨K.heap,λb o hb hl=>K.out b o hb (bS b hl)⟩;obtain⟨hl,⟨rfl,h0⟩|⟨g,cap,IZ,rfl,h1,h2,h3,h4,h5,h6⟩⟩:=hr
 .refine⟨[],K0,.inl ⟨?_,Z,0,rfl⟩⟩;exact Jn (by rw[hl,h0])
 .refine⟨[(g,qK IZ e (0,0))],AY.gJ K0 ⟨λb o hb=>?_,λb o hb hm=>?_⟩,.inr ⟨g,cap,e,IZ,?_,IR _ (GE.2 rfl),?_⟩⟩
  .rw[GE] at hb;cases hb;exact h2
  .rw[GE] at hb;cases hb;have hn:=h.Lk;rw[Bo,G9,Jv,Jv] at hn;obtain⟨_,⟨_,_,n4⟩,n5⟩:=hn;rw[Bo,Jq] at hm;have hg:g∈(Ob.row (qD (U ⟨g,0,Z⟩) n cap) e 1 n xs).fp:=by simp[Ob.fp,Value.ownBlock]
   rcases hm with hm|hm
   .exact n5 g hm g (IR _ hg) rfl
   .exact n4 g hg g hm rfl
  .rw[hl,Nat.mul_one]
  .rw[hl];exact h6.symm
structure FF (w:World) (g:FG) (x:qL) (wv:Value) (Ae:Int):Prop where
 c:∀i:Nat,w.cell? ⟨g.xb,i,Z⟩=(#[wv,iI Ae,iJ g.pb,.map (U g.sb),.map (U g.lb),qD (U ⟨g.ob,0,Z⟩) (J g.fr+1) g.oc,iI x.Ai]:Array Value)[i]?
 f:∀i:Nat,w.frozen? ⟨g.xb,i,Z⟩=I
 lt:g.xb<w.heap.size
 pc:∀i:Nat,w.cell? ⟨g.pb,i,Z⟩=(#[qD (U ⟨g.tb,0,Z⟩) (J g.tv+1) g.tc,iI x.cells]:Array Value)[i]?
 pf:∀i:Nat,w.frozen? ⟨g.pb,i,Z⟩=I
 plt:g.pb<w.heap.size
 sh:w.heap[g.sb]?=U (I9 (F5 x.Ax))
 lo:w.heap[g.lb]?=U (I9 (GK x.AA))
theorem Iz (h:Aq w (g.Az x wv Ae)):FF w g x wv Ae:=by
 have h0:=h.Ao (i:=0) rfl;have h1:=h.Ao (i:=1) rfl;exact⟨h0.cell,h0.free,h0.lt,h1.cell,h1.free,h1.lt,h.get (i:=2) rfl,h.get (i:=4) rfl⟩
structure FF0 (w:World) (g:FG) (x:qL) (wv:Value) (Ae:Int):Prop where
 c:∀i:Nat,w.cell? ⟨g.xb,i,Z⟩=(#[wv,iI Ae,iJ g.pb,.map (U g.sb),.map Z,qD Z 0 0,iI 0]:Array Value)[i]?
 f:∀i:Nat,w.frozen? ⟨g.xb,i,Z⟩=I
 lt:g.xb<w.heap.size
 pc:∀i:Nat,w.cell? ⟨g.pb,i,Z⟩=(#[qD Z 0 0,iI x.cells]:Array Value)[i]?
 pf:∀i:Nat,w.frozen? ⟨g.pb,i,Z⟩=I
 plt:g.pb<w.heap.size
 sh:w.heap[g.sb]?=U (I9 (F5 x.Ax))
theorem aw (h:Aq w (g.AeP x wv Ae)):FF0 w g x wv Ae:=by
 have h0:=h.Ao (i:=0) rfl;have h1:=h.Ao (i:=1) rfl;exact⟨h0.cell,h0.free,h0.lt,h1.cell,h1.free,h1.lt,h.get (i:=2) rfl⟩
theorem fk {b:ByteArray}:bs a=bs b<->a=b:=⟨λh=>Pa h,λh=>by rw[h]⟩
theorem Zx (n:ByteArray):∀(l:List ByteArray) (k:Nat),((l.mapIdx λi (m:ByteArray)=>(m,Value.int .i64 ((i+k:Nat):Int))).find? λp=>decide (p.1=n)).map (·.2)=if 0<=Ee l n k then U (iI (Ee l n k)) else Z
 |[],k=>rfl
 |a::l,k=>by
  rw[List.mapIdx_cons,d8];unfold Ee;by_cases h:a=n
  .subst h;rw[Jd rfl,Jd Y];simp
  .rw[In (λe=>h (Pa e))];simp only[h,decide_false];rw[<-Zx n l (k+1)];congr 3;funext i m;rw[show i+1+k=i+(k+1) by omega]
theorem uo (l:List ByteArray) (n:ByteArray):bP (GK l) n=if 0<=Bg l n then U (iI (Bg l n)) else Z:=Zx n l 0
theorem um (l:List nU) (n:ByteArray):bP (F5 l) n=(l.find? λs=>decide (bs s.name=bs n)).map λs=> qH #[iI s.first,iI s.size]:=by
 unfold bP F5;induction l with
 |nil=>rfl
 |cons a l ih=>
  rw[Jt,d8,d8];simp only[fk];by_cases h:a.name=n
  .simp[h]
  .simp only[h,decide_false];simp only[fk] at ih;exact ih
theorem uu {l:List ByteArray} (h:W.heap[b]?=U (I9 (GK l))) (n:ByteArray):(Instr.lookup 148 (.map (U b)) (qE n) V).run prog W=.ok (qG #[iI (if 0<=Bg l n then Bg l n else 0),qF (decide (0<=Bg l n))]) W:=by
 rw[PY (k:=9) (e:=3) Fd Fd (z:= iI 0) Fd h n V,uo];by_cases hp:0<=Bg l n<;>simp[hp]
theorem Yl {l:List nU} (h:W.heap[b]?=U (I9 (F5 l))) (n:ByteArray):(Instr.lookup 147 (.map (U b)) (qE n) V).run prog W=.ok (qG #[((l.find? λs=>decide (bs s.name=bs n)).map λs=>qH #[iI s.first,iI s.size]).getD (qH #[iI 0,iI 0]),qF (l.find? λs=>decide (bs s.name=bs n)).isSome]) W:=by
 rw[PY (k:=9) (e:=200) Fd Fd (z:= qH #[iI 0,iI 0]) Fd h n V,um];simp
theorem ZP {s:ByteArray} (h0:¬s.size=0):s.toList.isEmpty=I:=by
 cases h:s.toList with
 |nil=>rw[ByteArray.toList_eq] at h;exact Jk ((Bt s).symm.trans (JM List.length h)) h0
 |cons a l=>rfl
theorem Ah1 {l:List ByteArray} (h:W.heap[b]?=U (I9 (GK l))) (ty:TypeId):(Builtin.len_ #[148] ty #[.map (U b)]).run prog W=.ok (iI (J l)) W:=by
 have hl:(GK l).length=J l:=by simp[GK]
 unfold I9 at h;have hu:prog.underlying 148=U (.map 9 3):=Fd
 simp[Builtin.len_,run_underlying hu,MapKept.run_getObj_map h,goInt,Result.andThen,Zz,hl]
theorem l0 (l:List ByteArray) (n:ByteArray):GK (l++[n])=GK l++[(n,iI (J l:Int))]:=by simp[GK,List.mapIdx_append]
theorem Ahe {l:List ByteArray} (h:W.heap[b]?=U (I9 (GK l))) (n:ByteArray) (hp:¬0<=Bg l n):(Instr.mapUpdate 148 (.map (U b)) (qE n) (iI (J l))).run prog W=.ok () {W with heap:=W.heap.setIfInBounds b (I9 (GK (l++[n])))}:=by
 rw[l0];exact Nc (k:=9) (e:=3) Fd Fd h n _ (by rw[uo,In hp])
def aY (res:Except Int At) (Ae:Int) (w:World) (e:Ending) (w':World):Prop:=match res with
 |.error c=>Kf [] c Ae w e w'
 |.ok a=>e= qJ (qH #[qF a.AX,iI a.v])/\Aw [] w w'
theorem LY (a:Wd) (w:World) (g:FG) (x:qL) (wv:Value) (Ae:Int) (h:Aq w (g.Az x wv Ae)):
  Calls prog 115 #[iJ g.xb,a.val] w (aY (x.CC a) Ae w):=by
 obtain⟨hc,hf,hlt,_,_,_,_,Ue⟩:=Iz h;obtain⟨nm,v⟩:=a;have LV:(⟨nm,v⟩:Wd).val= qH #[qE nm,iI v]:=rfl;rw[LV];clear LV h;by_cases h0:nm.size=0
 .have hr:x.CC ⟨nm,v⟩=.ok ⟨I,v⟩:=by unfold qL.CC;exact Jd h0
  have bV:=ByteArray.ext (jH h0);have Hr:=D hr;subst bV;clear hr h0;go_enter func115,ntmps115;go_wp2_with fail;refine bodyPost_ret (v:= qH #[qF I,iI v]) (by simp[results,results115,go_sem]) rfl ?_;rw[Hr.out];exact⟨rfl,((Aw.refl _ _).alloc _).alloc _⟩
 .have bV:=ZP h0;have GY:∀W,W.heap[g.lb]?=U (I9 (GK x.AA))->(Instr.lookup 148 (.map (U g.lb)) (qE nm) V).run prog W=.ok (qG #[iI (if 0<=Bg x.AA nm then Bg x.AA nm else 0),qF (decide (0<=Bg x.AA nm))]) W:=λW h=>uu h nm
  have AF:x.CC ⟨nm,v⟩=if 0<=Bg x.AA nm then .ok ⟨V,Bg x.AA nm⟩ else .error 4:=by unfold qL.CC;exact In h0
  have Hres:=D AF;clear AF h0;by_cases hp:0<=Bg x.AA nm
  .have Hr:=D (show x.CC ⟨nm,v⟩=.ok ⟨V,Bg x.AA nm⟩ by rw[Hres.out,Jd hp]);rw[Jd hp,JC hp] at GY;clear hp Hres;obtain⟨k,hk⟩:∃k,k=Bg x.AA nm:=⟨_,rfl⟩;rw[<-hk] at GY Hr;clear hk;go_enter func115,ntmps115;go_upto_region 3 with fail
   refine AG [] 11 (λW=>W.cell? ⟨g.xb,4,Z⟩=U (.map (U g.lb))/\W.heap[g.lb]?=U (I9 (GK x.AA))/\W.cell? ⟨w.heap.size,0,Z⟩=U (qE nm)) ?_ ?_
   .exact mbH
   repeat
    refine Kg (v:= ?_) rfl rfl rfl (λW hW=>?_) ?_;rotate_left
    .obtain⟨s1,s2,s3⟩:=hW;have hl:=GY W s2;go_simp;rfl
    simp only[FL]
   refine AJ rfl (λK hK=>?_);go_simp;refine hK _ _ (λh=>Jk rfl h) ?_;clear hK;simp only[BO];go_wp2_with fail;refine bodyPost_ret (v:= qH #[qF V,iI k]) (by simp[results,results115,go_sem]) rfl ?_;rw[Hr.out];exact⟨rfl,(((Aw.refl _ _).alloc _).alloc _).drew⟩
  .have Hr:=D (show x.CC ⟨nm,v⟩=.error 4 by rw[Hres.out,In hp]);rw[In hp,Ju hp] at GY;clear hp Hres;go_enter func115,ntmps115;go_upto_region 3 with fail
   refine AG [] 11 (λW=>W.cell? ⟨g.xb,4,Z⟩=U (.map (U g.lb))/\W.heap[g.lb]?=U (I9 (GK x.AA))/\W.cell? ⟨w.heap.size,0,Z⟩=U (qE nm)) ?_ ?_
   .exact mbH
   repeat
    refine Kg (v:= ?_) rfl rfl rfl (λW hW=>?_) ?_;rotate_left
    .obtain⟨s1,s2,s3⟩:=hW;have hl:=GY W s2;go_simp;rfl
    simp only[FL]
   refine AJ rfl (λK hK=>?_);go_simp;refine hK _ _ (λh=>Jk rfl h) ?_;clear hK;simp only[BO];go_wp2_with fail;refine(AO _ _ _).mono ?_;rintro e w1 ⟨⟨fb,rfl,hb⟩,hm⟩;go_wp2;rw[Hr.out];exact⟨rfl,⟨fb,rfl,hb⟩,((((Aw.refl _ _).alloc _).alloc _).drew).Aj hm⟩
def tx (res:Except Int (Int×Int×At)) (Ae:Int) (w:World) (e:Ending) (w':World):Prop:=match res with
 |.error c=>Kf [] c Ae w e w'
 |.ok (f,z,a)=>e= qJ (qH #[iI f,iI z,qF a.AX,iI a.v])/\Aw [] w w'
theorem Ks (w:World) (o:Obj):(w.alloc o).heap.size=w.heap.size+1:=QT _
theorem mL {q:Obj} (h:w.heap[b]?=U o):((w.alloc p).alloc q).heap[b]?=U o:=(((Aw.refl [] w).alloc p).alloc q).heap h EQ
theorem Ru (h:w.heap[b]?=U o):(w.alloc p).heap[b]?=U o:=((Aw.refl [] w).alloc p).heap h EQ
theorem eN (n:ByteArray) (a:Wd) (w:World) (g:FG) (x:qL) (wv:Value) (Ae:Int) (h:Aq w (g.Az x wv Ae)):
  Calls prog 119 #[iJ g.xb,qE n,a.val] w (tx (x.cell n a) Ae w):=by
 obtain⟨hc,hf,hlt,_,_,_,IK,Ue⟩:=Iz h;have H:=D h;have GY:=Yl (mL (p:= qK #[qE a.name,iI a.v] 230) (q:= qK #[iI 0,iI 0,qF I,iI 0] 241) IK) n;have LV:a.val= qH #[qE a.name,iI a.v]:=rfl;have AF:x.cell n a=match x.Ax.find? (λs=>decide (bs s.name=bs n)) with
  |none=> .error 4
  |some s=>match x.CC a with
   |.error c=> .error c
   |.ok a=> .ok (s.first,s.size,a):=rfl
 have Hres:=D AF;have Ha:=D (λW (hm:Aw [] w W)=>LY a W g x wv Ae (h.mod hm EQ));rw[LV] at Ha⊢;have rR:g.xb<w.heap.size+1:=Y
 have Ais:g.xb<w.heap.size+1+1:=Y
 clear LV AF h IK Ue;cases Wx:x.Ax.find? (λs=>decide (bs s.name=bs n)) with
 |none=>
  rw[Wx] at GY Hres;have Hr:=D (show x.cell n a=.error 4 from Hres.out);simp only[jL,QZ,QD] at GY;clear Wx Hres;go_enter func119,ntmps119;go_wp2_with fail;refine(AO _ _ _).mono ?_;rintro e w1 ⟨⟨fb,rfl,hb⟩,hm⟩;go_wp2;rw[Hr.out];exact⟨rfl,⟨fb,rfl,hb⟩,((((Aw.refl _ _).alloc _).alloc _).alloc _).Aj hm⟩
 |some s=>
  rw[Wx] at GY Hres;have Hr:=D (show x.cell n a=match x.CC a with|.error c=> .error c|.ok a=> .ok (s.first,s.size,a) from Hres.out);simp only[jK,Qq,QQ] at GY;clear Wx Hres;go_enter func119,ntmps119;go_upto_region 4 with fail
  refine AG [6] 8 (λW=>W.cell? ⟨w.heap.size,0,Z⟩=U (qE a.name)/\W.cell? ⟨w.heap.size,1,Z⟩=U (iI a.v)/\W.cell? ⟨w.heap.size+1+1,0,Z⟩=U (iI s.first)/\W.cell? ⟨w.heap.size+1+1,1,Z⟩=U (iI s.size)) ?_ ?_
  .exact⟨by go_simp,by go_simp,by go_simp,by go_simp⟩
  refine Dr ?_;intro K hK;have ZY:=D (((((Aw.refl [] w).alloc (qK #[qE a.name,iI a.v] 230)).alloc (qK #[iI 0,iI 0,qF I,iI 0] 241)).alloc (qK #[iI s.first,iI s.size] 200)).drew);refine(Ha _ ZY).mono ?_;intro e w1 he;unfold aY at he;cases ha:x.CC a with
  |error c=>
   rw[ha] at he;obtain⟨⟨fb,rfl,hb⟩,hm⟩:=he;have ID:=D (show x.cell n a=.error c by rw[Hr.out,ha]);clear ha;rw[ID.out];exact⟨rfl,⟨fb,rfl,hb⟩,ZY.Aj hm⟩
  |ok b=>
   rw[ha] at he;obtain⟨rfl,hm⟩:=he;have ID:=D (show x.cell n a=.ok (s.first,s.size,b) by rw[Hr.out,ha]);have B1:=((((Ch.new w _ _).alloc _).alloc _).drew).mod hm EQ;have B2:Ch w1 (w.heap.size+1) #[iI 0,iI 0,qF I,iI 0] 241:=by
    have:=Ch.new (w.alloc (qK #[qE a.name,iI a.v] 230)) #[iI 0,iI 0,qF I,iI 0] 241;rw[show(w.alloc (qK #[qE a.name,iI a.v] 230)).heap.size=w.heap.size+1 from QT _] at this;exact((this.alloc _).drew).mod hm EQ
   have B3:Ch w1 (w.heap.size+1+1) #[iI s.first,iI s.size] 200:=by
    have:=Ch.new ((w.alloc (qK #[qE a.name,iI a.v] 230)).alloc (qK #[iI 0,iI 0,qF I,iI 0] 241)) #[iI s.first,iI s.size] 200;rw[show((w.alloc (qK #[qE a.name,iI a.v] 230)).alloc (qK #[iI 0,iI 0,qF I,iI 0] 241)).heap.size=w.heap.size+1+1 by rw[Ks,Ks]] at this;exact this.drew.mod hm EQ
   refine hK _ w1 (λ_=>⟨B1.cell 0,B1.cell 1,B3.cell 0,B3.cell 1⟩) ?_;clear hK ha;have rc:=B2.cell;have rf:=B2.free;have rl:=B2.lt;clear B1 B2 B3;refine Dr ?_;intro K hK;refine hK _ _ (λh=>Jk rfl h) ?_;clear hK;simp only[BO];go_wp2_with fail;refine bodyPost_ret (v:= qH #[iI s.first,iI s.size,qF b.AX,iI b.v]) (by simp[results,results119,go_sem,rc,rf,rl]) rfl ?_;rw[ID.out];exact⟨rfl,(((((ZY.Aj hm).setCell (.inr (JJ _)) _).setCell (.inr (JJ _)) _).setCell (.inr (JJ _)) _).setCell (.inr (JJ _)) _)⟩
def tm (res:Except Int (Int×qL)) (g:FG) (x:qL) (wv:Value) (Ae:Int) (w:World) (e:Ending) (w':World):Prop:=match res with
 |.error c=>Kf [] c Ae w e w'
 |.ok (v,y)=>e= qJ (iI v)/\Af w (g.Az x wv Ae) w' (g.Az y wv Ae)
theorem aq (n:ByteArray) (w:World) (g:FG) (x:qL) (wv:Value) (Ae:Int) (h:Aq w (g.Az x wv Ae)):
  Calls prog 116 #[iJ g.xb,qE n] w (tm (x.Df n) g x wv Ae w):=by
 obtain⟨hc,hf,hlt,_,_,_,IK,Ue⟩:=Iz h;have GY:=Yl IK n;have AF:x.Df n=if (x.Ax.find? λs=>decide (bs s.name=bs n)).isSome then .error 4 else if 0<=Bg x.AA n then .ok (Bg x.AA n,x) else if J x.AA=4 then .error 5 else .ok (J x.AA,{x with AA:=x.AA++[n]}):=rfl
 have H:=D h;have Hres:=D AF;have Hlo:=D Ue;clear h AF Ue IK;cases Wx:x.Ax.find? (λs=>decide (bs s.name=bs n)) with
 |some s=>
  rw[Wx] at GY Hres;have Hr:=D (show x.Df n=.error 4 from Hres.out);simp only[jK,Qq,QQ] at GY;clear Wx Hres;exact maW
 |none=>
  rw[Wx] at GY Hres;simp only[jL,QZ,QD] at GY;have hlq:=uu (Ru (p:= qK #[iI 0,iI 0] 200) Hlo) n;by_cases hp:0<=Bg x.AA n
  .have Hr:=D (show x.Df n=.ok (Bg x.AA n,x) by rw[Hres.out];exact Jd hp);rw[Jd hp,JC hp] at hlq;clear hp Hres Wx;go_enter func116,ntmps116;go_wp2;go_ret;rw[Hr.out];exact⟨rfl,Af.alloc H _⟩
  .rw[In hp,Ju hp] at hlq;have Xw:=Ah1 (Ru (p:= qK #[iI 0,iI 0] 200) Hlo) 3;by_cases hl4:J x.AA=4
   .have Hr:=D (show x.Df n=.error 5 by rw[Hres.out];exact(In hp).trans (Jd hl4));clear Hres Wx hp;exact maW
   .have Hr:=D (show x.Df n=.ok (J x.AA,{x with AA:=x.AA++[n]}) by rw[Hres.out];exact(In hp).trans (In hl4));have hup:=Ahe (Ru (p:= qK #[iI 0,iI 0] 200) Hlo) n hp;have Aok:((J x.AA:Int)==4)=I:=by rw[Jh];omega
    clear Hres Wx hp hl4;go_enter func116,ntmps116;go_wp2_with fail;go_ret;rw[Hr.out];exact⟨rfl,(Af.alloc H _).trans ((Af.alloc H _).Ak.AaZ (i:=4) rfl _)⟩
def Ad3 (res:Option Int) (Ae:Int) (w:World) (e:Ending) (w':World):Prop:=match res with
 |some c=>Kf [] c Ae w e w'
 |none=>e= qJ (qG #[])/\Aw [] w w'
theorem yY (w:World) (g:FG) (x:qL) (wv:Value) (Ae:Int) (h:Aq w (g.Az x wv Ae)) (hl:J g.fr<=100):
  Calls prog 75 #[iJ g.xb] w (Ad3 (if 0<J g.fr then U 3 else Z) Ae w):=by
 obtain⟨hc,hf,hlt,_,_,_,IK,Ue⟩:=Iz h;clear h;by_cases h0:0<J g.fr
 .have h1:1<(J g.fr:Int)+1:=Y
  rw[Jd h0];clear h0;go_enter func75,ntmps75;go_wp2_with fail;refine(AO _ _ _).mono ?_;rintro e w1 ⟨⟨fb,rfl,hb⟩,hm⟩;go_wp2;exact ma3
 .have h1:¬1<(J g.fr:Int)+1:=Y
  rw[In h0];clear h0;exact mbV
theorem se (w:World) (g:FG) (x:qL) (wv:Value) (Ae:Int) (h:Aq w (g.AeP x wv Ae)):
  Calls prog 75 #[iJ g.xb] w (Ad3 Z Ae w):=by
 obtain⟨hc,hf,hlt,_,_,_,IK⟩:=aw h;clear h;exact mbV
theorem pP (g:FG):J g.De=3*(J g.fr+1):=by
 have:∀l:List KG,(l.flatMap KG.cells).length=3*J l:=by
  intro l;induction l with
  |nil=>rfl
  |cons f l ih=>rw[J2,GT,ih];simp[KG.cells];omega
 simp[FG.De,this];omega
theorem Ala (l:List KG) (j:Nat) (f:KG) (hj:l[j]?=U f) (i:Nat) (hi:i<3):(l.flatMap KG.cells)[3*j+i]?=f.cells[i]?:=by
 induction l generalizing j with
 |nil=>simp at hj
 |cons a l ih=>
  cases j with
  |zero=>
   simp only[PP,Option.some.injEq] at hj;subst hj;rw[J2,JT (by simp[KG.cells];omega)];simp
  |succ j=>
   rw[J2,JL (by simp[KG.cells];omega),show 3*(j+1)+i-J a.cells=3*j+i by simp[KG.cells];omega];exact ih j (by simpa using hj)
theorem Wg (g:FG) (j:Nat) (f:KG) (hj:g.fr[j]?=U f) (i:Nat) (hi:i<3):g.De[3*(j+1)+i]?=f.cells[i]?:=by
 unfold FG.De;rw[JL (by simp;omega),show 3*(j+1)+i - [qI (U ⟨g.tb,J g.tv,Z⟩),.nilFunc,qF I].length=3*j+i by simp;omega];exact Ala g.fr j f hj i hi
def FG.aM (g:FG) (k:Nat):Bool:=match k with
 |0=>I
 |k+1=>((g.fr[k]?).map KG.Ao).getD I
theorem gA (g:FG) (k:Nat) (hk:k<=J g.fr):∃p,g.De[k*3]?=U (qI p)/\(g.De[k*3+1]?=U .nilFunc\/∃f c,g.De[k*3+1]?=U (.func f #[] c))/\g.De[k*3+2]?=U (qF (g.aM k)):=by
 cases k with
 |zero=>exact⟨_,rfl,.inl rfl,rfl⟩
 |succ j=>
  have hj:g.fr[j]?=U g.fr[j]:=Jb Y;have h:=Wg g j _ hj;refine⟨_,(by rw[show(j+1)*3=3*(j+1)+0 by omega,h 0 Y];rfl),.inr ⟨_,_,(by rw[show(j+1)*3+1=3*(j+1)+1 by omega,h 1 Y];rfl)⟩,?_⟩;rw[show(j+1)*3+2=3*(j+1)+2 by omega,h 2 Y];simp[FG.aM,hj,KG.cells]
theorem vk (g:FG):(g.fr.any KG.Ao=V<->∃k,k<=J g.fr/\g.aM k=V):=by
 rw[Qp];constructor
 .rintro⟨f,hf,hb⟩;obtain⟨j,hj,rfl⟩:=List.getElem_of_mem hf;exact⟨j+1,Y,by simp[FG.aM,hj,hb]⟩
 .rintro⟨k,hk,hb⟩;cases k with
  |zero=>cases hb
  |succ j=>
   have hj:g.fr[j]?=U g.fr[j]:=Jb Y;exact⟨_,JO (by omega:j<J g.fr),by simpa[FG.aM,hj] using hb⟩
theorem Rz (w:World) (g:FG) (x:qL) (wv:Value) (Ae:Int) (h:Aq w (g.Az x wv Ae)) (hl:J g.fr<=100):
  Calls prog 129 #[iJ g.xb] w (Ajc (g.fr.any KG.Ao) w):=by
 obtain⟨hc,hf,hlt,_,_,_,IK,Ue⟩:=Iz h;obtain⟨tcl,tf,tl⟩:=AZ (h.row (i:=5) rfl);have Ht:=D tcl;clear h IK Ue tf tcl;go_enter func129,ntmps129;go_wp2;go_loopw [10] (λi wr=>∃k:Nat,i= iI k/\k<=J g.fr+1/\(∀j,j<k->g.aM j=I)/\Aw [] w wr) (λi _=>J g.fr+1-(intOf i).toNat);case atStart=>exact⟨0,rfl,Jo _,λj hj=>Y,Aw.refl _ _⟩
 case round=>
  obtain⟨k,rfl,hk,Da,hm⟩:=hrel;by_cases Lo:(k:Int)<(J g.fr:Int)+1
  .obtain⟨p,e0,e1,e2⟩:=gA g k Y;have cc:∀(i:Nat) (v:Value),g.De[i]?=U v->wr.cell? ⟨g.ob,i,Z⟩=U v:=λi v e=>by
    obtain⟨h1,h2⟩:=Jm.1 e;have:=Ht.out i h1;rw[h2] at this;exact AH hm this
   have c0:=cc _ _ e0;have c2:=cc _ _ e2;have Uf:0<=(k:Int):=Y
   have Hm:=D hm;have Kb:=D Da;rcases e1 with e1|⟨fn,cap,e1⟩;all_goals (
     have c1:=cc _ _ e1;clear hm Da cc e0 e1 e2 hc;cases hb:g.aM k with
     |true=>
       rw[hb] at c2;have Hr:=D ((vk g).2 ⟨k,Y,hb⟩);clear hb;go_wp2;go_ret;rw[Hr.out];exact⟨rfl,Hm.alloc _⟩
     |false=>
       rw[hb] at c2;have Hb:=D hb;clear hb;go_wp2;go_roundw;case rel=>exact⟨k+1,rfl,Y,λj hj=>by rcases J9.1 hj with h1|h1;exact Kb.out j h1;exact h1▸Hb.out,Hm.alloc _⟩
       case measure=>simp[intOf];omega)
  .have Hr:=D (show g.fr.any KG.Ao=I by
      cases ha:g.fr.any KG.Ao with
      |false=>rfl
      |true=>obtain⟨j,h1,h2⟩:=(vk g).1 ha;rw[Da j Y] at h2;cases h2)
   have Hm:=D hm;clear hm Da hc;go_wp2;go_ret;rw[Hr.out];exact⟨rfl,Hm⟩
theorem yp:(prog.info? 208).map (λi=>(i.zero,i.size,i.bytes))=U (U .nilIface,1,16):=Fd
theorem eO (T:TypeId) (u:Value) (w:World) (L:List Ob) (xb ob n oc ab ao m sc k:Nat) (sp:Option Addr) (xs:List Value) (h:Aq w L) (c5:w.cell? ⟨xb,5,Z⟩=U (qD (U ⟨ob,0,Z⟩) (n+1) oc)) (hn:n<=100)
  (uC:w.cell? ⟨ob,n*3,Z⟩=U (qI (U ⟨ab,ao,Z⟩))) (hk:L[k]?=U (.row (qD sp m sc) 208 1 m xs)) (hm:m<=1000) (hp:w.cell? ⟨ab,ao,Z⟩=U (qD sp m sc))
  (Om:∀g9 Lg w9,Af w L w9 (L.set k (.row (qD (U ⟨g9,0,Z⟩) (m+1) Lg) 208 1 (m+1) (xs++[.iface T u])))->w9.cell? ⟨ab,ao,Z⟩=U (qD sp m sc)/\w9.frozen? ⟨ab,ao,Z⟩=I/\ab<w9.heap.size):
  Calls prog 100 #[iJ xb,.iface T u] w (λe w'=>e= qJ (qG #[])/\∃g9 Lg w9,Af w L w9 (L.set k (.row (qD (U ⟨g9,0,Z⟩) (m+1) Lg) 208 1 (m+1) (xs++[.iface T u])))/\w'=w9.setCell ⟨ab,ao,Z⟩ (qD (U ⟨g9,0,Z⟩) (m+1) Lg)):=by
 obtain⟨j0,hj,LP,KZ,MH⟩:=info_parts yp;have H:=D h;have Hk:=D hk;have AlI:=D Om;have IL:0<=(n:Int):=Y
 have Ud:n<(n:Int)+1:=Y
 have Fi:True->IntKind.i64.wrap n=n:=λ_=>IntWalk.i64_in _ Y
 clear h hk Om;go_enter func100,ntmps100;go_upto_region 0 with fail
 refine AG [] 13 (λW=>W.cell? ⟨xb,5,Z⟩=U (qD (U ⟨ob,0,Z⟩) (n+1) oc)/\W.cell? ⟨ob,n*3,Z⟩=U (qI (U ⟨ab,ao,Z⟩))) ⟨c5,uC⟩ ?_;refine Dr ?_;intro K hK;refine hK _ _ (λh=>Jk rfl h) ?_;clear hK;simp only[BO];have S:=D (Af.drew H);have hlen:m+1<=maxLen:=by unfold maxLen;omega
 have AiE:(m+1)*16<=140737488355328:=Y
 clear Fi;go_wp2_with (first|(at_builtin;refine A6 16 _ _ _ j0 _ #[.iface T u] _ S.Ak Hk Eq Eq underlying165 hj LP KZ MH rfl m8 Eq Eq rfl (by simp[Value.oneCell']) hlen AiE ?_;intro g6 AI w6 Ay _;obtain⟨q1,q2,q3⟩:=AlI.out g6 AI w6 (S.trans Ay);have vG:=D (S.trans Ay);clear Ay)|fail)
 go_end0
 exact⟨rfl,g6,AI,w6,vG,rfl⟩
structure oC (g:FG):Prop where
 cs:J g.cs<=1000
 us:∀f,f∈g.fr->J f.us<=1000
 fr:J g.fr<=100
def vv (y:qL) (F:List (Nat×Obj)) (g:FG) (x:qL) (wv:Value) (Ae:Int) (w:World) (e:Ending) (w':World):Prop:=
 e= qJ (qG #[])/\∃g',g'.xb=g.xb/\Af w (g.Az x wv Ae) w' (g'.Az y wv Ae)/\aX F g' y
def FG.N0 (g:FG) (x:qL) (wv:Value) (Ae:Int):List Ob:=
 [.Ao g.xb #[wv,iI Ae,iJ g.pb,.map (U g.sb),.map (U g.lb),qD (U ⟨g.ob,0,Z⟩) (J g.fr+1) g.oc,iI x.Ai] 151,
  .Ao g.pb #[qD (U ⟨g.tb,0,Z⟩) (J g.tv+1) g.tc,iI x.cells] 146,
  .Xk g.sb (I9 (F5 x.Ax)),
  .row (qD (U ⟨g.tb,0,Z⟩) (J g.tv+1) g.tc) 165 1 (J g.tv+1) (g.tv++[qD g.c.p (J g.cs) g.c.c]),
  .Xk g.lb (I9 (GK x.AA)),
  .row (qD (U ⟨g.ob,0,Z⟩) (J g.fr+1) g.oc) 205 3 (J g.fr+1) g.De,
  .row (qD g.c.p (J g.cs) g.c.c) 208 1 (J g.cs) g.cs]
theorem N9 (g:FG) (x:qL) (wv:Value) (Ae:Int) {fs:List KG} {f:KG} (h:g.fr=fs++[f]):g.Az x wv Ae=g.N0 x wv Ae++(.Ao f.bb #[qD f.s.p (J f.us) f.s.c] 165:: .row (qD f.s.p (J f.us) f.s.c) 208 1 (J f.us) f.us::fs.reverse.flatMap KG.Az):=by
 show g.N0 x wv Ae++g.fr.reverse.flatMap KG.Az=_;rw[h,List.reverse_append];rfl
theorem OV (g:FG) (x:qL) (wv:Value) (Ae:Int) (h:g.fr=[]):g.Az x wv Ae=g.N0 x wv Ae:=by
 show g.N0 x wv Ae++g.fr.reverse.flatMap KG.Az=_;rw[h];simp
theorem AaY (l:List Value) (a b:Value):(l++[a]).set (J l) b=l++[b]:=by
 rw[Qg _ _ (Jf _)];simp
theorem RB (s:Bj->Bj) (T:TypeId) (u:Value) (w:World) (g:FG) (x:qL) (wv:Value) (Ae:Int) (F:List (Nat×Obj)) (h:Aq w (g.Az x wv Ae)) (hF:aX F g x) (hs:D8 F (s .nil) [.iface T u]) (hb:oC g):
  Calls prog 100 #[iJ g.xb,.iface T u] w (vv (x.add s) F g x wv Ae w):=by
 have hc:=(Iz h).c 5;obtain⟨tcl,_,_⟩:=AZ (h.row (i:=5) rfl);obtain⟨⟨ts,t,Vw,Th,ht⟩,XN⟩:=hF;rcases Jw g.fr with PL|⟨fs,f,PL⟩
 .have ho:x.Ad=[]:=by rw[PL] at XN;exact XN
  have e0:g.De[J g.fr*3]?=U (qI (U ⟨g.tb,J g.tv,Z⟩)):=by rw[PL];rfl
  obtain⟨e1,e2⟩:=Jm.1 e0;have uC:=tcl _ e1;rw[e2] at uC;obtain⟨tcl3,_,_⟩:=AZ (h.row (i:=3) rfl);have hp:=tcl3 (J g.tv) EQ;rw[show(g.tv++[qD g.c.p (J g.cs) g.c.c])[J g.tv]' EQ= qD g.c.p (J g.cs) g.c.c by simp] at hp;refine(eO T u w _ g.xb g.ob (J g.fr) g.oc g.tb (J g.tv) (J g.cs) g.c.c 6 g.c.p g.cs h hc hb.fr uC rfl hb.cs hp ?_).mono ?_
  .intro g9 Lg w9 Ay;obtain⟨c3,f3,l3⟩:=AZ (Ay.Ak.row (i:=3) rfl);have:=c3 (J g.tv) EQ;rw[show(g.tv++[qD g.c.p (J g.cs) g.c.c])[J g.tv]' EQ= qD g.c.p (J g.cs) g.c.c by simp] at this;exact⟨this,f3 _,l3⟩
  .rintro e w' ⟨rfl,g9,Lg,w9,Ay,rfl⟩;have yG:x.add s={x with Aa:=ts++[t.FY (s .nil)]}:=by unfold qL.add;rw[ho,Vw];simp
   have t1:=Ay.Ak.Eu (i:=3) rfl (J g.tv) EQ (qD (U ⟨g9,0,Z⟩) (J g.cs+1) Lg);rw[yG];refine⟨rfl,{g with c:=⟨U ⟨g9,0,Z⟩,Lg⟩,cs:=g.cs++[.iface T u]},rfl,?_,⟨⟨ts,_,rfl,Th,ht.FY hs⟩,XN⟩⟩;have t2:=Ay.trans t1;rw[AaY] at t2;rw[OV g x wv Ae PL] at t2⊢;rw[OV {g with c:=⟨U ⟨g9,0,Z⟩,Lg⟩,cs:=g.cs++[.iface T u]} _ wv Ae PL];have el:(g.cs++[Value.iface T u]).length=J g.cs+1:=EQ
   unfold FG.N0 at t2⊢;simp only[el];exact t2
 .rw[Jz] at PL;rw[PL] at XN;obtain⟨r,o,I7,hr,hfo⟩:=XN.CF;have hj:g.fr[J fs]?=U f:=by rw[PL];simp
  have hnl:J g.fr=J fs+1:=by rw[PL];simp
  have e0:g.De[J g.fr*3]?=U (iJ f.bb):=by
   rw[show J g.fr*3=3*(J fs+1)+0 by omega,Wg g (J fs) f hj 0 Y];rfl
  obtain⟨e1,e2⟩:=Jm.1 e0;have uC:=tcl _ e1;rw[e2] at uC;have h':=h;rw[N9 g x wv Ae PL] at h';have hp:=(h'.Ao (i:=7) rfl).cell 0;refine(eO T u w _ g.xb g.ob (J g.fr) g.oc f.bb 0 (J f.us) f.s.c 8 f.s.p f.us h' hc hb.fr uC rfl (hb.us f (by rw[PL];simp)) hp ?_).mono ?_
  .intro g9 Lg w9 Ay;have hq:=Ay.Ak.Ao (i:=7) rfl;exact⟨hq.cell 0,hq.free 0,hq.lt⟩
  .rintro e w' ⟨rfl,g9,Lg,w9,Ay,rfl⟩;have yG:x.add s={x with Ad:=r++[{o with body:=o.body.FY (s .nil)}]}:=by unfold qL.add;rw[I7];simp
   have t1:=Ay.Ak.set (i:=7) rfl 0 (qD (U ⟨g9,0,Z⟩) (J f.us+1) Lg);rw[yG];refine⟨rfl,{g with fr:=fs++[{f with s:=⟨U ⟨g9,0,Z⟩,Lg⟩,us:=f.us++[.iface T u]}]},rfl,?_,⟨⟨ts,t,Vw,Th,ht⟩,hr.kS ⟨hfo.st.FY hs,hfo.Ao,hfo.cl⟩⟩⟩;have t2:=Ay.trans t1;have el:(f.us++[Value.iface T u]).length=J f.us+1:=EQ
   have eo:FG.De {g with fr:=fs++[{f with s:=⟨U ⟨g9,0,Z⟩,Lg⟩,us:=f.us++[.iface T u]}]}=g.De:=by
    unfold FG.De;rw[PL,Nm,Nm];rfl
   have en:(fs++[({f with s:=⟨U ⟨g9,0,Z⟩,Lg⟩,us:=f.us++[.iface T u]}:KG)]).length=J g.fr:=by rw[PL];simp
   have es:FG.N0 {g with fr:=fs++[{f with s:=⟨U ⟨g9,0,Z⟩,Lg⟩,us:=f.us++[.iface T u]}]} {x with Ad:=r++[{o with body:=o.body.FY (s .nil)}]} wv Ae=g.N0 x wv Ae:=by
    unfold FG.N0;simp only[eo,en]
   rw[N9 {g with fr:=fs++[{f with s:=⟨U ⟨g9,0,Z⟩,Lg⟩,us:=f.us++[.iface T u]}]} _ wv Ae rfl,es];simp only[el];rw[N9 g x wv Ae PL];exact t2
theorem Aq.Ig (h:Aq w (A++B)) (e:TypeId) (s:Nat):Aq w (A++ .row (qD Z 0 0) e s 0 []::B):=by
 refine⟨λo ho=>?_,?_⟩
 .rcases Jq.1 ho with h1|h1
  .exact h.holds o (IR _ h1)
  .rcases Jl.1 h1 with rfl|h2
   .exact ownsRow_nil _ _ _ _
   .exact h.holds o (Jc _ h2)
 .have:=h.Lk;rw[Bo] at this⊢;exact this
theorem Af.Ig (h:Aq w (A++B)) (e:TypeId) (s:Nat):Af w (A++B) w (A++ .row (qD Z 0 0) e s 0 []::B):=
 ⟨h.Ig e s,Aw.refl _ _,λb hb=> .inl (by rw[Bo] at hb⊢;exact hb)⟩
theorem xp {S R:List Ob} (h:Af w L w' ((S++R)++[.Ao b #[qD Z 0 0] 165])):Af w L w' (S++(.Ao b #[qD Z 0 0] 165:: .row (qD Z 0 0) 208 1 0 []::R)):=by
 have p:((S++R)++[Ob.Ao b #[qD Z 0 0] 165]).Perm ((S++[Ob.Ao b #[qD Z 0 0] 165])++R):=by
  rw[Jj,Jj];exact Qi S Qh
 have t3:=h.trans (Af.Kl h.Ak p);have t4:=t3.trans (Af.Ig t3.Ak 208 1);rw[Jj] at t4;exact t4
theorem yr:(prog.info? 205).map (λi=>(i.zero,i.size,i.bytes))=U (U (qH #[qI Z,.nilFunc,qF I]),3,24):=Fd
theorem lG (g:FG) (f:KG) (ob oc:Nat):FG.De {g with ob:=ob,oc:=oc,fr:=g.fr++[f]}=g.De++f.cells:=by
 unfold FG.De;simp
theorem Un (kd:KY) (fn:Fn) (cap:Array Value) (w:World) (g:FG) (x:qL) (wv:Value) (Ae:Int) (F:List (Nat×Obj)) (h:Aq w (g.Az x wv Ae)) (hF:aX F g x) (hc:SD F kd fn cap) (hb:oC g):
  Calls prog 123 #[iJ g.xb,qF kd.Cm,.func fn #[] cap] w (vv (x.DV kd) F g x wv Ae w):=by
 obtain⟨j0,hj,LP,KZ,MH⟩:=info_parts yr;have hcx:=(Iz h).c 5;have hn:=hb.fr;have S:=D (Af.new h (qK #[qD Z 0 0] 165));have HF:=D hF;have Hc:=D hc;have hlen:J g.fr+1+1<=maxLen:=by unfold maxLen;omega
 have AiE:(J g.fr+1+1)*24<=140737488355328:=Y
 obtain⟨bk,eG⟩:∃b,b=kd.Cm:=⟨_,rfl⟩;rw[<-eG];have Hbk:=D eG;clear h hF hc hb hn eG;go_enter func123,ntmps123;go_wp2_with (first|(at_builtin;refine Kn 24 _ _ _ j0 _ #[iJ w.heap.size,.func fn #[] cap,qF bk] _ (w.heap.size+1) (Ks _ _) S.Ak (k:=5) rfl Eq Eq underlying149 hj LP KZ MH rfl Do Eq Eq rfl (by simp[Value.oneCell']) hlen AiE ?_;intro g6 AI w6 Ay _;have q1:=(Ay.Ak.Ao (i:=0) rfl).cell;have q2:=(Ay.Ak.Ao (i:=0) rfl).free;have q3:=(Ay.Ak.Ao (i:=0) rfl).lt;have vG:=D (S.trans Ay);clear Ay)|fail)
 go_end0
 refine⟨rfl,{g with ob:=g6,oc:=AI,fr:=g.fr++[⟨w.heap.size,⟨Z,0⟩,fn,cap,bk,[]⟩]},rfl,?_,?_⟩
 .have t1:=vG.trans (vG.Ak.set (i:=0) rfl 5 (qD (U ⟨g6,0,Z⟩) (J g.fr+1+1) AI));rw[N9 {g with ob:=g6,oc:=AI,fr:=g.fr++[⟨w.heap.size,⟨Z,0⟩,fn,cap,bk,[]⟩]} _ wv Ae rfl];have es:FG.N0 {g with ob:=g6,oc:=AI,fr:=g.fr++[⟨w.heap.size,⟨Z,0⟩,fn,cap,bk,[]⟩]} (x.DV kd) wv Ae=((g.N0 x wv Ae).set 5 (.row (qD (U ⟨g6,0,Z⟩) (J g.fr+1+1) AI) 205 3 (J g.fr+1+1) (g.De++(#[iJ w.heap.size,.func fn #[] cap,qF bk]).toList))).set 0 (.Ao g.xb #[wv,iI Ae,iJ g.pb,.map (U g.sb),.map (U g.lb),qD (U ⟨g6,0,Z⟩) (J g.fr+1+1) AI,iI x.Ai] 151):=by
   have en:(g.fr++[(⟨w.heap.size,⟨Z,0⟩,fn,cap,bk,[]⟩:KG)]).length=J g.fr+1:=EQ
   unfold FG.N0;rw[lG];simp only[en];rfl
  rw[es];have t2:Af w (g.Az x wv Ae) _ (((((g.N0 x wv Ae).set 5 (.row (qD (U ⟨g6,0,Z⟩) (J g.fr+1+1) AI) 205 3 (J g.fr+1+1) (g.De++(#[iJ w.heap.size,.func fn #[] cap,qF bk]).toList))).set 0 (.Ao g.xb #[wv,iI Ae,iJ g.pb,.map (U g.sb),.map (U g.lb),qD (U ⟨g6,0,Z⟩) (J g.fr+1+1) AI,iI x.Ai] 151))++g.fr.reverse.flatMap KG.Az)++[.Ao w.heap.size #[qD Z 0 0] 165]):=t1;exact xp t2
 .obtain⟨h1,h2⟩:=HF.out;exact⟨h1,h2.kS ⟨rfl,Hbk,Hc⟩⟩
structure SY (F:List (Nat×Obj)) (g:FG) (x:qL) (wv:Value) (Ae:Int) (w:World):Prop where
 Ak:Aq w (g.Az x wv Ae)
 AK:AY w (g.Az x wv Ae) F
 DU:aX F g x
theorem SY.quiet (h:SY F g x wv Ae w) (k:Aw [] w w'):SY F g x wv Ae w':=⟨h.Ak.quiet k,h.AK.quiet k,h.DU⟩
theorem SY.new (h:SY F g x wv Ae w) (o:Obj):SY ((w.heap.size,o)::F) g x wv Ae (w.alloc o):=
 ⟨(Af.alloc h.Ak o).Ak,h.AK.new h.Ak o,h.DU.sub λ_ hb=>Id _ hb⟩
def iN (F F':List (Nat×Obj)):Prop:=∀y,y∈F->y∈F'
def RW (res:Except Int qL) (F:List (Nat×Obj)) (g:FG) (x:qL) (wv:Value) (Ae:Int) (w:World) (e:Ending) (w':World):Prop:=match res with
 |.error c=>Kf [] c Ae w e w'
 |.ok y=>e= qJ (qG #[])/\∃g' F',g'.xb=g.xb/\iN F F'/\Af w (g.Az x wv Ae) w' (g'.Az y wv Ae)/\SY F' g' y wv Ae w'
theorem RA (h:vv y F g x wv Ae w e w') (S:SY F g x wv Ae w) (hm:Aw [] w0 w) (h0:Aq w0 (g.Az x wv Ae)) (hF:iN F0 F):RW (.ok y) F0 g x wv Ae w0 e w':=by
 obtain⟨rfl,g',hx,st,hf⟩:=h;exact⟨rfl,g',F,hx,hF,(Af.quiet h0 hm).trans st,⟨st.Ak,S.AK.step st,hf⟩⟩
theorem Ade (a:Wd) (w:World) (g:FG) (x:qL) (wv:Value) (Ae:Int) (F:List (Nat×Obj)) (h:SY F g x wv Ae w) (hb:oC g) (bx ba:Nat)
  (hx:(bx,qK #[iJ g.xb] 143 (0,0))∈F) (ha:(ba,qK #[qE a.name,iI a.v] 230 (0,0))∈F):
  Calls prog 121 #[iJ bx,iJ ba] w (RW (x.finish (.out a)) F g x wv Ae w):=by
 have cx:=h.AK.cell hx 0;have ca0:=h.AK.cell ha 0;have ca1:=h.AK.cell ha 1;have H:=D h;have Hb:=D hb;have HX:=D hx;have HA:=D ha;have AF:x.finish (.out a)=match x.CC a with|.error c=> .error c|.ok a=> .ok (x.add (.out a)):=rfl
 have Hres:=D AF;clear h hb hx ha AF;go_enter func121,ntmps121;go_upto_region 0 with fail
 refine AG [3,5] 7 (λW=>W.cell? ⟨bx,0,Z⟩=U (iJ g.xb)/\W.cell? ⟨ba,0,Z⟩=U (qE a.name)/\W.cell? ⟨ba,1,Z⟩=U (iI a.v)) ⟨cx,ca0,ca1⟩ ?_;refine Dr ?_;intro K hK;have S:=H.quiet (Aw.refl [] w).drew;refine(LY a _ g x wv Ae S.Ak).mono ?_;intro e w1 he;unfold aY at he;cases FU:x.CC a with
 |error c=>
  rw[FU] at he;obtain⟨⟨fb,rfl,hb⟩,hm⟩:=he;rw[Hres.out,FU];exact mby
 |ok b=>
  rw[FU] at he;obtain⟨rfl,hm⟩:=he;have S1:=S.quiet hm;have Hr:=D (show x.finish (.out a)=.ok (x.add (.out b)) by rw[Hres.out,FU]);clear FU;refine hK _ w1 (λ_=>⟨S1.AK.cell HX 0,S1.AK.cell HA 0,S1.AK.cell HA 1⟩) ?_;clear hK;refine Dr ?_;intro K hK;have S2:=S1.new (qK #[qF b.AX,iI b.v] 251);refine hK _ _ (λ_=>⟨S2.AK.cell (Id _ HX) 0,S2.AK.cell (Id _ HA) 0,S2.AK.cell (Id _ HA) 1⟩) ?_;clear hK;refine Dr ?_;intro K hK;refine(RB (.out b) _ _ _ g x wv Ae _ S2.Ak S2.DU ⟨_,[],rfl,Je ..,rfl⟩ Hb).mono ?_;intro e w3 he;have hf:=D (RA he S2 ((((Aw.refl [] w).drew).Aj hm).alloc _) H.Ak (λy hy=>Id _ hy));exact maN
theorem Adc (n:ByteArray) (a i:Wd) (w:World) (g:FG) (x:qL) (wv:Value) (Ae:Int) (F:List (Nat×Obj)) (h:SY F g x wv Ae w) (hb:oC g) (bx bn bi ba:Nat)
  (SP:(bx,qK #[iJ g.xb] 143 (0,0))∈F) (mQ:(bn,qK #[qE n] 9 (0,0))∈F) (MY:(bi,qK #[qE i.name,iI i.v] 230 (0,0))∈F) (XP:(ba,qK #[qE a.name,iI a.v] 230 (0,0))∈F):
  Calls prog 120 #[iJ bx,iJ bn,iJ bi,iJ ba] w (RW (x.finish (.put n a i)) F g x wv Ae w):=by
 have AF:x.finish (.put n a i)=match x.cell n i with
  |.error c=> .error c
  |.ok (f,z,i)=>match x.CC a with
   |.error c=> .error c
   |.ok a=> .ok (x.add (.put f z i a)):=rfl
 have H:=D h;have Hb:=D hb;have Hres:=D AF;have HX:=D SP;have HN:=D mQ;have HI:=D MY;have HA:=D XP;clear SP mQ MY XP;clear h hb AF;go_enter func120,ntmps120;go_upto_region 0 with fail
 have S:=H.quiet (Aw.refl [] w).drew;refine Cg (l:=[(0,V),(1,V),(2,V),(3,V),(5,V),(6,V),(4,I),(7,I),(8,V),(9,I),(10,V),(11,I)]) (λW=>W.cell? ⟨bx,0,Z⟩=U (iJ g.xb)/\W.cell? ⟨bn,0,Z⟩=U (qE n)/\W.cell? ⟨bi,0,Z⟩=U (qE i.name)/\W.cell? ⟨bi,1,Z⟩=U (iI i.v)/\W.cell? ⟨ba,0,Z⟩=U (qE a.name)/\W.cell? ⟨ba,1,Z⟩=U (iI a.v)) 11 ⟨S.AK.cell HX 0,S.AK.cell HN 0,S.AK.cell HI 0,S.AK.cell HI 1,S.AK.cell HA 0,S.AK.cell HA 1⟩ ?_;refine Dr ?_;intro K hK;refine(eN n i _ g x wv Ae S.Ak).mono ?_;intro e w1 he;unfold tx at he;cases hc:x.cell n i with
 |error c=>
  rw[hc] at he;obtain⟨⟨fb,rfl,hb⟩,hm⟩:=he;rw[Hres.out,hc];exact mby
 |ok p=>
  obtain⟨f,z,j⟩:=p;rw[hc] at he;obtain⟨rfl,Dk⟩:=he;have S1:=S.quiet Dk;refine hK _ w1 (λ_=>⟨S1.AK.cell HX 0,S1.AK.cell HN 0,S1.AK.cell HI 0,S1.AK.cell HI 1,S1.AK.cell HA 0,S1.AK.cell HA 1⟩) ?_;clear hK;refine Dr ?_;intro K hK;refine(LY a _ g x wv Ae S1.Ak).mono ?_;intro e w2 he;unfold aY at he;cases FU:x.CC a with
  |error c=>
   rw[FU] at he;obtain⟨⟨fb,rfl,hb⟩,hm⟩:=he;rw[Hres.out,hc];simp only[];rw[FU];exact⟨rfl,⟨fb,rfl,hb⟩,(((Aw.refl [] w).drew).Aj Dk).Aj hm⟩
  |ok b=>
   rw[FU] at he;obtain⟨rfl,Fa⟩:=he;have S2:=S1.quiet Fa;have Hr:=D (show x.finish (.put n a i)=.ok (x.add (.put f z j b)) by rw[Hres.out,hc];simp only[];rw[FU]);have HM:=D ((((Aw.refl [] w).drew).Aj Dk).Aj Fa);clear FU hc;refine hK _ w2 (λ_=>⟨S2.AK.cell HX 0,S2.AK.cell HN 0,S2.AK.cell HI 0,S2.AK.cell HI 1,S2.AK.cell HA 0,S2.AK.cell HA 1⟩) ?_;clear hK;refine Dr ?_;intro K hK;have S3:=S2.new (qK #[iI f,iI z,qF j.AX,iI j.v,qF b.AX,iI b.v] 248);refine hK _ _ (λ_=>⟨S3.AK.cell (Id _ HX) 0,S3.AK.cell (Id _ HN) 0,S3.AK.cell (Id _ HI) 0,S3.AK.cell (Id _ HI) 1,S3.AK.cell (Id _ HA) 0,S3.AK.cell (Id _ HA) 1⟩) ?_;clear hK;refine Dr ?_;intro K hK;refine(RB (.put f z j b) _ _ _ g x wv Ae _ S3.Ak S3.DU ⟨_,[],rfl,Je ..,rfl⟩ Hb).mono ?_;intro e w3 he;have hf:=D (RA he S3 (HM.alloc _) H.Ak (λy hy=>Id _ hy));exact maN
theorem Ua {v:Int} (h:x.Df n=.ok (v,y)):y.Aa=x.Aa/\y.Ad=x.Ad:=by
 exact mbf
theorem aX.cast (h:aX F g x) (e:y.Aa=x.Aa/\y.Ad=x.Ad):aX F g y:=by
 obtain⟨h1,h2⟩:=h;exact⟨by rw[e.1];exact h1,by rw[e.2];exact h2⟩
theorem eM {z:qL} (h:vv z F g y wv Ae w e w') (S:SY F g y wv Ae w) (h0:Af w0 (g.Az x wv Ae) w (g.Az y wv Ae)) (hF:iN F0 F):RW (.ok z) F0 g x wv Ae w0 e w':=by
 obtain⟨rfl,g',hx,st,hf⟩:=h;exact⟨rfl,g',F,hx,hF,h0.trans st,⟨st.Ak,S.AK.step st,hf⟩⟩
theorem Adl (n s:ByteArray) (i:Wd) (w:World) (g:FG) (x:qL) (wv:Value) (Ae:Int) (F:List (Nat×Obj)) (h:SY F g x wv Ae w) (hb:oC g) (bx bs_ bi bn:Nat)
  (SP:(bx,qK #[iJ g.xb] 143 (0,0))∈F) (Ak0:(bs_,qK #[qE s] 9 (0,0))∈F) (MY:(bi,qK #[qE i.name,iI i.v] 230 (0,0))∈F) (mQ:(bn,qK #[qE n] 9 (0,0))∈F):
  Calls prog 118 #[iJ bx,iJ bs_,iJ bi,iJ bn] w (RW (x.finish (.get n s i)) F g x wv Ae w):=by
 have AF:x.finish (.get n s i)=match x.cell s i with
  |.error c=> .error c
  |.ok (f,z,i)=>match x.Df n with
   |.error c=> .error c
   |.ok (v,y)=> .ok (y.add (.get v f z i)):=rfl
 have c1:=h.AK.cell SP 0;have c2:=h.AK.cell Ak0 0;have c3:=h.AK.cell MY 0;have c4:=h.AK.cell MY 1;have H:=D h;have Hb:=D hb;have Hres:=D AF;have HX:=D SP;have HN:=D mQ;clear h hb AF SP Ak0 MY mQ;go_enter func118,ntmps118;go_wp2_with fail;refine(eN s i _ g x wv Ae H.Ak).mono ?_;intro e w1 he;clear c1 c2 c3 c4;unfold tx at he;cases hc:x.cell s i with
 |error c=>
  rw[hc] at he;obtain⟨⟨fb,rfl,hb⟩,hm⟩:=he;have Hr:=D (show x.finish (.get n s i)=.error c by rw[Hres.out,hc]);clear hc;go_wp2;rw[Hr.out];exact ma3
 |ok p=>
  obtain⟨f,z,j⟩:=p;rw[hc] at he;obtain⟨rfl,Dk⟩:=he;have Hc:=D hc;have Hm1:=D Dk;clear hc;have S1:=D ((H.quiet Dk).new (qK #[iI f,iI z,qF j.AX,iI j.v] 241));clear Dk;go_upto_region 1 with fail
  have S:=S1.quiet (Aw.refl [] _).drew;refine Cg (l:=[(0,V),(1,V),(2,V),(4,V),(3,I),(5,V),(6,I),(7,V),(8,I)]) (λW=>W.cell? ⟨bx,0,Z⟩=U (iJ g.xb)/\W.cell? ⟨bn,0,Z⟩=U (qE n)/\W.cell? ⟨w1.heap.size,0,Z⟩=U (iI f)/\W.cell? ⟨w1.heap.size,1,Z⟩=U (iI z)/\W.cell? ⟨w1.heap.size,2,Z⟩=U (qF j.AX)/\W.cell? ⟨w1.heap.size,3,Z⟩=U (iI j.v)) 8 ⟨S.AK.cell (Id _ HX) 0,S.AK.cell (Id _ HN) 0,S.AK.cell (Je ..) 0,S.AK.cell (Je ..) 1,S.AK.cell (Je ..) 2,S.AK.cell (Je ..) 3⟩ ?_;refine Dr ?_;intro K hK;refine(aq n _ g x wv Ae S.Ak).mono ?_;intro e w2 he;unfold tm at he;cases hl:x.Df n with
  |error c=>
   rw[hl] at he;obtain⟨⟨fb,rfl,hb⟩,hm⟩:=he;have Hr:=D (show x.finish (.get n s i)=.error c by rw[Hres.out,Hc.out];simp only[];rw[hl]);rw[Hr.out];exact⟨rfl,⟨fb,rfl,hb⟩,((Hm1.alloc _).drew).Aj hm⟩
  |ok p=>
   obtain⟨v,y⟩:=p;rw[hl] at he;obtain⟨rfl,st⟩:=he;have Hr:=D (show x.finish (.get n s i)=.ok (y.add (.get v f z j)) by rw[Hres.out,Hc.out];simp only[];rw[hl]);have S2:SY _ g y wv Ae w2:=⟨st.Ak,S.AK.step st,S.DU.cast (Ua hl)⟩;have Ay:=(Af.quiet H.Ak ((Hm1.alloc _).drew)).trans st;clear hl;refine hK _ w2 (λ_=>⟨S2.AK.cell (Id _ HX) 0,S2.AK.cell (Id _ HN) 0,S2.AK.cell (Je ..) 0,S2.AK.cell (Je ..) 1,S2.AK.cell (Je ..) 2,S2.AK.cell (Je ..) 3⟩) ?_;clear hK;refine Dr ?_;intro K hK;have S3:=S2.new (qK #[iI v,iI f,iI z,qF j.AX,iI j.v] 245);refine hK _ _ (λ_=>⟨S3.AK.cell (Id _ (Id _ HX)) 0,S3.AK.cell (Id _ (Id _ HN)) 0,S3.AK.cell (Id _ (Je ..)) 0,S3.AK.cell (Id _ (Je ..)) 1,S3.AK.cell (Id _ (Je ..)) 2,S3.AK.cell (Id _ (Je ..)) 3⟩) ?_;clear hK;refine Dr ?_;intro K hK;refine(RB (.get v f z j) _ _ _ g y wv Ae _ S3.Ak S3.DU ⟨_,[],rfl,Je ..,rfl⟩ Hb).mono ?_;intro e w3 he;have hf:=D (eM he S3 (Ay.trans (Af.alloc st.Ak _)) (λy hy=>Id _ (Id _ hy)));exact maN
theorem SY.Ahu (h:SY ((b,qK c T (0,0))::F) g x wv Ae w) (hf:aX F g x) (hne:∀q,q∈F->q.1≠b) (i:Nat) (v:Value):
  SY ((b,qK (c.setIfInBounds i v) T (0,0))::F) g x wv Ae (w.setCell ⟨b,i,Z⟩ v):=by
 have hb:=h.AK.out b _ (Je ..);have hm:Aw [b] w (w.setCell ⟨b,i,Z⟩ v):=(Aw.refl [b] w).setCell (.inl EQ) v;refine⟨h.Ak.mod hm (λx hx hm=>by rw[GE] at hm;exact hb (hm▸hx)),⟨λb' o hq=>?_,λb' o hq=>?_⟩,hf.sub λ_ hy=>Id _ hy⟩
 .rcases Jl.1 hq with hq|hq
  .cases hq;exact Ch.set (c:=c) (T:=T) (h.AK.heap _ _ (Je ..)) i v
  .exact hm.heap (h.AK.heap _ _ (Id _ hq)) (by rw[GE];exact hne _ hq)
 .rcases Jl.1 hq with hq|hq
  .cases hq;exact hb
  .exact h.AK.out _ _ (Id _ hq)
theorem SY.AeA (h:SY ((b,qK c T (0,0))::F) g x wv Ae w) (st:Af w0 L w (g.Az x wv Ae)) (hb:w0.heap.size<=b) (i:Nat) (v:Value):
  Af w0 L (w.setCell ⟨b,i,Z⟩ v) (g.Az x wv Ae):=by
 have uL:=h.AK.out b _ (Je ..);have hm:Aw [b] w (w.setCell ⟨b,i,Z⟩ v):=(Aw.refl [b] w).setCell (.inl EQ) v;exact⟨st.Ak.mod hm (λx hx hm=>by rw[GE] at hm;exact uL (hm▸hx)),st.mod.trans hm (λx hx=>by rw[GE] at hx;exact .inr (hx▸hb)),st.fp⟩
theorem mU (n op:ByteArray) (a c:Wd) (w:World) (g:FG) (x:qL) (wv:Value) (Ae:Int) (F:List (Nat×Obj)) (h:SY F g x wv Ae w) (hb:oC g) (bo bx ba bc bn:Nat)
  (hbo:(bo,qK #[qE op] 9 (0,0))∈F) (SP:(bx,qK #[iJ g.xb] 143 (0,0))∈F) (XP:(ba,qK #[qE a.name,iI a.v] 230 (0,0))∈F) (VY:(bc,qK #[qE c.name,iI c.v] 230 (0,0))∈F) (mQ:(bn,qK #[qE n] 9 (0,0))∈F):
  Calls prog 114 #[iJ bo,iJ bx,iJ ba,iJ bc,iJ bn] w (RW (x.finish (.set n a op c)) F g x wv Ae w):=by
 have AF:x.finish (.set n a op c)=match x.CC a with
  |.error c=> .error c
  |.ok a=>match x.CC c with
   |.error c=> .error c
   |.ok b=>match x.Df n with
    |.error c=> .error c
    |.ok (v,y)=> .ok (y.add (.set v op a b)):=rfl
 have H:=D h;have Hb:=D hb;have Hres:=D AF;have HO:=D hbo;have HX:=D SP;have HA:=D XP;have HC:=D VY;have HN:=D mQ;clear hbo SP XP VY mQ;clear h hb AF;go_enter func114,ntmps114;go_upto_region 0 with fail
 have S:=H.quiet (Aw.refl [] w).drew;refine Cg (l:=[(0,V),(1,V),(2,V),(4,V),(5,V),(3,I),(6,I),(7,V),(8,I),(9,I)]) (λW=>W.cell? ⟨bo,0,Z⟩=U (qE op)/\W.cell? ⟨bx,0,Z⟩=U (iJ g.xb)/\W.cell? ⟨ba,0,Z⟩=U (qE a.name)/\W.cell? ⟨ba,1,Z⟩=U (iI a.v)/\W.cell? ⟨bc,0,Z⟩=U (qE c.name)/\W.cell? ⟨bc,1,Z⟩=U (iI c.v)/\W.cell? ⟨bn,0,Z⟩=U (qE n)) 9 ⟨S.AK.cell HO 0,S.AK.cell HX 0,S.AK.cell HA 0,S.AK.cell HA 1,S.AK.cell HC 0,S.AK.cell HC 1,S.AK.cell HN 0⟩ ?_;refine Dr ?_;intro K hK;refine(LY a _ g x wv Ae S.Ak).mono ?_;intro e w1 he;unfold aY at he;cases h1:x.CC a with
 |error c1=>
  rw[h1] at he;obtain⟨⟨fb,rfl,hb⟩,hm⟩:=he;rw[Hres.out,h1];exact mby
 |ok p=>
  rw[h1] at he;obtain⟨rfl,Dk⟩:=he;have S1:=S.quiet Dk;refine hK _ w1 (λ_=>⟨S1.AK.cell HO 0,S1.AK.cell HX 0,S1.AK.cell HA 0,S1.AK.cell HA 1,S1.AK.cell HC 0,S1.AK.cell HC 1,S1.AK.cell HN 0⟩) ?_;clear hK;refine Dr ?_;intro K hK;refine(LY c _ g x wv Ae S1.Ak).mono ?_;intro e w2 he;unfold aY at he;cases h2:x.CC c with
  |error c1=>
   rw[h2] at he;obtain⟨⟨fb,rfl,hb⟩,hm⟩:=he;rw[Hres.out,h1];simp only[];rw[h2];exact⟨rfl,⟨fb,rfl,hb⟩,(((Aw.refl [] w).drew).Aj Dk).Aj hm⟩
  |ok q=>
   rw[h2] at he;obtain⟨rfl,Fa⟩:=he;have S2:=S1.quiet Fa;have Hr:=D (show x.finish (.set n a op c)=match x.Df n with|.error c=> .error c|.ok (v,y)=> .ok (y.add (.set v op p q)) by rw[Hres.out,h1];simp only[];rw[h2]);have hm:=(((Aw.refl [] w).drew).Aj Dk).Aj Fa;clear h1 h2;refine hK _ w2 (λ_=>⟨S2.AK.cell HO 0,S2.AK.cell HX 0,S2.AK.cell HA 0,S2.AK.cell HA 1,S2.AK.cell HC 0,S2.AK.cell HC 1,S2.AK.cell HN 0⟩) ?_;clear hK;refine Dr ?_;intro K hK;have S3:=S2.new (qK #[iI 0,qE op,qF p.AX,iI p.v,qF q.AX,iI q.v] 238);refine hK _ _ (λ_=>⟨S3.AK.cell (Id _ HO) 0,S3.AK.cell (Id _ HX) 0,S3.AK.cell (Id _ HA) 0,S3.AK.cell (Id _ HA) 1,S3.AK.cell (Id _ HC) 0,S3.AK.cell (Id _ HC) 1,S3.AK.cell (Id _ HN) 0⟩) ?_;clear hK;refine AJ rfl (λK hK=>?_);go_simp;refine hK _ _ (λh=>Jk rfl h) ?_;clear hK;simp only[BO];have Ic:=D S3;have HM:=D (hm.alloc (qK #[iI 0,qE op,qF p.AX,iI p.v,qF q.AX,iI q.v] 238));have Vz:∀z,z∈F->z.1≠w2.heap.size:=λz hz e=>Jk (S2.AK.lt (b:=z.1) (o:=z.2) hz) Y
   have bX:=hm.size;have HNE:=D Vz;have HGE:=D bX;have cx:=S3.AK.cell (Id _ HX) 0;have cn:=S3.AK.cell (Id _ HN) 0;obtain⟨nb,Px⟩:∃b,b=w2.heap.size:=⟨_,rfl⟩;obtain⟨w3,Ln⟩:∃z,z=World.alloc w2 (qK #[iI 0,qE op,qF p.AX,iI p.v,qF q.AX,iI q.v] 238):=⟨_,rfl⟩;rw[<-Ln] at Ic HM cx cn⊢;rw[<-Px] at Ic HNE HGE⊢;clear S S1 S2 S3 hm Dk Fa Vz bX Px Ln;go_wp2_with fail;refine(aq n _ g x wv Ae Ic.Ak).mono ?_;intro e w4 he;clear cx cn;unfold tm at he;cases hl:x.Df n with
   |error c1=>
    rw[hl] at he;obtain⟨⟨fb,rfl,hb⟩,hm⟩:=he;have ID:=D (show x.finish (.set n a op c)=.error c1 by rw[Hr.out,hl]);clear hl;go_wp2;rw[ID.out];exact⟨rfl,⟨fb,rfl,hb⟩,HM.Aj hm⟩
   |ok r=>
    obtain⟨v,y⟩:=r;rw[hl] at he;obtain⟨rfl,st⟩:=he;have ID:=D (show x.finish (.set n a op c)=.ok (y.add (.set v op p q)) by rw[Hr.out,hl]);have S4:SY _ g y wv Ae w4:=⟨st.Ak,Ic.AK.step st,Ic.DU.cast (Ua hl)⟩;have Ay:=(Af.quiet H.Ak HM).trans st;have S5:=S4.Ahu (H.DU.cast (Ua hl)) HNE 0 (iI v);have vG:=D (S4.AeA Ay HGE 0 (iI v));have UA:=D S5;have cb:=S4.AK.cell (Je ..);have cf:=S4.AK.free (Je ..);have cx:=S4.AK.cell (Id _ HX) 0;have hne:=HNE.out _ HX.out;clear hl st S4 S5 Ay;go_wp2_with fail;refine(RB (.set v op p q) _ _ _ g y wv Ae _ UA.Ak UA.DU ⟨_,[],rfl,Je ..,rfl⟩ Hb).mono ?_;intro e w5 he;have hf:=D (eM he UA vG (λy hy=>Id _ hy));obtain⟨rfl,_⟩:=he;clear cb cf cx hne;go_wp2
    go_end0
    rw[ID.out];exact hf.out
theorem nh (w:World) (g:FG) (x:qL) (wv:Value) (Ae:Int) (F:List (Nat×Obj)) (h:SY F g x wv Ae w) (hb:oC g) (bx:Nat)
  (SP:(bx,qK #[iJ g.xb] 143 (0,0))∈F):
  Calls prog 122 #[iJ bx] w (RW (x.finish .atomic) F g x wv Ae w):=by
 have cx:=h.AK.cell SP 0;have H:=D h;have Hb:=D hb;clear h hb SP;go_enter func122,ntmps122;go_wp2_with fail;refine(Un .atomic _ _ _ g x wv Ae F H.Ak H.DU ⟨rfl,rfl⟩ Hb).mono ?_;exact mbo
theorem yU (n:Int) (w:World) (g:FG) (x:qL) (wv:Value) (Ae:Int) (F:List (Nat×Obj)) (h:SY F g x wv Ae w) (hb:oC g) (bx bn:Nat)
  (SP:(bx,qK #[iJ g.xb] 143 (0,0))∈F) (mQ:(bn,qK #[iI n] 3 (0,0))∈F):
  Calls prog 127 #[iJ bx,iJ bn] w (RW (x.finish (.loop n)) F g x wv Ae w):=by
 have cx:=h.AK.cell SP 0;have H:=D h;have Hb:=D hb;have HN:=D mQ;clear h hb SP mQ;go_enter func127,ntmps127;go_wp2_with fail;refine(Un (.loop n) _ _ _ g x wv Ae F H.Ak H.DU ⟨rfl,bn,rfl,HN⟩ Hb).mono ?_;exact mbo
theorem AfR (a:Wd) (w:World) (g:FG) (x:qL) (wv:Value) (Ae:Int) (F:List (Nat×Obj)) (h:SY F g x wv Ae w) (hb:oC g) (bx ba:Nat)
  (SP:(bx,qK #[iJ g.xb] 143 (0,0))∈F) (XP:(ba,qK #[qE a.name,iI a.v] 230 (0,0))∈F):
  Calls prog 125 #[iJ bx,iJ ba] w (RW (x.finish (.Ew a)) F g x wv Ae w):=by
 have cx:=h.AK.cell SP 0;have ca0:=h.AK.cell XP 0;have ca1:=h.AK.cell XP 1;have AF:x.finish (.Ew a)=match x.CC a with|.error c=> .error c|.ok a=> .ok (x.DV (.Ew a)):=rfl
 have H:=D h;have Hb:=D hb;have HX:=D SP;have Hres:=D AF;clear h hb SP XP AF;go_enter func125,ntmps125;go_wp2_with fail;refine(LY a _ g x wv Ae H.Ak).mono ?_;intro e w1 he;clear cx ca0 ca1;unfold aY at he;cases FU:x.CC a with
 |error c=>
  rw[FU] at he;obtain⟨⟨fb,rfl,hb⟩,hm⟩:=he;have Hr:=D (show x.finish (.Ew a)=.error c by rw[Hres.out,FU]);clear FU;go_wp2;rw[Hr.out];exact ma3
 |ok b=>
  rw[FU] at he;obtain⟨rfl,hm⟩:=he;have Hr:=D (show x.finish (.Ew a)=.ok (x.DV (.Ew b)) by rw[Hres.out,FU]);have S1:=(H.quiet hm).new (qK #[qF b.AX,iI b.v] 235);have cx:=(H.quiet hm).AK.cell HX 0;have hxl:=(H.quiet hm).AK.lt HX.out;have HS1:=D S1;have HM:=D (hm.alloc (qK #[qF b.AX,iI b.v] 235));clear FU hm S1;go_wp2_with fail;refine(Un (.Ew b) _ _ _ g x wv Ae _ HS1.Ak HS1.DU ⟨rfl,_,rfl,Je ..⟩ Hb).mono ?_;intro e w2 he;have hf:=D (RA he HS1 HM H.Ak (λ_ hy=>Id _ hy));obtain⟨rfl,_⟩:=he;clear cx hxl;go_wp2
  go_end0
  rw[Hr.out];exact hf.out
def Yx (k:KY) (b:Bj) (sl:Value) (w:World) (e:Ending) (w':World):Prop:=
 ∃T nb o,e= qJ (.iface T (iJ nb))/\Aw [] w w'/\w'.heap[nb]?=U o/\w.heap.size<=nb/\∀(F:List (Nat×Obj)) (ws:List Value),(nb,o)∈F->Et F sl ws->D8 F b ws->D8 F (Fr.done ⟨k,b⟩ .nil) [.iface T (iJ nb)]
theorem XW (b:Bj) (p:Option Addr) (n c:Nat) (w:World):Calls prog 124 #[qD p n c] w (Yx .atomic b (qD p n c) w):=by
 go_enter func124,ntmps124;exact maJ
theorem nD (a:At) (cb:Nat) (b:Bj) (p:Option Addr) (n c:Nat) (w:World) (h:Ch w cb #[qF a.AX,iI a.v] 235):Calls prog 126 #[qD p n c,iJ cb] w (Yx (.Ew a) b (qD p n c) w):=by
 have c0:=h.cell 0;have c1:=h.cell 1;clear h;go_enter func126,ntmps126;exact maJ
theorem cq (k:Int) (cb:Nat) (b:Bj) (p:Option Addr) (n c:Nat) (w:World) (h:Ch w cb #[iI k] 3):Calls prog 128 #[qD p n c,iJ cb] w (Yx (.loop k) b (qD p n c) w):=by
 have c0:=h.cell 0;clear h;go_enter func128,ntmps128;exact maJ
structure Rd (w0:World) (xb:Nat) (r:PV) (Ae:Int) (E:List (Nat×Obj)) (l:Ws) (w:World):Prop where
 px:∃wv,km w xb r wv Ae/\Sl w (λb=>b≠xb/\b<w0.heap.size) wv (Bp l)
 mod:Aw [xb] w0 w
 new:∀q,q∈E->w0.heap.size<=q.1/\w.heap[q.1]?=U q.2
 nd:(E.map Prod.fst).Nodup
 lt:xb<w0.heap.size
theorem Rd.quiet (h:Rd w0 xb r Ae E l w) (k:Aw [] w w'):Rd w0 xb r Ae E l w':=by
 obtain⟨⟨wv,h1,h2⟩,h3,h4,h5,h6⟩:=h;exact⟨⟨wv,h1.mod k EQ,h2.mod k (λb hb hm=>by cases hm)⟩,h3.Aj k,λq hq=>⟨(h4 q hq).1,k.heap (h4 q hq).2 EQ⟩,h5,h6⟩
theorem Rd.xq (h:Rd w0 xb r Ae E l w) (o:Obj):Rd w0 xb r Ae ((w.heap.size,o)::E) l (w.alloc o):=by
 have h':=h.quiet ((Aw.refl [] w).alloc o);refine⟨h'.px,h'.mod,λq hq=>?_,?_,h.lt⟩
 .rcases Jl.1 hq with rfl|hq
  .exact⟨h.mod.size,by show(w.heap.push o)[w.heap.size]?=U o;simp⟩
  .exact h'.new q hq
 .rw[Jt,J5];refine⟨λhm=>?_,h.nd⟩;obtain⟨q,hq,he⟩:=Qe.1 hm;have:=Dp (h.new q hq).2;simp only[] at he;omega
theorem Rd.Eb {l':Ws} (h:Rd w0 xb r Ae E l w) (k:Pc (U (v,l')) xb r Ae (λb=>b≠xb/\b<w0.heap.size) w e w'):e= qJ v/\Rd w0 xb r Ae E l' w':=by
 obtain⟨rfl,wv,h1,h2,h3⟩:=k;exact⟨rfl,⟨wv,h1,h2⟩,h.mod.trans h3 (λx hx=> .inl hx),λq hq=>⟨(h.new q hq).1,h3.heap (h.new q hq).2 (by simp;have:=(h.new q hq).1;have:=h.lt;omega)⟩,h.nd,h.lt⟩
theorem Rd.fail (h:Rd w0 xb r Ae E l w) {c:Int} (k:Kf [xb] c Ae w e w'):Kf [xb] c Ae w0 e w':=
 ⟨k.1,h.mod.trans k.2 (λx hx=> .inl hx)⟩
theorem Rd.set {E1 E2:List (Nat×Obj)} (h:Rd w0 xb r Ae (E1++(b,qK c T (0,0))::E2) l w) (i:Nat) (v:Value):
  Rd w0 xb r Ae (E1++(b,qK (c.setIfInBounds i v) T (0,0))::E2) l (w.setCell ⟨b,i,Z⟩ v):=by
 have hb:=h.new (b,qK c T (0,0)) (Jc _ (Je ..));have hm:Aw [b] w (w.setCell ⟨b,i,Z⟩ v):=(Aw.refl [b] w).setCell (.inl EQ) v;have GO:=h.nd;rw[JH,Jt,Jv,J5] at GO;have hlt:=h.lt;obtain⟨wv,h1,h2⟩:=h.px;refine⟨⟨wv,h1.mod hm (by simp;have:=hb.1;simp only[] at this;omega),h2.mod hm (λ_ hx hm=>by rw[GE] at hm;have:=hb.1;simp only[] at this;omega)⟩,h.mod.trans hm (λx hx=>by rw[GE] at hx;exact .inr (by rw[hx];exact hb.1)),λq hq=>?_,?_,hlt⟩
 .have F8:∀q:Nat×Obj,w0.heap.size<=q.1/\w.heap[q.1]?=U q.2->q.1≠b->w0.heap.size<=q.1/\(w.setCell ⟨b,i,Z⟩ v).heap[q.1]?=U q.2:=λq hq hne=>⟨hq.1,hm.heap hq.2 (by rw[GE];exact hne)⟩
  rcases Jq.1 hq with hq|hq
  .exact F8 q (h.new q (IR _ hq)) (λe=>GO.2.2 q.1 (List.mem_map_of_mem hq) b (Je ..) e)
  .rcases Jl.1 hq with rfl|hq
   .exact⟨hb.1,Ch.set (c:=c) (T:=T) hb.2 i v⟩
   .exact F8 q (h.new q (Jc _ (Id _ hq))) (λe=>GO.2.1.1 (Qe.2 ⟨q,hq,e⟩))
 .rw[JH,Jt];have:=h.nd;rwa[JH,Jt] at this
theorem Rd.Pe (h:Rd w0 xb r Ae E l w) (hb:(b,qK c T (0,0))∈E) (i:Nat) (v:Value):
  ∃E',Rd w0 xb r Ae E' l (w.setCell ⟨b,i,Z⟩ v)/\(b,qK (c.setIfInBounds i v) T (0,0))∈E'/\∀q,q∈E->q.1≠b->q∈E':=by
 obtain⟨E1,E2,rfl⟩:=List.append_of_mem hb;refine⟨_,h.set i v,Jc _ (Je ..),λq hq hne=>?_⟩;rcases Jq.1 hq with hq|hq
 .exact IR _ hq
 .rcases Jl.1 hq with rfl|hq
  .exact Jk rfl hne
  .exact Jc _ (Id _ hq)
theorem Rd.cell (h:Rd w0 xb r Ae E l w) (hb:(b,qK c T (0,0))∈E):∀i:Nat,w.cell? ⟨b,i,Z⟩=c[i]?:=Ch.cell (h.new _ hb).2
theorem Rd.free (h:Rd w0 xb r Ae E l w) (hb:(b,qK c T (0,0))∈E):∀i:Nat,w.frozen? ⟨b,i,Z⟩=I:=Ch.free (h.new _ hb).2
theorem Rd.blt {q:Nat×Obj} (h:Rd w0 xb r Ae E l w) (hb:q∈E):q.1<w.heap.size:=Dp (h.new q hb).2
theorem Rd.Pu (h:Rd w0 xb r Ae E l w) {b:Nat} {o p:Obj} (h1:(b,o)∈E) (h2:(b,p)∈E):o=p:=by
 have:=(h.new _ h1).2.symm.trans (h.new _ h2).2;simpa using this
def FG.pv (g:FG) (x:qL):PV:=⟨iJ g.pb,.map (U g.sb),.map (U g.lb),qD (U ⟨g.ob,0,Z⟩) (J g.fr+1) g.oc,iI x.Ai⟩
theorem Rd.GP (h0:SY F g x wv Ae w0) (h:Rd w0 g.xb (g.pv x) Ae E l w):
  ∃wv',SY (E++F) g x wv' Ae w/\Af w0 (g.Az x wv Ae) w (g.Az x wv' Ae):=by
 obtain⟨wv',h1,_⟩:=h.px;have st:Af w0 (g.Az x wv Ae) w (g.Az x wv' Ae):=h0.Ak.swap (i:=0) rfl (h.mod.mono (λy hy=> .inl (by simpa[Ob.fp] using hy))) h1 (by simp[Ob.fp]) (λb hb=> .inl hb);refine⟨wv',⟨st.Ak,AY.gJ (h0.AK.step st) ⟨λb o hb=>(h.new _ hb).2,λb o hb hl=>?_⟩,h0.DU.sub λ_ hy=>Jc _ hy⟩,st⟩;have h2:=(h.new _ hb).1;have h3:b∈Er (g.Az x wv Ae):=hl;have:=h0.Ak.lt b h3;simp only[] at h2;omega
theorem Rd.start (h:km w0 xb r wv Ae) (hs:Sl w0 (λb=>b≠xb) wv (Bp l)):Rd w0 xb r Ae [] l w0:=
 ⟨⟨wv,h,hs.mono λb hb ho=>⟨ho,hb⟩⟩,Aw.refl _ _,λq hq=>by simp at hq,EQ,Dp h⟩
theorem KX.any (h:KX F fs os):(os.any λf=>f.kind.Cm)=fs.any KG.Ao:=by
 induction fs generalizing os with
 |nil=>rw[h];rfl
 |cons f fs ih=>obtain⟨o,r,rfl,h2,h3⟩:=h;simp only[List.any_cons,ih h3,h2.Ao]
theorem aX.BC (h:aX F g x):x.BC=g.fr.any KG.Ao:=h.frs.any
theorem aX.ne (h:aX F g x):x.Aa≠[]:=by
 obtain⟨ts,t,h1,_,_⟩:=h.PQ;rw[h1];simp
theorem aX.EX (h:aX F g x):x.EX=J g.fr+1:=by
 unfold qL.EX;rw[In h.ne,h.frs.len]
theorem O3 (x:qL) (s:Bj->Bj):(x.add s).Ai=x.Ai:=by
 unfold qL.add;split
 .rfl
 .split<;>rfl
theorem VC {v:Int} (h:x.Df n=.ok (v,y)):y.Ai=x.Ai:=by
 unfold qL.Df at h;split at h
 .cases h
 .split at h
  .cases h;rfl
  .split at h
   .cases h
   .cases h;rfl
theorem EI (h:x.finish s=.ok y):y.Ai=x.Ai:=by
 cases s with
 |set n a op b=>
  simp only[qL.finish] at h;split at h
  .cases h
  .exact mbK
 |get n s i=>
  simp only[qL.finish] at h;exact mbK
 |put n a i=>
  simp only[qL.finish] at h;split at h
  .cases h
  .split at h
   .cases h
   .cases h;rw[O3]
 |out a=>
  simp only[qL.finish] at h;split at h
  .cases h
  .cases h;rw[O3]
 |atomic=>simp only[qL.finish] at h;cases h;rfl
 |Ew a=>
  simp only[qL.finish] at h;split at h
  .cases h
  .cases h;rfl
 |loop n=>simp only[qL.finish] at h;cases h;rfl
def PM (g:FG) (x:qL) (wv:Value) (Ae:Int):List Nat:=if x.Aa=[] then [g.xb] else Er (g.Az x wv Ae)
structure AlC (x:qL) (r:PV):Prop where
 th:x.Aa=[]
 o:r.o= qD Z 0 0
def PSt (F:List (Nat×Obj)) (g:FG) (x:qL) (wv:Value) (Ae:Int) (w:World) (r:PV):Prop:=(SY F g x wv Ae w/\r=g.pv x)\/(AlC x r/\km w g.xb r wv Ae)
theorem PSt.px (h:PSt F g x wv Ae w r):km w g.xb r wv Ae:=by
 rcases h with⟨h,rfl⟩|⟨_,h⟩
 .exact h.Ak.Ao (i:=0) rfl
 .exact h
def Ad4 (res:Except Int qL) (F:List (Nat×Obj)) (g:FG) (x:qL) (wv:Value) (Ae:Int) (w:World) (e:Ending) (w':World):Prop:=match res with
 |.error c=>Kf (PM g x wv Ae) c Ae w e w'
 |.ok y=>e= qJ (qG #[])/\∃g' F' wv',g'.xb=g.xb/\iN F F'/\Af w (g.Az x wv Ae) w' (g'.Az y wv' Ae)/\SY F' g' y wv' Ae w'
theorem A3 {c:Int} (h:Kf [g.xb] c Ae w e w'):Kf (PM g x wv Ae) c Ae w e w':=
 ⟨h.1,h.2.mono λy hy=> .inl (by
   unfold PM;split
   · exact hy
   · rw[GE] at hy;rw[hy];exact JX.2 ⟨_,Je ..,GE.2 rfl⟩)⟩
theorem Ce {c:Int} (hx:x.Aa≠[]) (h:Kf (Er (g.Az x wv Ae)) c Ae w e w'):Kf (PM g x wv Ae) c Ae w e w':=by
 unfold PM;rw[In hx];exact h
def qL.P4 (x:qL) (w:ByteArray) (s:VP):Except Int qL:=
 if x.Aa=[]\/(s.Cm=V/\x.BC=I)\/(bs w=A8/\x.BC=V) then .error 3
 else match x.finish s with
  |.error c=> .error c
  |.ok y=>if 14<y.Ai+1\/4<y.EX then .error 5 else .ok {y with Ai:=y.Ai+1}
theorem FE {w:ByteArray} {r:Ws} (h:IP w r=U s):x.Bf w r=x.P4 w s:=by
 unfold qL.Bf;rw[h];rfl
theorem Cb {w:ByteArray} {r:Ws} (h:IP w r=Z):x.Bf w r=.error 2:=by
 unfold qL.Bf;rw[h]
theorem Zb {w:ByteArray} {r:Ws} (h:bs w=IF):IP w r=Fq .out r:=by
 unfold IP;rw[h];rfl
theorem gp {w:ByteArray} {r:Ws} (h:bs w=UD):IP w r=Fq .Ew r:=by
 unfold IP;rw[h];rfl
theorem Wb {w:ByteArray} {r:Ws} (h:bs w=EZ):IP w r=Lv r:=by
 unfold IP;rw[h];rfl
theorem Xj {w:ByteArray} {r:Ws} (h:bs w=A8):IP w r=GP .atomic r:=by
 unfold IP;rw[h];rfl
theorem Mc {w:ByteArray} {r:Ws} (h:bs w=Fz):IP w r=Kk r:=by
 unfold IP;rw[h];rfl
theorem P2 {w:ByteArray} {r:Ws} (h:bs w=DR):IP w r=Md r:=by
 unfold IP;rw[h];rfl
theorem P1 {w:ByteArray} {r:Ws} (h:bs w=EF):IP w r=Mb r:=by
 unfold IP;rw[h];rfl
theorem SY.count (h:SY F g y wv Ae w) (st:Af w0 L w (g.Az y wv Ae)):
  Af w0 L (w.setCell ⟨g.xb,6,Z⟩ (iI (y.Ai+1))) (g.Az {y with Ai:=y.Ai+1} wv Ae)/\SY F g {y with Ai:=y.Ai+1} wv Ae (w.setCell ⟨g.xb,6,Z⟩ (iI (y.Ai+1))):=by
 have t:Af w (g.Az y wv Ae) (w.setCell ⟨g.xb,6,Z⟩ (iI (y.Ai+1))) (g.Az {y with Ai:=y.Ai+1} wv Ae):=h.Ak.set (i:=0) rfl 6 (iI (y.Ai+1));exact⟨st.trans t,⟨t.Ak,h.AK.step t,h.DU.PQ,h.DU.frs⟩⟩
theorem Rd.gF (h:Rd w0 xb r Ae E l w) (o:Obj):∃E',Rd w0 xb r Ae E' l (w.alloc o)/\(w.heap.size,o)∈E'/\iN E E':=
 ⟨_,h.xq o,Je ..,λ_ hy=>Id _ hy⟩
theorem Iu (h:aX F g x) (h1:s.Cm=V->g.fr.any KG.Ao=V) (h2:bs nm=A8->g.fr.any KG.Ao=I):
  x.P4 nm s=match x.finish s with
   |.error c=> .error c
   |.ok y=>if 14<y.Ai+1\/4<y.EX then .error 5 else .ok {y with Ai:=y.Ai+1}:=by
 unfold qL.P4;rw[In];rintro(h3|⟨h3,h4⟩|⟨h3,h4⟩)
 .exact h.ne h3
 .rw[h.BC,h1 h3] at h4;cases h4
 .rw[h.BC,h2 h3] at h4;cases h4
theorem Wc (h:aX F g x) (h1:(s.Cm=V/\g.fr.any KG.Ao=I)\/(bs nm=A8/\g.fr.any KG.Ao=V)):x.P4 nm s=.error 3:=by
 unfold qL.P4;rw[Jd];rw[h.BC];exact .inr h1
theorem EC (h:x.Aa=[]):x.P4 nm s=.error 3:=by
 unfold qL.P4;rw[Jd (.inl h)]
structure iP (nm:ByteArray) (ws:Ws) (mb:Nat) (w:World) (g:FG) (x:qL) (wv:Value) (Ae:Int) (F:List (Nat×Obj)) (r:PV):Prop where
 h:PSt F g x wv Ae w r
 hs:Sl w (λb=>b≠g.xb) wv (Bp ws)
 hz:∀a,a∈ws->a.size<=1000000
 hg:Gl mb w
 bp:g.xb∉eI mb
 hb:oC g
 Ay:0<=x.Ai/\x.Ai<=1000
def aV (nm:ByteArray) (ws:Ws) (w:World) (g:FG) (x:qL) (wv:Value) (Ae:Int) (F:List (Nat×Obj)):Prop:=
 Calls prog 101 #[iJ g.xb,qE nm] w (Ad4 (x.Bf nm ws) F g x wv Ae w)
theorem r8 {p q:Prop} (k:q) (h:Hid q->p:=by
  intro zk;unfold aV;have H:=D k.h;have Hz:=D k.hz;have Hg:=D k.hg;have Hb:=D k.hb;have Hk:=D hk;have HX:=D k.bp;have Ay:=k.Ay;have hmf:∀(fn:Fn) (first cap:Array Value) (w:World),(Instr.makeFunc fn first cap).run prog w=.ok (.func fn first cap) w:=λ_ _ _ _=>rfl
  have R0:=D ((Rd.start (r:=r) k.h.px k.hs).xq (qK #[iJ g.xb] 143));have hlt:=Dp k.h.px;obtain⟨bx,SP⟩:∃b,b=w.heap.size:=⟨_,rfl⟩;have Hbx:=D SP;clear SP;go_enter func101,ntmps101;have hmR:Hid ((w.heap.size,qK #[iJ g.xb] 143 (0,0))∈[(w.heap.size,qK #[iJ g.xb] 143 (0,0))]):=D (Je ..);obtain⟨E,hE⟩:∃E,E=[(w.heap.size,qK #[iJ g.xb] 143 (0,0))]:=⟨_,rfl⟩;rw[<-hE] at hmR R0;clear hE;have MX:=hmR;clear hmR
  revert H Hz Hg Hb Hk HX Ay hmf R0 hlt bx Hbx E MX
  exact zk.out):p:=h k
theorem AfK (k:iP nm ws mb w g x wv Ae F r) (hk:bs nm=IF):aV nm ws w g x wv Ae F:=by
 obtain⟨q0,q1,q2,q3,q4,q5,q6⟩:=Ft hk I I I V I I I rfl;refine r8 ?_;clear k hk;intro H Hz Hg Hb Hk HX Ay hmf hlt bx Hbx E R0 MX;obtain⟨OH,p1,s1⟩:=R0.out.px;have cb:=R0.out.cell MX 0;have nZ:=D (Ko mb ws _ g.xb r OH Ae _ p1 s1 (λh=>h.1 rfl) Hz.out (Hg.out.mod R0.out.mod (λb hb hm=>by rw[GE] at hm;rw[hm] at hb;exact HX.out hb)) HX.out);clear p1 s1;go_wp2_with fail;refine nZ.mono ?_;intro e w1 he;clear cb nZ;cases hw:EV ws with
 |none=>
  rw[hw] at he;obtain⟨⟨fb,rfl,hb⟩,hm⟩:=he;have hr:=D (Cb (x:=x) (w:=nm) (r:=ws) (by rw[Zb Hk.out];unfold Fq;rw[hw]));exact ma8
 |some p=>
  obtain⟨a,l⟩:=p;rw[hw] at he;obtain⟨rfl,R1⟩:=R0.out.Eb he;obtain⟨E2,R2,m2,more2⟩:=R1.gF (qK #[qE a.name,iI a.v] 230);have R:=D R2;have MA:=D m2;replace MX:=D (more2 _ MX);have Hw:=D hw;have LV:a.val= qH #[qE a.name,iI a.v]:=rfl;simp only[LV];clear hw R1 R2 m2 more2 he LV R0;obtain⟨ba,XP⟩:∃b,b=w1.heap.size:=⟨_,rfl⟩;obtain⟨fK,p2,s2⟩:=R.px;have cb:=R.cell MX 0;have NN:=D (DG l _ g.xb r fK Ae _ p2 s2);clear p2 s2;go_wp2_with fail;refine NN.mono ?_;intro e w3 he;clear cb;cases l with
  |cons b l2=>
   obtain⟨⟨fb,rfl,hb⟩,hm⟩:=he;have hr:=D (Cb (x:=x) (w:=nm) (r:=ws) (by rw[Zb Hk.out];unfold Fq;rw[Hw.out];rfl));exact mam
  |nil=>
   obtain⟨rfl,R3⟩:=R.Eb he;have Hr:=D (FE (x:=x) (w:=nm) (r:=ws) (s:=.out a) (by rw[Zb Hk.out];unfold Fq;rw[Hw.out];rfl));rcases H.out with⟨hS,rfl⟩|⟨hN,hP⟩;rotate_left
   .obtain⟨wvq,p3,_⟩:=R3.px;have x5:w3.cell? ⟨g.xb,5,Z⟩=U (qD Z 0 0):=(p3.cell 5).trans (JM U hN.o);have x1:w3.cell? ⟨g.xb,1,Z⟩=U (iI Ae):=p3.cell 1;have xl:g.xb<w3.heap.size:=p3.lt;have cb:=R3.cell MX 0;exact mai
   obtain⟨NO,S3,OO⟩:=R3.GP hS;have M8:=D hS.DU.ne;clear hS;obtain⟨wvq,p3,_⟩:=R3.px;have x5:w3.cell? ⟨g.xb,5,Z⟩=U (qD (U ⟨g.ob,0,Z⟩) (J g.fr+1) g.oc):=p3.cell 5;have x1:w3.cell? ⟨g.xb,1,Z⟩=U (iI Ae):=p3.cell 1;have xl:g.xb<w3.heap.size:=p3.lt;have cb:=R3.cell MX 0;have IL:((J g.fr:Int)+1==0)=I:=by rw[Jh];omega
   have Ic:=D S3;have Gm:=D OO;clear S3 OO p3 he R3 R NN;have Hp:=D (Hr.trans (Iu Ic.DU (λh=>by cases h) (λh=>by rw[Hk.out] at h;exact Jk h Do)));clear Hr;go_wp2_with fail;refine(Ade a _ g x NO Ae _ Ic Hb.out _ _ (IR _ MX) (IR _ MA)).mono ?_;intro e w4 he;clear cb x5 x1 xl IL;unfold RW at he;cases B0:x.finish (.out a) with
   |error c=>
    exact maj
   |ok y=>
    exact mae
theorem AiJ (k:iP nm ws mb w g x wv Ae F r) (hk:bs nm=UD):aV nm ws w g x wv Ae F:=by
 obtain⟨q0,q1,q2,q3,q4,q5,q6⟩:=Ft hk I I I I V I I rfl;refine r8 ?_;clear k hk;intro H Hz Hg Hb Hk HX Ay hmf hlt bx Hbx E R0 MX;obtain⟨OH,p1,s1⟩:=R0.out.px;have cb:=R0.out.cell MX 0;have nZ:=D (Ko mb ws _ g.xb r OH Ae _ p1 s1 (λh=>h.1 rfl) Hz.out (Hg.out.mod R0.out.mod (λb hb hm=>by rw[GE] at hm;rw[hm] at hb;exact HX.out hb)) HX.out);clear p1 s1;go_wp2_with fail;refine nZ.mono ?_;intro e w1 he;clear cb nZ;cases hw:EV ws with
 |none=>
  rw[hw] at he;obtain⟨⟨fb,rfl,hb⟩,hm⟩:=he;have hr:=D (Cb (x:=x) (w:=nm) (r:=ws) (by rw[gp Hk.out];unfold Fq;rw[hw]));exact ma8
 |some p=>
  obtain⟨a,l⟩:=p;rw[hw] at he;obtain⟨rfl,R1⟩:=R0.out.Eb he;obtain⟨E2,R2,m2,more2⟩:=R1.gF (qK #[qE a.name,iI a.v] 230);have R:=D R2;have MA:=D m2;replace MX:=D (more2 _ MX);have Hw:=D hw;have LV:a.val= qH #[qE a.name,iI a.v]:=rfl;simp only[LV];clear hw R1 R2 m2 more2 he LV R0;obtain⟨ba,XP⟩:∃b,b=w1.heap.size:=⟨_,rfl⟩;obtain⟨fK,p2,s2⟩:=R.px;have cb:=R.cell MX 0;have NN:=D (DG l _ g.xb r fK Ae _ p2 s2);clear p2 s2;go_wp2_with fail;refine NN.mono ?_;intro e w3 he;clear cb;cases l with
  |cons b l2=>
   obtain⟨⟨fb,rfl,hb⟩,hm⟩:=he;have hr:=D (Cb (x:=x) (w:=nm) (r:=ws) (by rw[gp Hk.out];unfold Fq;rw[Hw.out];rfl));exact mam
  |nil=>
   obtain⟨rfl,R3⟩:=R.Eb he;have Hr:=D (FE (x:=x) (w:=nm) (r:=ws) (s:=.Ew a) (by rw[gp Hk.out];unfold Fq;rw[Hw.out];rfl));rcases H.out with⟨hS,rfl⟩|⟨hN,hP⟩;rotate_left
   .obtain⟨wvq,p3,_⟩:=R3.px;have x5:w3.cell? ⟨g.xb,5,Z⟩=U (qD Z 0 0):=(p3.cell 5).trans (JM U hN.o);have x1:w3.cell? ⟨g.xb,1,Z⟩=U (iI Ae):=p3.cell 1;have xl:g.xb<w3.heap.size:=p3.lt;have cb:=R3.cell MX 0;exact mai
   obtain⟨NO,S3,OO⟩:=R3.GP hS;have M8:=D hS.DU.ne;clear hS;obtain⟨wvq,p3,_⟩:=R3.px;have x5:w3.cell? ⟨g.xb,5,Z⟩=U (qD (U ⟨g.ob,0,Z⟩) (J g.fr+1) g.oc):=p3.cell 5;have x1:w3.cell? ⟨g.xb,1,Z⟩=U (iI Ae):=p3.cell 1;have xl:g.xb<w3.heap.size:=p3.lt;have cb:=R3.cell MX 0;have IL:((J g.fr:Int)+1==0)=I:=by rw[Jh];omega
   have Ic:=D S3;have Gm:=D OO;clear S3 OO p3 he R3 R NN;have Hp:=D (Hr.trans (Iu Ic.DU (λh=>by cases h) (λh=>by rw[Hk.out] at h;exact Jk h Do)));clear Hr;go_wp2_with fail;refine(AfR a _ g x NO Ae _ Ic Hb.out _ _ (IR _ MX) (IR _ MA)).mono ?_;intro e w4 he;clear cb x5 x1 xl IL;unfold RW at he;cases B0:x.finish (.Ew a) with
   |error c=>
    exact maj
   |ok y=>
    exact mae
theorem Ac9 (k:iP nm ws mb w g x wv Ae F r) (hk:bs nm=EZ):aV nm ws w g x wv Ae F:=by
 obtain⟨q0,q1,q2,q3,q4,q5,q6⟩:=Ft hk I I I I I V I rfl;refine r8 ?_;clear k hk;intro H Hz Hg Hb Hk HX Ay hmf hlt bx Hbx E R0 MX;obtain⟨OH,p1,s1⟩:=R0.out.px;have cb:=R0.out.cell MX 0;have nZ:=D (eJ 4 mb ws _ g.xb r OH Ae _ p1 s1 (λh=>h.1 rfl) Hz.out (Hg.out.mod R0.out.mod (λb hb hm=>by rw[GE] at hm;rw[hm] at hb;exact HX.out hb)) HX.out Do);clear p1 s1;go_wp2_with fail;refine nZ.mono ?_;intro e w1 he;clear cb nZ;cases hw:Iq 4 ws with
 |none=>
  rw[hw] at he;obtain⟨⟨fb,rfl,hb⟩,hm⟩:=he;have hr:=D (Cb (x:=x) (w:=nm) (r:=ws) (by rw[Wb Hk.out];unfold Lv;rw[hw]));exact ma8
 |some p=>
  obtain⟨a,l⟩:=p;rw[hw] at he;obtain⟨rfl,R1⟩:=R0.out.Eb he;obtain⟨E2,R2,m2,more2⟩:=R1.gF (qK #[iI a] 3);have R:=D R2;have MA:=D m2;replace MX:=D (more2 _ MX);have Hw:=D hw;clear hw R1 R2 m2 more2 he R0;obtain⟨fK,p2,s2⟩:=R.px;have cb:=R.cell MX 0;have NN:=D (DG l _ g.xb r fK Ae _ p2 s2);clear p2 s2;go_wp2_with fail;refine NN.mono ?_;intro e w3 he;clear cb;cases l with
  |cons b l2=>
   obtain⟨⟨fb,rfl,hb⟩,hm⟩:=he;have hr:=D (Cb (x:=x) (w:=nm) (r:=ws) (by rw[Wb Hk.out];unfold Lv;rw[Hw.out];rfl));exact mam
  |nil=>
   obtain⟨rfl,R3⟩:=R.Eb he;have Hr:=D (FE (x:=x) (w:=nm) (r:=ws) (s:=.loop a) (by rw[Wb Hk.out];unfold Lv;rw[Hw.out];rfl));rcases H.out with⟨hS,rfl⟩|⟨hN,hP⟩;rotate_left
   .obtain⟨wvq,p3,_⟩:=R3.px;have x5:w3.cell? ⟨g.xb,5,Z⟩=U (qD Z 0 0):=(p3.cell 5).trans (JM U hN.o);have x1:w3.cell? ⟨g.xb,1,Z⟩=U (iI Ae):=p3.cell 1;have xl:g.xb<w3.heap.size:=p3.lt;have cb:=R3.cell MX 0;exact mai
   obtain⟨NO,S3,OO⟩:=R3.GP hS;have M8:=D hS.DU.ne;clear hS;obtain⟨wvq,p3,_⟩:=R3.px;have x5:w3.cell? ⟨g.xb,5,Z⟩=U (qD (U ⟨g.ob,0,Z⟩) (J g.fr+1) g.oc):=p3.cell 5;have x1:w3.cell? ⟨g.xb,1,Z⟩=U (iI Ae):=p3.cell 1;have xl:g.xb<w3.heap.size:=p3.lt;have cb:=R3.cell MX 0;have IL:((J g.fr:Int)+1==0)=I:=by rw[Jh];omega
   have Ic:=D S3;have Gm:=D OO;clear S3 OO p3 he R3 R NN;have Hp:=D (Hr.trans (Iu Ic.DU (λh=>by cases h) (λh=>by rw[Hk.out] at h;exact Jk h Do)));clear Hr;go_wp2_with fail;refine(yU a _ g x NO Ae _ Ic Hb.out _ _ (IR _ MX) (IR _ MA)).mono ?_;intro e w4 he;clear cb x5 x1 xl IL;unfold RW at he;cases B0:x.finish (.loop a) with
   |error c=>
    exact maj
   |ok y=>
    exact mae
theorem r7 (k:iP nm ws mb w g x wv Ae F r) (hk:bs nm=A8):aV nm ws w g x wv Ae F:=by
 obtain⟨q0,q1,q2,q3,q4,q5,q6⟩:=Ft hk I I I I I I V rfl;refine r8 ?_;clear k hk;intro H Hz Hg Hb Hk HX Ay hmf hlt bx Hbx E R0 MX;obtain⟨l,hl⟩:∃l,l=ws:=⟨_,rfl⟩;have R:Hid (Rd w g.xb r Ae E l _):=hl▸R0;have Hl:=D hl;clear hl R0;obtain⟨fK,p2,s2⟩:=R.px;have cb:=R.cell MX.out 0;have NN:=D (DG l _ g.xb r fK Ae _ p2 s2);clear p2 s2;go_wp2_with fail;refine NN.mono ?_;intro e w3 he;clear cb;cases l with
 |cons b l2=>
  obtain⟨⟨fb,rfl,hb⟩,hm⟩:=he;have hr:=D (Cb (x:=x) (w:=nm) (r:=ws) (by rw[Xj Hk.out,<-Hl.out];rfl));exact mam
 |nil=>
  obtain⟨rfl,R3⟩:=R.Eb he;have Hr:=D (FE (x:=x) (w:=nm) (r:=ws) (s:=.atomic) (by rw[Xj Hk.out,<-Hl.out];rfl));rcases H.out with⟨hS,rfl⟩|⟨hN,hP⟩;rotate_left
  .obtain⟨wvq,p3,_⟩:=R3.px;have x5:w3.cell? ⟨g.xb,5,Z⟩=U (qD Z 0 0):=(p3.cell 5).trans (JM U hN.o);have x1:w3.cell? ⟨g.xb,1,Z⟩=U (iI Ae):=p3.cell 1;have xl:g.xb<w3.heap.size:=p3.lt;have cb:=R3.cell MX.out 0;exact mai
  obtain⟨NO,S3,OO⟩:=R3.GP hS;have M8:=D hS.DU.ne;clear hS;obtain⟨wvq,p3,_⟩:=R3.px;have x5:w3.cell? ⟨g.xb,5,Z⟩=U (qD (U ⟨g.ob,0,Z⟩) (J g.fr+1) g.oc):=p3.cell 5;have x1:w3.cell? ⟨g.xb,1,Z⟩=U (iI Ae):=p3.cell 1;have xl:g.xb<w3.heap.size:=p3.lt;have cb:=R3.cell MX.out 0;have IL:((J g.fr:Int)+1==0)=I:=by rw[Jh];omega
  have Ic:=D S3;have Gm:=D OO;clear S3 OO p3 he R3 R NN;have Hin:=D (Rz _ g x NO Ae Ic.Ak Hb.out.fr);go_wp2_with fail;refine Hin.mono ?_;rintro e w3b ⟨rfl,Py⟩;clear Hin;replace x5:=AH Py x5;replace x1:=AH Py x1;replace cb:=AH Py cb;have AcF:=Py.size;replace xl:g.xb<w3b.heap.size:=Y
  have Xv:=D (Gm.trans (Af.quiet Ic.Ak Py));have mx:=D (Ic.quiet Py);clear Gm Ic Py AcF;have Gm:=Xv;have Ic:=mx;clear Xv mx;cases ES:g.fr.any KG.Ao with
  |true=>
   have vJ:=D ES;clear ES;have hr:=D (Hr.trans (Wc Ic.DU (by exact .inr ⟨Hk.out,vJ⟩)));go_wp2_with fail;refine(AO _ _ _).mono ?_;rintro e w5 ⟨⟨fb,rfl,hb⟩,hm⟩;exact mar
  |false=>
   have vJ:=D ES;clear ES;have Hp:=D (Hr.trans (Iu Ic.DU (λh=>by cases h) (λ_=>vJ.out)));clear Hr vJ;go_wp2_with fail;refine(nh _ g x NO Ae _ Ic Hb.out _ (IR _ MX.out)).mono ?_;intro e w4 he;clear cb x5 x1 xl IL;unfold RW at he;cases B0:x.finish (.atomic) with
   |error c=>
    exact maj
   |ok y=>
    rw[B0] at he;obtain⟨rfl,g',F',DT,Ef,V7,S4⟩:=he;have iU:=EI B0;have hr:x.Bf nm ws=if 14<y.Ai+1\/4<y.EX then .error 5 else .ok {y with Ai:=y.Ai+1}:=by rw[Hp.out,B0]
    rw[S4.DU.EX] at hr;have PB:True->wrap64 (y.Ai+1)=y.Ai+1:=λ_=>IntWalk.wrap64_in _ Y
    have f4:=Iz S4.Ak;have y6:w4.cell? ⟨g.xb,6,Z⟩=U (iI y.Ai):=DT▸f4.c 6;have y5:w4.cell? ⟨g.xb,5,Z⟩=U (qD (U ⟨g'.ob,0,Z⟩) (J g'.fr+1) g'.oc):=DT▸f4.c 5;have y1:w4.cell? ⟨g.xb,1,Z⟩=U (iI Ae):=DT▸f4.c 1;have yf:World.frozen? w4 ⟨g.xb,6,Z⟩=I:=DT▸f4.f 6;have yl:g.xb<w4.heap.size:=DT▸f4.lt;have cb:=S4.AK.cell (Ef _ (IR _ MX.out)) 0;have SP:w.heap.size≠g.xb:=λe=>by rw[e] at hlt;omega
    obtain⟨t5,S5⟩:=S4.count (Gm.trans V7);rw[DT] at t5 S5;have Uz:=D t5;have UA:=D S5;have tq:=D DT;have MF:=D Ef;have Uw:=D hr;clear B0 f4 S4 V7 t5 S5 DT Ef hr iU;by_cases O2:14<y.Ai+1
    .have Lz:x.Bf nm ws=.error 5:=Uw.trans (Jd (.inl O2));have ID:=D Lz;clear Lz;exact mag
    .by_cases h4:4<J g'.fr+1
     .have r6:(4:Int)<(J g'.fr:Int)+1:=Y
      have ID:=D (Uw.trans (Jd (.inr h4)));clear h4;exact mag
     .have r6:¬(4:Int)<(J g'.fr:Int)+1:=Y
      have ID:=D (Uw.trans (In (λh=>h.elim O2 h4)));clear h4;go_wp2
      go_end0
      rw[ID.out];exact⟨rfl,g',F',NO,tq,λy hy=>MF.out y (Jc _ hy),Uz,UA⟩
structure Ku where
 v1:Value
 v2:Value
 p1:Option Nat
 p2:Option Nat
 p3:Option Nat
def ot:Option Nat->Value
 |none=>undef
 |some b=> iJ b
def Ku.P9 (i1 i2 a1 a2:Nat) (T:Array Value) (s:Ku):Array Value:=(((T.setIfInBounds i1 s.v1).setIfInBounds i2 s.v2).setIfInBounds a1 (ot s.p1)).setIfInBounds a2 (ot s.p2)
def Ku.p8 (i1 i2 a1 a2 a3:Nat) (T:Array Value) (s:Ku):Array Value:=(Ku.P9 i1 i2 a1 a2 T s).setIfInBounds a3 (ot s.p3)
def uh (l:Ws):Option (Value×Ws):=(dJ l).map λp=>(qE p.1,p.2)
def W4 (l:Ws):Option (Value×Ws):=(EV l).map λp=>(p.1.val,p.2)
def RgC (f1 f2:Ws->Option (Value×Ws)) (ws:Ws) (c1 c2:Nat) (cs:List Nat) (s:Ku) (l:Ws):Prop:=
 (cs=[c1,c2]/\l=ws)\/(cs=[c2]/\f1 ws=U (s.v1,l))\/(cs=[]/\∃l1,f1 ws=U (s.v1,l1)/\f2 l1=U (s.v2,l))
def RgA (i:Nat) (al:List Nat) (p:Option Nat) (E:List (Nat×Obj)) (o:Obj):Prop:=(i∈al/\p=Z)\/(i∉al/\∃b,p=U b/\(b,o)∈E)
structure Uu (w0:World) (xb:Nat) (r:PV) (Ae:Int) (f1 f2:Ws->Option (Value×Ws)) (ws:Ws) (c1 c2 i1 i2 i3:Nat) (o1 o2 o3:Obj) (is:List Nat) (E0:List (Nat×Obj)) (cs al:List Nat) (s:Ku) (w:World):Prop where
 ex:∃E l,Rd w0 xb r Ae E l w/\iN E0 E/\RgC f1 f2 ws c1 c2 cs s l/\RgA i1 al s.p1 E o1/\RgA i2 al s.p2 E o2/\RgA i3 al s.p3 E o3
 nd:al.Nodup
 sub:∀i,i∈al->i∈is
 Yv:∀b,s.p1=U b->s.p2=U b->False
 iq:∀b,s.p1=U b->s.p3=U b->False
 eW:∀b,s.p2=U b->s.p3=U b->False
section
variable {w0:World} {xb:Nat} {r:PV} {Ae:Int} {f1 f2:Ws->Option (Value×Ws)} {ws:Ws} {c1 c2 i1 i2 i3:Nat} {o1 o2 o3:Obj} {is:List Nat} {E0:List (Nat×Obj)} {cs al:List Nat} {s:Ku} {w:World}
theorem RgA.same {p:Option Nat} (h:RgA i al p E o) {j:Nat} (hj:i≠j) (nb:Nat×Obj):RgA i (al.erase j) p (nb::E) o:=by
 rcases h with⟨h1,h2⟩|⟨h1,b,h2,h3⟩
 .exact .inl ⟨(List.mem_erase_of_ne hj).2 h1,h2⟩
 .exact .inr ⟨λh=>h1 ((List.mem_erase_of_ne hj).1 h),b,h2,Id _ h3⟩
theorem RgA.MQ (hd:al.Nodup) (E:List (Nat×Obj)) (o:Obj) (b:Nat):RgA i (al.erase i) (U b) ((b,o)::E) o:=
 .inr ⟨λh=>(List.Nodup.mem_erase_iff hd).1 h |>.1 rfl,b,rfl,Je ..⟩
theorem RgA.lt {p:Option Nat} (h:RgA i al p E o) (hR:Rd w0 xb r Ae E l w):p=U w.heap.size->False:=by
 rintro rfl;rcases h with⟨_,h2⟩|⟨_,b,h2,h3⟩
 .cases h2
 .cases h2;exact d7 _ (hR.blt h3)
theorem Uu.a1 (hn:i1≠i2/\i1≠i3/\i2≠i3) (h:Uu w0 xb r Ae f1 f2 ws c1 c2 i1 i2 i3 o1 o2 o3 is E0 cs al s w):Uu w0 xb r Ae f1 f2 ws c1 c2 i1 i2 i3 o1 o2 o3 is E0 cs (al.erase i1) {s with p1:=U w.heap.size} (w.alloc o1):=by
 obtain⟨⟨E,l,hR,hM,hC,h1,h2,h3⟩,nd,sub,Yv,iq,eW⟩:=h;exact⟨⟨_,l,hR.xq o1,λy hy=>Id _ (hM y hy),hC,.MQ nd E o1 _,h2.same (Ne.symm hn.1) _,h3.same (Ne.symm hn.2.1) _⟩,nd.erase _,λi hi=>sub i (jD hi),
   λb hb=>by cases hb;exact h2.lt hR,λb hb=>by cases hb;exact h3.lt hR,eW⟩
theorem Uu.a2 (hn:i1≠i2/\i1≠i3/\i2≠i3) (h:Uu w0 xb r Ae f1 f2 ws c1 c2 i1 i2 i3 o1 o2 o3 is E0 cs al s w):Uu w0 xb r Ae f1 f2 ws c1 c2 i1 i2 i3 o1 o2 o3 is E0 cs (al.erase i2) {s with p2:=U w.heap.size} (w.alloc o2):=by
 obtain⟨⟨E,l,hR,hM,hC,h1,h2,h3⟩,nd,sub,Yv,iq,eW⟩:=h;exact⟨⟨_,l,hR.xq o2,λy hy=>Id _ (hM y hy),hC,h1.same hn.1 _,.MQ nd E o2 _,h3.same (Ne.symm hn.2.2) _⟩,nd.erase _,λi hi=>sub i (jD hi),
   λb hb hc=>by cases hc;exact h1.lt hR hb,iq,λb hb=>by cases hb;exact h3.lt hR⟩
theorem Uu.a3 (hn:i1≠i2/\i1≠i3/\i2≠i3) (h:Uu w0 xb r Ae f1 f2 ws c1 c2 i1 i2 i3 o1 o2 o3 is E0 cs al s w):Uu w0 xb r Ae f1 f2 ws c1 c2 i1 i2 i3 o1 o2 o3 is E0 cs (al.erase i3) {s with p3:=U w.heap.size} (w.alloc o3):=by
 obtain⟨⟨E,l,hR,hM,hC,h1,h2,h3⟩,nd,sub,Yv,iq,eW⟩:=h;exact⟨⟨_,l,hR.xq o3,λy hy=>Id _ (hM y hy),hC,h1.same hn.2.1 _,h2.same hn.2.2 _,.MQ nd E o3 _⟩,nd.erase _,λi hi=>sub i (jD hi),
   Yv,λb hb hc=>by cases hc;exact h1.lt hR hb,λb hb hc=>by cases hc;exact h2.lt hR hb⟩
theorem Uu.OA (h:Uu w0 xb r Ae f1 f2 ws c1 c2 i1 i2 i3 o1 o2 o3 is E0 cs al s w) (hb:(b,qK c T (0,0))∈E0) (i:Nat):w.cell? ⟨b,i,Z⟩=c[i]?:=by
 obtain⟨⟨E,l,hR,hM,_⟩,_⟩:=h;exact hR.cell (hM _ hb) i
theorem Uu.done (h:Uu w0 xb r Ae f1 f2 ws c1 c2 i1 i2 i3 o1 o2 o3 is E0 [] [] s w):∃E l l1 b1 b2 b3,Rd w0 xb r Ae E l w/\iN E0 E/\f1 ws=U (s.v1,l1)/\f2 l1=U (s.v2,l)/\s.p1=U b1/\s.p2=U b2/\s.p3=U b3/\(b1,o1)∈E/\(b2,o2)∈E/\(b3,o3)∈E/\b1≠b2/\b1≠b3/\b2≠b3:=by
 obtain⟨⟨E,l,hR,hM,hC,h1,h2,h3⟩,nd,sub,Yv,iq,eW⟩:=h;rcases hC with⟨h,_⟩|⟨h,_⟩|⟨_,l1,k1,k2⟩
 .cases h
 .cases h
 rcases h1 with⟨h,_⟩|⟨_,b1,e1,m1⟩
 .cases h
 rcases h2 with⟨h,_⟩|⟨_,b2,e2,m2⟩
 .cases h
 rcases h3 with⟨h,_⟩|⟨_,b3,e3,m3⟩
 .cases h
 exact⟨E,l,l1,b1,b2,b3,hR,hM,k1,k2,e1,e2,e3,m1,m2,m3,λe=>Yv b1 e1 (e▸e2),λe=>iq b1 e1 (e▸e3),λe=>eW b2 e2 (e▸e3)⟩
theorem Uu.AdI (h:Uu w0 xb r Ae f1 f2 ws c1 c2 i1 i2 i3 o1 o2 o3 is E0 [c1,c2] al s w) (hf:f1 ws=U (v,l1)) {w':World} (hw:∀E,Rd w0 xb r Ae E ws w->Rd w0 xb r Ae E l1 w'):Uu w0 xb r Ae f1 f2 ws c1 c2 i1 i2 i3 o1 o2 o3 is E0 [c2] al {s with v1:=v} w':=by
 obtain⟨⟨E,l,hR,hM,hC,h1,h2,h3⟩,nd,sub,Yv,iq,eW⟩:=h;rcases hC with⟨_,rfl⟩|⟨h,_⟩|⟨h,_⟩
 .exact⟨⟨E,l1,hw E hR,hM,.inr (.inl ⟨rfl,hf⟩),h1,h2,h3⟩,nd,sub,Yv,iq,eW⟩
 .cases h
 .cases h
theorem Uu.AdH (h:Uu w0 xb r Ae f1 f2 ws c1 c2 i1 i2 i3 o1 o2 o3 is E0 [c2] al s w) (Ug:f1 ws=U (s.v1,l)) (hf:f2 l=U (v,l1)) {w':World} (hw:∀E,Rd w0 xb r Ae E l w->Rd w0 xb r Ae E l1 w'):Uu w0 xb r Ae f1 f2 ws c1 c2 i1 i2 i3 o1 o2 o3 is E0 [] al {s with v2:=v} w':=by
 obtain⟨⟨E,l',hR,hM,hC,h1,h2,h3⟩,nd,sub,Yv,iq,eW⟩:=h;rcases hC with⟨h,_⟩|⟨_,h⟩|⟨h,_⟩
 .cases h
 .rw[Ug] at h;cases h;exact⟨⟨E,l1,hw E hR,hM,.inr (.inr ⟨rfl,_,Ug,hf⟩),h1,h2,h3⟩,nd,sub,Yv,iq,eW⟩
 .cases h
theorem Uu.at1 (h:Uu w0 xb r Ae f1 f2 ws c1 c2 i1 i2 i3 o1 o2 o3 is E0 [c1,c2] al' s w):∃E,Rd w0 xb r Ae E ws w:=by
 obtain⟨⟨E,l,hR,hM,hC,_⟩,_⟩:=h;rcases hC with⟨_,rfl⟩|⟨h,_⟩|⟨h,_⟩
 .exact⟨E,hR⟩
 .cases h
 .cases h
theorem Uu.at2 (h:Uu w0 xb r Ae f1 f2 ws c1 c2 i1 i2 i3 o1 o2 o3 is E0 [c2] al' s w):∃E l,Rd w0 xb r Ae E l w/\f1 ws=U (s.v1,l):=by
 obtain⟨⟨E,l,hR,hM,hC,_⟩,_⟩:=h;rcases hC with⟨h,_⟩|⟨_,h⟩|⟨h,_⟩
 .cases h
 .exact⟨E,l,hR,h⟩
 .cases h
theorem Uu.Aaq {c:Nat} {cs':List Nat} (h:Uu w0 xb r Ae f1 f2 ws c1 c2 i1 i2 i3 o1 o2 o3 is E0 (c::cs') al s w):(c=c1/\cs'=[c2])\/(c=c2/\cs'=[]):=by
 obtain⟨⟨E,l,hR,hM,hC,_⟩,_⟩:=h;rcases hC with⟨h,_⟩|⟨h,_⟩|⟨h,_⟩
 .cases h;exact .inl ⟨rfl,rfl⟩
 .cases h;exact .inr ⟨rfl,rfl⟩
 .cases h
end
theorem D4 {P:Program} {Bh:Array Oper} {Q:Exit->Act->World->Prop} {o:Oper} {K:Act->World->Prop} {a:Act} (ho:Bh[i]?=U o)
  (h:∀K':Act->World->Prop,(∀a' w',K a' w'->K' a' w')->if Region.wanted o (yielded Bh a.tmps)=V then Oper.wp P o a w K' Q else K' (a.put o.dst undef) w):wpOp P Bh Q i K a w:=vQ ho (h K λ_ _ h=>h)
theorem Ni (h:dJ l=U (n,l1)):∀a,a∈l1->a∈l:=by
 cases l with
 |nil=>cases h
 |cons a q=>
  cases hb:Ci (bs a) with
  |true=>rw[AjR hb] at h;cases h;exact λb hb=>Id _ hb
  |false=>rw[AjS hb] at h;cases h
theorem cL {n:Wd} (h:EV l=U (n,l1)):∀a,a∈l1->a∈l:=by
 cases l with
 |nil=>cases h
 |cons a q=>
  rw[Cu] at h;split at h
  .cases h;exact λb hb=>Id _ hb
  .cases h
theorem Mf (h:uh l=U (v,l1)):∃n,dJ l=U (n,l1)/\v= qE n:=by
 unfold uh at h;cases hn:dJ l with
 |none=>rw[hn] at h;cases h
 |some p=>obtain⟨n,l2⟩:=p;rw[hn] at h;cases h;exact⟨n,rfl,rfl⟩
theorem YC (h:W4 l=U (v,l1)):∃a,EV l=U (a,l1)/\v=a.val:=by
 unfold W4 at h;cases hn:EV l with
 |none=>rw[hn] at h;cases h
 |some p=>obtain⟨n,l2⟩:=p;rw[hn] at h;cases h;exact⟨n,rfl,rfl⟩
theorem Aar:∀op,op∈B7->¬op.size=0:=by decide+kernel
theorem Rd.ne (h:Rd w0 xb r Ae E l w) {b c:Nat} {o p:Obj} (h1:(b,o)∈E) (h2:(c,p)∈E) (ho:o≠p):b≠c:=by
 rintro rfl;exact ho (h.Pu h1 h2)
theorem AfL (k:iP nm ws mb w g x wv Ae F r) (hk:bs nm=DR):aV nm ws w g x wv Ae F:=by
 obtain⟨q0,q1,q2,q3,q4,q5,q6⟩:=Ft hk I V I I I I I rfl;refine r8 ?_;clear k hk;intro H Hz Hg Hb Hk HX Ay hmf hlt bx Hbx E R0 MX;go_upto_region 15 with fail
 have S0:=R0.out.quiet (Aw.refl [] _).drew;refine OI [0,2] [1,3] [4,5] [(6,I),(7,I)] (λW=>W.cell? ⟨w.heap.size,0,Z⟩=U (iJ g.xb)) 7 (S0.cell MX 0) ?_;refine LJ (v:= ?_) rfl rfl rfl (λW hW=>?_) ?_;rotate_left
 .go_simp;rfl
 simp only[FL];refine LJ (v:= ?_) rfl rfl rfl (λW hW=>?_) ?_;rotate_left
 .go_simp;rfl
 simp only[FL];simp only[W3];have J0:Uu w g.xb r Ae uh uh ws 1 3 4 5 99 (qK #[qE ⟨#[]⟩] 9 (0,0)) (qK #[qE ⟨#[]⟩] 9 (0,0)) (qK #[iJ g.xb] 143 (0,0)) [4,5] E [1,3] [4,5] ⟨undef,undef,Z,Z,U w.heap.size⟩ _:=⟨⟨E,ws,S0,λ_ h=>h,.inl ⟨rfl,rfl⟩,.inl ⟨Do,rfl⟩,.inl ⟨Do,rfl⟩,.inr ⟨Do,_,rfl,MX⟩⟩,Do,λ_ h=>h,EQ,EQ,EQ⟩;refine V1 (Ku.P9 49 51 10 11) (Uu w g.xb r Ae uh uh ws 1 3 4 5 99 (qK #[qE ⟨#[]⟩] 9 (0,0)) (qK #[qE ⟨#[]⟩] 9 (0,0)) (qK #[iJ g.xb] 143 (0,0)) [4,5] E) ?_ ?_ ?_ rfl _ (by simp only[Ku.P9,ot,FL]) J0
 .clear J0 S0;intro c cs al s w1 hJ;rcases hJ.Aaq with⟨rfl,rfl⟩|⟨rfl,rfl⟩
  .refine D4 rfl (λK hK=>?_);simp only[Ku.P9,FL];go_simp;obtain⟨E1,hR⟩:=hJ.at1;obtain⟨OH,p1,s1⟩:=hR.px;refine(Ou ws _ g.xb r OH Ae _ p1 s1 (λh=>h.1 rfl) Hz.out).mono ?_;intro e w2 he;cases hf:dJ ws with
   |none=>
    rw[hf] at he;obtain⟨⟨fb,rfl,hb⟩,hm⟩:=he;rw[Cb (by rw[P2 Hk.out];unfold Md;rw[hf])];exact maP
   |some p=>
    obtain⟨n,l1⟩:=p;rw[hf] at he;have h2:=hJ.AdI (v:= qE n) (by unfold uh;rw[hf];rfl) (λE hE=>(hE.Eb he).2);exact maQ
  .refine D4 rfl (λK hK=>?_);simp only[Ku.P9,FL];go_simp;obtain⟨E1,l1,hR,Ug⟩:=hJ.at2;obtain⟨n,hn,hv⟩:=Mf Ug;obtain⟨OH,p1,s1⟩:=hR.px;refine(Ou l1 _ g.xb r OH Ae _ p1 s1 (λh=>h.1 rfl) (λq hq=>Hz.out q (Ni hn q hq))).mono ?_;intro e w2 he;cases hf:dJ l1 with
   |none=>
    rw[hf] at he;obtain⟨⟨fb,rfl,hb⟩,hm⟩:=he;rw[Cb (by rw[P2 Hk.out];unfold Md;rw[hn];simp only[];rw[hf])];exact maP
   |some p=>
    obtain⟨a,l2⟩:=p;rw[hf] at he;have h2:=hJ.AdH (v:= qE a) Ug (by unfold uh;rw[hf];rfl) (λE hE=>(hE.Eb he).2);exact maQ
 .exact mav
 clear J0 S0;intro s w1 hJ;obtain⟨E1,l,l1,b1,b2,b3,R1,hM,Ug,Z2,e1,e2,e3,m1,m2,m3,Yv,iq,eW⟩:=hJ.done;obtain⟨v1,v2,q1,q2,q3⟩:=s;simp only at Ug Z2 e1 e2 e3;subst e1;subst e2;subst e3;obtain⟨n,hn,rfl⟩:=Mf Ug;obtain⟨a,ha,rfl⟩:=Mf Z2;clear hJ Ug Z2;simp only[Ku.P9,ot,FL];have n1:=R1.ne (hM _ MX) m1 (by intro h;injection h with _ h;exact Jk h Do);have n2:=R1.ne (hM _ MX) m2 (by intro h;injection h with _ h;exact Jk h Do);have mX:=hM _ MX.out;have c1:=R1.cell m1;have f1:=R1.free m1;refine AJ rfl (λK hK=>?_);go_simp;clear c1 f1;obtain⟨E2,R2,m1',k2⟩:=R1.Pe m1 0 (qE n);replace mX:=k2 _ mX n1;replace m2:=k2 _ m2 (Ne.symm Yv)
 skip
 refine hK _ _ (λ_=>R2.cell mX 0) ?_;clear hK;have c2:=R2.cell m2;have f2:=R2.free m2;refine AJ rfl (λK hK=>?_);go_simp;clear c2 f2;obtain⟨E4,R4,m2',k4⟩:=R2.Pe m2 0 (qE a);replace mX:=k4 _ mX n2;replace m1':=k4 _ m1' Yv;refine hK _ _ (λh=>Jk rfl h) ?_;clear hK;simp only[BO];generalize (World.setCell (World.setCell w1 ⟨b1,0,Z⟩ (qE n)) ⟨b2,0,Z⟩ (qE a))=w4 at R4⊢;have R:=D R4;replace MX:=D mX;have MA:=D m1';have MB:=D m2';have Hn:=D hn;have Ha:=D ha;clear R1 R2 R4 hM m1 m1' m2 m2' m3 mX k2 k4 hn ha n1 n2 Yv iq eW R0;obtain⟨OH,p1,s1⟩:=R.px;have cb:=R.cell MX 0;have nZ:=D (uX mb l _ g.xb r OH Ae _ p1 s1 (λh=>h.1 rfl) (λq hq=>Hz.out q (Ni Hn q (Ni Ha q hq))) (Hg.out.mod R.mod (λb hb hm=>by rw[GE] at hm;rw[hm] at hb;exact HX.out hb)) HX.out);clear p1 s1;go_wp2_with fail;refine nZ.mono ?_;intro e w5 he;clear cb nZ;cases hw:atF l with
 |none=>
  rw[hw] at he;obtain⟨⟨fb,rfl,hb⟩,hm⟩:=he;have hr:=D (Cb (x:=x) (by rw[P2 Hk.out];unfold Md;rw[Hn.out];simp only[];rw[Ha.out];simp only[];rw[hw]));clear hw;exact mam
 |some p=>
  obtain⟨i,l⟩:=p;rw[hw] at he;obtain⟨rfl,R1⟩:=R.Eb he;obtain⟨E2,R2,m2,more2⟩:=R1.gF (qK #[qE i.name,iI i.v] 230);have LV:i.val= qH #[qE i.name,iI i.v]:=rfl;simp only[LV];clear R;have R:=D R2;have MI:=D m2;replace MX:=D (more2 _ MX);replace MA:=D (more2 _ MA);replace MB:=D (more2 _ MB);have Hw:=D hw;clear hw R1 R2 m2 more2 he LV;obtain⟨fK,p2,s2⟩:=R.px;have cb:=R.cell MX 0;have NN:=D (DG l _ g.xb r fK Ae _ p2 s2);clear p2 s2;go_wp2_with fail;refine NN.mono ?_;intro e w3 he;clear cb;cases l with
  |cons b l2=>
   obtain⟨⟨fb,rfl,hb⟩,hm⟩:=he;have hr:=D (Cb (x:=x) (by rw[P2 Hk.out];unfold Md;rw[Hn.out];simp only[];rw[Ha.out];simp only[];rw[Hw.out];rfl));exact mam
  |nil=>
   obtain⟨rfl,R3⟩:=R.Eb he;have Hr:=D (FE (x:=x) (by rw[P2 Hk.out];unfold Md;rw[Hn.out];simp only[];rw[Ha.out];simp only[];rw[Hw.out];rfl));rcases H.out with⟨hS,rfl⟩|⟨hN,hP⟩;rotate_left
   .obtain⟨wvq,p3,_⟩:=R3.px;have x5:=(p3.cell 5).trans (JM U hN.o);have x1:w3.cell? ⟨g.xb,1,Z⟩=U (iI Ae):=p3.cell 1;have cb:=R3.cell MX 0;exact mai
   obtain⟨NO,S3,OO⟩:=R3.GP hS;have M8:=D hS.DU.ne;clear hS;obtain⟨wvq,p3,_⟩:=R3.px;have x5:w3.cell? ⟨g.xb,5,Z⟩=U (qD (U ⟨g.ob,0,Z⟩) (J g.fr+1) g.oc):=p3.cell 5;have x1:w3.cell? ⟨g.xb,1,Z⟩=U (iI Ae):=p3.cell 1;have xl:=p3.lt;have cb:=R3.cell MX 0;have IL:((J g.fr:Int)+1==0)=I:=by rw[Jh];omega
   have Ic:=D S3;have Gm:=D OO;clear S3 OO p3 he R3 R NN;have Hin:=D (Rz _ g x NO Ae Ic.Ak Hb.out.fr);go_wp2_with fail;refine Hin.mono ?_;rintro e w3b ⟨rfl,Py⟩;clear Hin;replace x5:=AH Py x5;replace x1:=AH Py x1;replace cb:=AH Py cb;have AcF:=Py.size;replace xl:g.xb<w3b.heap.size:=Y
   have Xv:=D (Gm.trans (Af.quiet Ic.Ak Py));have mx:=D (Ic.quiet Py);clear Gm Ic Py AcF;have Gm:=Xv;have Ic:=mx;clear Xv mx;cases ES:g.fr.any KG.Ao with
   |true=>
    have vJ:=D ES;clear ES;have Hp:=D (Hr.trans (Iu Ic.DU (λ_=>vJ.out) (λh=>by rw[Hk.out] at h;exact Jk h Do)));clear Hr vJ;go_wp2_with fail;refine(Adl n a i _ g x NO Ae _ Ic Hb.out _ _ _ _ (IR _ MX) (IR _ MB) (IR _ MI) (IR _ MA)).mono ?_;intro e w4 he;clear cb x5 x1 IL;unfold RW at he;cases B0:x.finish (.get n a i) with
    |error c=>
     exact maj
    |ok y=>
     exact mab
   |false=>
    have vJ:=D ES;clear ES;have hr:=D (Hr.trans (Wc Ic.DU (by exact .inl ⟨rfl,vJ⟩)));go_wp2_with fail;refine(AO _ _ _).mono ?_;rintro e w5 ⟨⟨fb,rfl,hb⟩,hm⟩;exact mar
theorem AfJ (k:iP nm ws mb w g x wv Ae F r) (hk:bs nm=EF):aV nm ws w g x wv Ae F:=by
 obtain⟨q0,q1,q2,q3,q4,q5,q6⟩:=Ft hk I I V I I I I rfl;refine r8 ?_;clear k hk;intro H Hz Hg Hb Hk HX Ay hmf hlt bx Hbx E R0 MX;go_upto_region 20 with fail
 have S0:=R0.out.quiet (Aw.refl [] _).drew;refine OI [0,2] [1,3] [4,5] [(6,I),(7,I)] (λW=>W.cell? ⟨w.heap.size,0,Z⟩=U (iJ g.xb)) 7 (S0.cell MX 0) ?_;refine LJ (v:= ?_) rfl rfl rfl (λW hW=>?_) ?_;rotate_left
 .go_simp;rfl
 simp only[FL];refine LJ (v:= ?_) rfl rfl rfl (λW hW=>?_) ?_;rotate_left
 .go_simp;rfl
 simp only[FL];simp only[W3];have J0:Uu w g.xb r Ae uh W4 ws 1 3 4 5 99 (qK #[qE ⟨#[]⟩] 9 (0,0)) (qK #[qE ⟨#[]⟩,iI 0] 230 (0,0)) (qK #[iJ g.xb] 143 (0,0)) [4,5] E [1,3] [4,5] ⟨undef,undef,Z,Z,U w.heap.size⟩ _:=⟨⟨E,ws,S0,λ_ h=>h,.inl ⟨rfl,rfl⟩,.inl ⟨Do,rfl⟩,.inl ⟨Do,rfl⟩,.inr ⟨Do,_,rfl,MX⟩⟩,Do,λ_ h=>h,EQ,EQ,EQ⟩;refine V1 (Ku.P9 58 60 13 14) (Uu w g.xb r Ae uh W4 ws 1 3 4 5 99 (qK #[qE ⟨#[]⟩] 9 (0,0)) (qK #[qE ⟨#[]⟩,iI 0] 230 (0,0)) (qK #[iJ g.xb] 143 (0,0)) [4,5] E) ?_ ?_ ?_ rfl _ (by simp only[Ku.P9,ot,FL]) J0
 .clear J0 S0;intro c cs al s w1 hJ;rcases hJ.Aaq with⟨rfl,rfl⟩|⟨rfl,rfl⟩
  .refine D4 rfl (λK hK=>?_);simp only[Ku.P9,FL];go_simp;obtain⟨E1,hR⟩:=hJ.at1;obtain⟨OH,p1,s1⟩:=hR.px;refine(Ou ws _ g.xb r OH Ae _ p1 s1 (λh=>h.1 rfl) Hz.out).mono ?_;intro e w2 he;cases hf:dJ ws with
   |none=>
    rw[hf] at he;obtain⟨⟨fb,rfl,hb⟩,hm⟩:=he;rw[Cb (by rw[P1 Hk.out];unfold Mb;rw[hf])];exact maP
   |some p=>
    obtain⟨n,l1⟩:=p;rw[hf] at he;have h2:=hJ.AdI (v:= qE n) (by unfold uh;rw[hf];rfl) (λE hE=>(hE.Eb he).2);exact maQ
  .refine D4 rfl (λK hK=>?_);simp only[Ku.P9,FL];go_simp;obtain⟨E1,l1,hR,Ug⟩:=hJ.at2;obtain⟨n,hn,hv⟩:=Mf Ug;obtain⟨OH,p1,s1⟩:=hR.px;refine(Ko mb l1 _ g.xb r OH Ae _ p1 s1 (λh=>h.1 rfl) (λq hq=>Hz.out q (Ni hn q hq)) (Hg.out.mod hR.mod (λb hb hm=>by rw[GE] at hm;rw[hm] at hb;exact HX.out hb)) HX.out).mono ?_;intro e w2 he;cases hf:EV l1 with
   |none=>
    rw[hf] at he;obtain⟨⟨fb,rfl,hb⟩,hm⟩:=he;rw[Cb (by rw[P1 Hk.out];unfold Mb;rw[hn];simp only[];rw[hf])];exact maP
   |some p=>
    obtain⟨a,l2⟩:=p;rw[hf] at he;have h2:=hJ.AdH (v:=a.val) Ug (by unfold W4;rw[hf];rfl) (λE hE=>(hE.Eb he).2);exact maQ
 .exact mav
 clear J0 S0;intro s w1 hJ;obtain⟨E1,l,l1,b1,b2,b3,R1,hM,Ug,Z2,e1,e2,e3,m1,m2,m3,Yv,iq,eW⟩:=hJ.done;obtain⟨v1,v2,q1,q2,q3⟩:=s;simp only at Ug Z2 e1 e2 e3;subst e1;subst e2;subst e3;obtain⟨n,hn,rfl⟩:=Mf Ug;obtain⟨a,ha,rfl⟩:=YC Z2;clear hJ Ug Z2;simp only[Ku.P9,ot,FL];have n1:=R1.ne (hM _ MX) m1 (by intro h;injection h with _ h;exact Jk h Do);have n2:=R1.ne (hM _ MX) m2 (by intro h;injection h with _ h;exact Jk h Do);have LV:a.val= qH #[qE a.name,iI a.v]:=rfl;simp only[LV];clear LV;have mX:=hM _ MX.out;have c1:=R1.cell m1;have f1:=R1.free m1;refine AJ rfl (λK hK=>?_);go_simp;clear c1 f1;obtain⟨E2,R2,m1',k2⟩:=R1.Pe m1 0 (qE n);replace mX:=k2 _ mX n1;replace m2:=k2 _ m2 (Ne.symm Yv)
 skip
 refine hK _ _ (λ_=>R2.cell mX 0) ?_;clear hK;have c2:=R2.cell m2;have f2:=R2.free m2;refine AJ rfl (λK hK=>?_);go_simp;clear c2 f2;obtain⟨E3,R3,m2',k3⟩:=R2.Pe m2 0 (qE a.name);obtain⟨E4,R4,m2'',k4⟩:=R3.Pe m2' 1 (iI a.v);replace mX:=k4 _ (k3 _ mX n2) n2;replace m1':=k4 _ (k3 _ m1' Yv) Yv;refine hK _ _ (λh=>Jk rfl h) ?_;clear hK;simp only[BO];generalize (World.setCell (World.setCell (World.setCell w1 ⟨b1,0,Z⟩ (qE n)) ⟨b2,0,Z⟩ (qE a.name)) ⟨b2,1,Z⟩ (iI a.v))=w4 at R4⊢;have R:=D R4;replace MX:=D mX;have MA:=D m1';have MB:=D m2'';have Hn:=D hn;have Ha:=D ha;clear R1 R2 R3 R4 k3 m2' hM m1 m1' m2 m2'' m3 mX k2 k4 hn ha n1 n2 Yv iq eW R0;obtain⟨OH,p1,s1⟩:=R.px;have cb:=R.cell MX 0;have nZ:=D (uX mb l _ g.xb r OH Ae _ p1 s1 (λh=>h.1 rfl) (λq hq=>Hz.out q (Ni Hn q (cL Ha q hq))) (Hg.out.mod R.mod (λb hb hm=>by rw[GE] at hm;rw[hm] at hb;exact HX.out hb)) HX.out);clear p1 s1;go_wp2_with fail;refine nZ.mono ?_;intro e w5 he;clear cb nZ;cases hw:atF l with
 |none=>
  rw[hw] at he;obtain⟨⟨fb,rfl,hb⟩,hm⟩:=he;have hr:=D (Cb (x:=x) (by rw[P1 Hk.out];unfold Mb;rw[Hn.out];simp only[];rw[Ha.out];simp only[];rw[hw]));clear hw;exact mam
 |some p=>
  obtain⟨i,l⟩:=p;rw[hw] at he;obtain⟨rfl,R1⟩:=R.Eb he;obtain⟨E2,R2,m2,more2⟩:=R1.gF (qK #[qE i.name,iI i.v] 230);have LV:i.val= qH #[qE i.name,iI i.v]:=rfl;simp only[LV];clear R;have R:=D R2;have MI:=D m2;replace MX:=D (more2 _ MX);replace MA:=D (more2 _ MA);replace MB:=D (more2 _ MB);have Hw:=D hw;clear hw R1 R2 m2 more2 he LV;obtain⟨fK,p2,s2⟩:=R.px;have cb:=R.cell MX 0;have NN:=D (DG l _ g.xb r fK Ae _ p2 s2);clear p2 s2;go_wp2_with fail;refine NN.mono ?_;intro e w3 he;clear cb;cases l with
  |cons b l2=>
   obtain⟨⟨fb,rfl,hb⟩,hm⟩:=he;have hr:=D (Cb (x:=x) (by rw[P1 Hk.out];unfold Mb;rw[Hn.out];simp only[];rw[Ha.out];simp only[];rw[Hw.out];rfl));exact mam
  |nil=>
   obtain⟨rfl,R3⟩:=R.Eb he;have Hr:=D (FE (x:=x) (by rw[P1 Hk.out];unfold Mb;rw[Hn.out];simp only[];rw[Ha.out];simp only[];rw[Hw.out];rfl));rcases H.out with⟨hS,rfl⟩|⟨hN,hP⟩;rotate_left
   .obtain⟨wvq,p3,_⟩:=R3.px;have x5:=(p3.cell 5).trans (JM U hN.o);have x1:w3.cell? ⟨g.xb,1,Z⟩=U (iI Ae):=p3.cell 1;have cb:=R3.cell MX 0;exact mai
   obtain⟨NO,S3,OO⟩:=R3.GP hS;have M8:=D hS.DU.ne;clear hS;obtain⟨wvq,p3,_⟩:=R3.px;have x5:w3.cell? ⟨g.xb,5,Z⟩=U (qD (U ⟨g.ob,0,Z⟩) (J g.fr+1) g.oc):=p3.cell 5;have x1:w3.cell? ⟨g.xb,1,Z⟩=U (iI Ae):=p3.cell 1;have xl:=p3.lt;have cb:=R3.cell MX 0;have IL:((J g.fr:Int)+1==0)=I:=by rw[Jh];omega
   have Ic:=D S3;have Gm:=D OO;clear S3 OO p3 he R3 R NN;have Hin:=D (Rz _ g x NO Ae Ic.Ak Hb.out.fr);go_wp2_with fail;refine Hin.mono ?_;rintro e w3b ⟨rfl,Py⟩;clear Hin;replace x5:=AH Py x5;replace x1:=AH Py x1;replace cb:=AH Py cb;have AcF:=Py.size;replace xl:g.xb<w3b.heap.size:=Y
   have Xv:=D (Gm.trans (Af.quiet Ic.Ak Py));have mx:=D (Ic.quiet Py);clear Gm Ic Py AcF;have Gm:=Xv;have Ic:=mx;clear Xv mx;cases ES:g.fr.any KG.Ao with
   |true=>
    have vJ:=D ES;clear ES;have Hp:=D (Hr.trans (Iu Ic.DU (λ_=>vJ.out) (λh=>by rw[Hk.out] at h;exact Jk h Do)));clear Hr vJ;go_wp2_with fail;refine(Adc n a i _ g x NO Ae _ Ic Hb.out _ _ _ _ (IR _ MX) (IR _ MA) (IR _ MI) (IR _ MB)).mono ?_;intro e w4 he;clear cb x5 x1 IL;unfold RW at he;cases B0:x.finish (.put n a i) with
    |error c=>
     exact maj
    |ok y=>
     exact mab
   |false=>
    have vJ:=D ES;clear ES;have hr:=D (Hr.trans (Wc Ic.DU (by exact .inl ⟨rfl,vJ⟩)));go_wp2_with fail;refine(AO _ _ _).mono ?_;rintro e w5 ⟨⟨fb,rfl,hb⟩,hm⟩;exact mar
