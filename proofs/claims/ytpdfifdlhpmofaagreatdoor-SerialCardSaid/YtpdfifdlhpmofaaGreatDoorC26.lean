/- Part 26 of the proof. -/
import Derived.Test.YtpdfifdlhpmofaaGreatDoorC25
set_option linter.unusedVariables false
set_option linter.unusedSimpArgs false
set_option maxHeartbeats 0
set_option maxRecDepth 99999
namespace Go.Proofs.YtpdfifdlhpmofaaGreatDoor
open Go.RowKit Tryz
open Value renaming slice->m9,string->qA,bool->qB,tuple->qC,agg->qD,pointer->qE
open Ending renaming returned->qF
open Obj renaming cells->qG
open Option renaming none->Z,some->U
open Bool renaming true->V,false->I
open Go.Lib renaming hid->D
open List renaming length->J
theorem mat {p:Prop} (h:p:=by
 simp only[Prod.mk.injEq] at hr;obtain⟨⟨hr,rfl⟩,rfl⟩:=hr;have HR:=D hr;have c5:w2.cell? ⟨g.b,5,Z⟩=U (iI r.Au):=(hs.Ak.Ao (i:=0) rfl).cell 5;have f5:=(hs.Ak.Ao (i:=0) rfl).free 5;have S1:=D (hs.trans (hs.Ak.set (i:=0) rfl 5 (iI 2)));clear hs hr GK RT;generalize r.get x.AN=av at*;by_cases h0:av<0
 .clear hi;go_wp2;go_ret;exact⟨rfl,g.o,by rw[<-HR.out];exact S1.out⟩
 .have h1:x.size<=av:=Y
  clear hi;go_wp2;go_ret;exact⟨rfl,g.o,by rw[<-HR.out];exact S1.out⟩):p:=h
theorem maE {p:Prop} (h:p:=by
 unfold oV oD oR at hs;generalize (((w.alloc _).alloc _).alloc _).drew=w1 at hs⊢;have HS:=D hs;clear hs m4 m3;go_wp2_with fail;refine(V3 l a E HN Hl _ .start u m w1 HS.Ak HM).mono ?_;rintro e w2 ⟨rfl,o,MU⟩;have rV:=D (HS.trans MU);clear MU;go_wp2;go_ret;exact⟨_,rfl,rV⟩):p:=h
theorem mbL {p:Prop} (h:p:=by
 rw[JO hlt];rw[Ja hlt] at ht;cases ht;rfl):p:=h
variable {r u:RR} {E L L':List Ob} {w w':World} {b:Bool} {n i db j vb cb m k s:Nat} {e t:TypeId} {l:List Nd} {v z:Value} {a:SG} {x:Nd} {P:Nat->Prop} {xs:List Value} {p:Option Addr} {Bf:Array Oper} {o:Oper} {Q:Exit->Act->World->Prop} {cu:List Int} {M:Al} {ds:List SG} {F:VG} {gs:List Lf} {y:qH}
structure NG where
 b:Nat
 v:SG
 d:SG
 o:SG
variable {g:NG}
def NG.cells (g:NG) (r:RR):Array Value:= #[iI r.pc,m9 g.v.p 4 g.v.c,m9 g.d.p 3 g.d.c,m9 g.o.p (J r.An) g.o.c,iI r.Ck,iI r.Au]
def NG.run (g:NG) (r:RR):List Ob:=
 [.Ao g.b (g.cells r) 74,.row (m9 g.v.p 4 g.v.c) 2 1 4 (B9 r.v),.row (m9 g.d.p 3 g.d.c) 3 1 3 (B9 r.DE),.row (m9 g.o.p (J r.An) g.o.c) 2 1 (J r.An) (B9 r.An)]
theorem AaQ (a:At) (ha:DO a) (w:World) (g:NG) (r:RR) (vb:Nat) (hb:Ci w g.b (g.cells r) 74) (hvp:g.v.p=U ⟨vb,0,Z⟩) (hr:∀i,(hi:i<4)->w.cell? ⟨vb,i,Z⟩=U (iI (r.v.getD i 0))):
  Calls prog 66 #[iJ g.b,a.val] w λe w'=>e= qF (iI (r.get a))/\Az [] w w':=by
 obtain⟨rg,n⟩:=a;unfold NG.cells at hb;rw[hvp] at hb;cases rg with
 |true=>
  have hv:0<=n/\n<4:=ha;obtain⟨pR,h8'⟩:=hv;obtain⟨i,rfl⟩:∃i:Nat,n=i:=⟨n.toNat,Y⟩;have hi:i<4:=Y
  have hc:=hr i hi;have Is:=hb.cell 1;have AG:r.get ⟨V,i⟩=r.v.getD i 0:=rfl;have Hres:=D AG;clear hb ha hr AG hvp;unfold At.val;go_enter func66,ntmps66;go_wp2;have ha:(w.alloc (qG #[qB V,Value.int IntKind.i64 ↑i] 108)).cell? ⟨w.heap.size,1,Z⟩=U (iI i):=(Ci.new w _ _).cell 1;have AmH:(w.alloc (qG #[qB V,Value.int IntKind.i64 ↑i] 108)).cell? ⟨g.b,1,Z⟩=U (m9 (U ⟨vb,0,Z⟩) 4 g.v.c):=AK ((Az.refl [] w).alloc _) (Is.trans rfl);have lG:(w.alloc (qG #[qB V,Value.int IntKind.i64 ↑i] 108)).cell? ⟨vb,i,Z⟩=U (iI (r.v.getD i 0)):=AK ((Az.refl [] w).alloc _) hc;refine AO (l:=sq [] 0 8) (λW=>W.cell? ⟨w.heap.size,1,Z⟩=U (iI i)/\W.cell? ⟨g.b,1,Z⟩=U (m9 (U ⟨vb,0,Z⟩) 4 g.v.c)/\W.cell? ⟨vb,i,Z⟩=U (iI (r.v.getD i 0))) 8 ⟨ha,AmH,lG⟩ ?_;refine Fg ?_;refine A7 rfl (λK hK=>?_);go_simp;refine hK _ _ (λh=>Jk h Do) ?_;clear hK;simp only[Cr];go_wp2;go_ret;exact⟨by rw[Hres.out,Je];rfl,((Az.refl _ _).alloc _).drew⟩
 |false=>
  clear ha hr;unfold At.val;go_enter func66,ntmps66;go_wp2;go_ret;exact⟨rfl,(Az.refl _ _).alloc _⟩
def AmR (g:NG) (r:RR) (E:List Ob) (w:World) (r':RR) (ok:Bool) (e:Ending) (w':World):Prop:=e= qF (qB ok)/\∃o:SG,Ai w (g.run r++E) w' (NG.run {g with o:=o} r'++E)
theorem Abi (x:Nd):x.val= qD #[.int .u8 x.kind,iI x.v,qA x.op,qB x.a.AX,iI x.a.v,qB x.b.AX,iI x.b.v,qB x.AN.AX,iI x.AN.v,iI x.first,iI x.size,iI x.CL,iI x.n,iI x.Af]:=rfl
structure AmT (g:NG) (r:RR) (E:List Ob) (x:Nd) (w w1:World):Prop where
 s:Ai w (g.run r++E) w1 (g.run {r with pc:=r.pc+1}++E)
 box:∀i:Nat,w1.cell? ⟨w.heap.size,i,Z⟩=x.cells[i]?
 lt:w.heap.size<w1.heap.size
 kp:AY w1 (g.run {r with pc:=r.pc+1}++E) [(w.heap.size,qG x.cells.toArray 110 (0,0))]
theorem Ajb (x:Nd) (h:Aq w (g.run r++E)) {w1:World} (hm:Az [] ((w.setCell ⟨g.b,0,Z⟩ (iI ((r.pc:Int)+1))).alloc (qG x.cells.toArray 110)) w1):AmT g r E x w w1:=by
 have s0:Ai w (g.run r++E) (w.setCell ⟨g.b,0,Z⟩ (iI (r.pc+1))) (g.run {r with pc:=r.pc+1}++E):=h.set (i:=0) rfl 0 _;have s1:=s0.trans (Ai.alloc s0.Ak (qG x.cells.toArray 110));have Gp:(w.setCell ⟨g.b,0,Z⟩ (iI (r.pc+1))).heap.size=w.heap.size:=by
  simp
 have hb:=Ci.new (w.setCell ⟨g.b,0,Z⟩ (iI (r.pc+1))) x.cells.toArray 110;rw[Gp] at hb;have Is:Ci w1 w.heap.size x.cells.toArray 110:=hm.heap hb EQ;refine⟨s1.trans (Ai.quiet s1.Ak hm),λi=>by rw[Is.cell i];simp,Is.lt,?_⟩;have:=((AY.nil _ (g.run {r with pc:=r.pc+1}++E)).new s0.Ak (qG x.cells.toArray 110)).quiet hm;rw[Gp] at this;exact this
theorem UB (a:At) (ha:DO a) (g:NG) {w:World} {r:RR} {E:List Ob} (h:Aq w (g.run r++E)) (FD:J r.v=4):
  Calls prog 66 #[iJ g.b,a.val] w λe w'=>e= qF (iI (r.get a))/\Az [] w w':=by
 obtain⟨vb,vc,ev,_,_,_,_,hvc,_⟩:=Av (h.row (i:=1) rfl) Do;have evp:g.v.p=U ⟨vb,0,Z⟩:=by injection ev
 exact AaQ a ha w g r vb (h.Ao (i:=0) rfl) evp λi hi=>by
  rw[hvc i (by simp[B9];omega),<-Ja,Ja (by simp[B9];omega),iw Y]
theorem LV {b cap:Nat} {l:List Int} (h:w.ownsRow 0 e 1 (m9 (U ⟨b,0,Z⟩) n cap) n (B9 l)) (hi:i<J l):w.cell? ⟨b,i,Z⟩=U (iI (l.getD i 0)):=by
 have:=(A4 h).1 i (by simp[B9];exact hi);rw[this,iw hi]
theorem Aiw (h:Aq w (g.run r++E)) (hd:g.d.p=U ⟨db,0,Z⟩):w.ownsRow 0 3 1 (m9 (U ⟨db,0,Z⟩) 3 g.d.c) 3 (B9 r.DE):=by rw[<-hd];exact h.row (i:=2) rfl
theorem Ag8 (h:Aq w (g.run r++E)) (hd:g.d.p=U ⟨db,0,Z⟩) (hj:j<J r.DE) (u:Int):Ai w (g.run r++E) (w.setCell ⟨db,j,Z⟩ (iI u)) (g.run {r with DE:=r.DE.set j u}++E):=by
 have e:B9 (r.DE.set j u)=(B9 r.DE).set j (iI u):=by unfold B9;rw[QD]
 have hL:(g.run r++E)[2]?=U (.row (m9 (U ⟨db,0,Z⟩) 3 g.d.c) 3 1 3 (B9 r.DE)):=by rw[<-hd];rfl
 have s:=h.ET hL j (by simp[B9];exact hj) (iI u);rw[<-hd,<-e] at s;exact s
theorem nz:∀op,op∈B4->op.toList.isEmpty=I:=by decide+kernel
theorem AgO (h:Aq w (g.run r++E)) (hv:g.v.p=U ⟨vb,0,Z⟩):w.ownsRow 0 2 1 (m9 (U ⟨vb,0,Z⟩) 4 g.v.c) 4 (B9 r.v):=by rw[<-hv];exact h.row (i:=1) rfl
theorem Ag5 (h:Aq w (g.run r++E)) (hv:g.v.p=U ⟨vb,0,Z⟩) (hj:j<J r.v) (u:Int):Ai w (g.run r++E) (w.setCell ⟨vb,j,Z⟩ (iI u)) (g.run {r with v:=r.v.set j u}++E):=by
 have e:B9 (r.v.set j u)=(B9 r.v).set j (iI u):=by unfold B9;rw[QD]
 have hL:(g.run r++E)[1]?=U (.row (m9 (U ⟨vb,0,Z⟩) 4 g.v.c) 2 1 4 (B9 r.v)):=by rw[<-hv];rfl
 have s:=h.ET hL j (by simp[B9];exact hj) (iI u);rw[<-hv,<-e] at s;exact s
theorem Aen {w6:World} {g6 AL:Nat} {v:Int} (S:Ai w (g.run r++E) w6 ((g.run r++E).set 3 (.row (m9 (U ⟨g6,0,Z⟩) (J r.An+1) AL) 2 1 (J r.An+1) (B9 r.An++(#[Value.int .i64 v]:Array Value).toList)))):
  Ai w (g.run r++E) (w6.setCell ⟨g.b,3,Z⟩ (m9 (U ⟨g6,0,Z⟩) (J r.An+1) AL)) (NG.run {g with o:=⟨U ⟨g6,0,Z⟩,AL⟩} {r with An:=r.An++[v]}++E):=by
 have s:=S.trans (S.Ak.set (i:=0) rfl 3 (m9 (U ⟨g6,0,Z⟩) (J r.An+1) AL));have e0:B9 (r.An++[v])=B9 r.An++(#[Value.int .i64 v]).toList:=by unfold B9;rw[JQ];rfl
 unfold NG.run NG.cells at s⊢;dsimp only at s⊢;rw[e0,GT];exact s
theorem Aa6 {op:ByteArray} {a b:Int} (h:BO op a b=Z):YU op a b= qC #[iI 0,qB I]:=by unfold YU;rw[h];rfl
def BC (c:SG) (cs:List Int):Ob:=.row (m9 c.p (J cs) c.c) 2 1 (J cs) (B9 cs)
def AmS (g:NG) (c:SG) (r:RR) (cs:List Int) (E:List Ob) (w:World) (r':RR) (cs':List Int) (ok:Bool) (e:Ending) (w':World):Prop:=e= qF (qB ok)/\∃o:SG,Ai w (g.run r++BC c cs::E) w' (NG.run {g with o:=o} r'++BC c cs'::E)
section
variable {w:World} {g:NG} {c:SG} {r:RR} {cs:List Int} {E:List Ob} (h:Aq w (g.run r++BC c cs::E))
include h
theorem Aiz (hc:c.p=U ⟨cb,0,Z⟩):w.ownsRow 0 2 1 (m9 (U ⟨cb,0,Z⟩) (J cs) c.c) (J cs) (B9 cs):=by rw[<-hc];exact h.row (i:=4) rfl
theorem AiA (hn:0<J cs):∃cb,c.p=U ⟨cb,0,Z⟩:=by
 obtain⟨cb,_,e,_⟩:=Av (h.row (i:=4) rfl) hn;exact⟨cb,by injection e⟩
theorem Aje (hc:c.p=U ⟨cb,0,Z⟩) (hm:m<J cs) (u:Int):Ai w (g.run r++BC c cs::E) (w.setCell ⟨cb,m,Z⟩ (iI u)) (g.run r++BC c (cs.set m u)::E):=by
 have e:B9 (cs.set m u)=(B9 cs).set m (iI u):=by unfold B9;rw[QD]
 have hL:(g.run r++BC c cs::E)[4]?=U (.row (m9 (U ⟨cb,0,Z⟩) (J cs) c.c) 2 1 (J cs) (B9 cs)):=by rw[<-hc];rfl
 have s:=h.ET hL m (by simp[B9];exact hm) (iI u);rw[<-hc,<-e] at s;unfold BC at s⊢;rw[Ju];exact s
end
theorem Ai.drewN (h:Ai w L w' L') (n:Nat):Ai w L (w'.drewN n) L':=h.trans (Ai.quiet h.Ak ((Az.refl [] w').drewN n))
theorem sC {cs:List Int} {c:SG} (hs:Vu x r (J cs)) (ho:J r.An<=60000) (B8:J cs<=1000000) (Tb:r.pc<=1000000) (h:Aq w (g.run r++BC c cs::E)):
  Calls prog 44 #[iJ g.b,x.val,m9 c.p (J cs) c.c] w (AmS g c r cs E w (r.step x cs).1.1 (r.step x cs).1.2 (r.step x cs).2):=by
 obtain⟨FD,GG,ha,hk⟩:=hs;generalize Aw:r.step x cs=st;obtain⟨⟨r9,c9⟩,b9⟩:=st;have hb:=h.Ao (i:=0) rfl;obtain⟨vb,vc,ev,_⟩:=Av (h.row (i:=1) rfl) Do;have evp:g.v.p=U ⟨vb,0,Z⟩:=by injection ev
 have H:=D h;have Hev:=D evp;have XH:=D FD;have Hrl:=D GG;have Hk:=D hk;have GK:=D Aw;have Ho:=D ho;have nj:=D B8;have gV:True->wrap64 (r.pc+1)=((r.pc+1:Nat)):=λ_=>IntWalk.wrap64_in _ Y
 have Fo:w.cell? ⟨g.b,0,Z⟩=U (iI r.pc):=hb.cell 0;have tI:=hb.free 0;have hlt:=hb.lt;have Alp:=D (UB x.a ha g (Ajb x h (Az.refl [] _)).s.Ak FD);rw[Abi];clear h hb ev evp Tb FD GG hk Aw ho B8 ha;go_enter func44,ntmps44;go_wp2_with fail;refine Alp.mono ?_;rintro e w1 ⟨rfl,hm⟩;obtain⟨hs,I0,Amk,lB⟩:=Ajb x H hm;rw[show RR.get {r with pc:=r.pc+1} x.a=r.get x.a from rfl];clear hm Alp Fo tI hlt H gV;dsimp only;rcases Hk.out with⟨k,hv,IV,hb⟩|⟨k,hv,FE,hf⟩|⟨k,FE,hf⟩|⟨k⟩|⟨k,ht⟩|⟨k,hd⟩|⟨k,hd,hq,ht⟩;all_goals clear Hk
 .have k0:w1.cell? ⟨w.heap.size,0,Z⟩=U (.int .u8 115):=by rw[I0 0];show x.cells[0]?=_;unfold Nd.cells;rw[k];rfl
  have k1:w1.cell? ⟨w.heap.size,1,Z⟩=U (iI x.v):=I0 1;by_cases hz:x.op.size=0
  .have e0:x.op=⟨#[]⟩:=by
    cases e:x.op with
    |mk d=>rw[e] at hz;rw[Array.size_eq_zero_iff.1 (hz)]
   have k2:w1.cell? ⟨w.heap.size,2,Z⟩=U (qA ⟨#[]⟩):=by rw[I0 2];unfold Nd.cells;rw[e0];rfl
   have hr:=(si k hz rfl).symm.trans GK.out;simp only[Prod.mk.injEq] at hr;obtain⟨⟨hr,rfl⟩,rfl⟩:=hr;have HR:=D hr;have c1:w1.cell? ⟨g.b,1,Z⟩=U (m9 (U ⟨vb,0,Z⟩) 4 g.v.c):=by rw[<-Hev.out];exact(hs.Ak.Ao (i:=0) rfl).cell 1
   obtain⟨j,hj⟩:∃j:Nat,x.v=j:=⟨x.v.toNat,Y⟩;rw[hj] at k1 hv;have Hvr:=AgO hs.Ak Hev.out;have rf:=(A4 Hvr).2.1 j;have rc:=LV Hvr (by show j<J r.v;have:=XH.out;omega);have S1:=D (hs.trans (Ag5 hs.Ak Hev (by show j<J r.v;have:=XH.out;omega) (r.get x.a)));have Hj:=D hj;clear hs hj Hvr hr GK lB I0 IV hb e0 hz;go_upto_region 12 with fail
   refine AO (l:=sq [] 0 8) (λW=>W.cell? ⟨g.b,1,Z⟩=U (m9 (U ⟨vb,0,Z⟩) 4 g.v.c)/\W.cell? ⟨w.heap.size,1,Z⟩=U (iI j)) 8 ⟨c1,k1⟩ ?_;refine Fg ?_;refine A7 rfl (λK hK=>?_);go_simp;refine hK _ _ (λh=>Jk h Do) ?_;clear hK;simp only[Cr];go_wp2;go_ret;refine⟨rfl,g.o,?_⟩;rw[<-HR.out,Hj.out,JW];exact S1.trans (Ai.drew S1.Ak)
  .have AhZ:=IV.resolve_left hz;have hne:=nz _ AhZ;have k2:w1.cell? ⟨w.heap.size,2,Z⟩=U (qA x.op):=I0 2;have k6:w1.cell? ⟨w.heap.size,5,Z⟩=U (qB x.b.AX):=I0 5;have k7:w1.cell? ⟨w.heap.size,6,Z⟩=U (iI x.b.v):=I0 6;have Hz:=D hz;have Hop:=D AhZ;have HB:=D hb;have HS:=D hs;have HKP:=D lB;clear hz IV AhZ hb hs lB I0;go_wp2_with fail;refine(UB x.b HB g HS.Ak XH).mono ?_;rintro e w2 ⟨rfl,FM⟩;rw[show RR.get {r with pc:=r.pc+1} x.b=r.get x.b from rfl];have hs:=HS.trans (Ai.quiet HS.Ak FM);have RT:=D (HKP.quiet FM);clear HS HKP k0 k2 k6 k7 k1;have k1:w2.cell? ⟨w.heap.size,1,Z⟩=U (iI x.v):=RT.cell (GE.2 rfl) 1;have k2:w2.cell? ⟨w.heap.size,2,Z⟩=U (qA x.op):=RT.cell (GE.2 rfl) 2;have rV:=D hs;clear hs;go_wp2_with fail;refine(kK x.op Hop (r.get x.a) (r.get x.b) w2).mono ?_;rintro e w3 ⟨rfl,rfl⟩;have hs:=rV.out;cases hm:BO x.op (r.get x.a) (r.get x.b) with
   |some u=>
    rw[F1 hm];have hr:=(sg k Hz rfl rfl hm).symm.trans GK.out;simp only[Prod.mk.injEq] at hr;obtain⟨⟨hr,rfl⟩,rfl⟩:=hr;have HR:=D hr;have c1:w3.cell? ⟨g.b,1,Z⟩=U (m9 (U ⟨vb,0,Z⟩) 4 g.v.c):=by rw[<-Hev.out];exact(hs.Ak.Ao (i:=0) rfl).cell 1
    obtain⟨j,hj⟩:∃j:Nat,x.v=j:=⟨x.v.toNat,Y⟩;rw[hj] at k1 hv;have Hvr:=AgO hs.Ak Hev.out;have rf:=(A4 Hvr).2.1 j;have rc:=LV Hvr (by show j<J r.v;have:=XH.out;omega);have S1:=D (hs.trans (Ag5 hs.Ak Hev (by show j<J r.v;have:=XH.out;omega) u));have Hj:=D hj;clear hs hj Hvr hr GK rV RT k2 hm;go_upto_region 12 with fail
    refine AO (l:=sq [] 0 8) (λW=>W.cell? ⟨g.b,1,Z⟩=U (m9 (U ⟨vb,0,Z⟩) 4 g.v.c)/\W.cell? ⟨w.heap.size,1,Z⟩=U (iI j)) 8 ⟨c1,k1⟩ ?_;refine Fg ?_;refine A7 rfl (λK hK=>?_);go_simp;refine hK _ _ (λh=>Jk h Do) ?_;clear hK;simp only[Cr];go_wp2;go_ret;refine⟨rfl,g.o,?_⟩;rw[<-HR.out,Hj.out,JW];exact S1.trans (Ai.drew S1.Ak)
   |none=>
    rw[Aa6 hm];have hr:=(se k Hz rfl rfl hm).symm.trans GK.out;simp only[Prod.mk.injEq] at hr;obtain⟨⟨hr,rfl⟩,rfl⟩:=hr;have HR:=D hr;have c5:w3.cell? ⟨g.b,5,Z⟩=U (iI r.Au):=(hs.Ak.Ao (i:=0) rfl).cell 5;have f5:=(hs.Ak.Ao (i:=0) rfl).free 5;have S1:=D (hs.trans (hs.Ak.set (i:=0) rfl 5 (iI 1)));clear hs hr GK rV RT k2 hm;go_wp2;go_ret;exact⟨rfl,g.o,by rw[<-HR.out];exact S1.out⟩
 .have k0:w1.cell? ⟨w.heap.size,0,Z⟩=U (.int .u8 103):=by rw[I0 0];show x.cells[0]?=_;unfold Nd.cells;rw[k];rfl
  have k7:w1.cell? ⟨w.heap.size,7,Z⟩=U (qB x.AN.AX):=I0 7;have k8:w1.cell? ⟨w.heap.size,8,Z⟩=U (iI x.AN.v):=I0 8;have HS:=D hs;have HKP:=D lB;have HB:=D FE;clear hs lB I0 FE;go_wp2_with fail;refine(UB x.AN HB g HS.Ak XH).mono ?_;rintro e w2 ⟨rfl,FM⟩;rw[show RR.get {r with pc:=r.pc+1} x.AN=r.get x.AN from rfl];have hs:=HS.trans (Ai.quiet HS.Ak FM);have RT:=D (HKP.quiet FM);clear HS HKP k0 k7 k8;have k0:w2.cell? ⟨w.heap.size,0,Z⟩=U (.int .u8 103):=by rw[RT.out.cell (GE.2 rfl) 0];show x.cells[0]?=_;unfold Nd.cells;rw[k];rfl
  have k1:w2.cell? ⟨w.heap.size,1,Z⟩=U (iI x.v):=RT.cell (GE.2 rfl) 1;have k9:w2.cell? ⟨w.heap.size,9,Z⟩=U (iI x.first):=RT.cell (GE.2 rfl) 9;have k10:w2.cell? ⟨w.heap.size,10,Z⟩=U (iI x.size):=RT.cell (GE.2 rfl) 10;have K9:=D k;clear k;by_cases hi:r.get x.AN<0\/x.size<=r.get x.AN
  .have hr:=(ss K9 rfl hi).symm.trans GK.out;exact mat
  .have hr:=(Aaa K9 rfl hi).symm.trans GK.out;simp only[Prod.mk.injEq] at hr;obtain⟨⟨hr,rfl⟩,rfl⟩:=hr;have HR:=D hr;generalize ZB:r.get x.AN=av at*;have TO:¬av<0:=Y
   have hhi:¬x.size<=av:=Y
   obtain⟨m,hm⟩:∃m:Nat,x.first+av=m:=⟨(x.first+av).toNat,Y⟩;have hmc:m<J cs:=Y
   have Zt:0<=(m:Int):=Y
   have Dg:m<(J cs:Int):=Y
   obtain⟨cb,Ln⟩:=AiA hs.Ak Y;have hw:True->wrap64 (x.first+av)=m:=λ_=>by rw[hm];exact IntWalk.wrap64_in _ (by have:=nj.out;omega)
   have cr:=Aiz hs.Ak Ln;have rd:=LV cr hmc;rw[Ln];have Hm:=D hm;have c1:w2.cell? ⟨g.b,1,Z⟩=U (m9 (U ⟨vb,0,Z⟩) 4 g.v.c):=by rw[<-Hev.out];exact(hs.Ak.Ao (i:=0) rfl).cell 1
   obtain⟨j,hj⟩:∃j:Nat,x.v=j:=⟨x.v.toNat,Y⟩;rw[hj] at k1 hv;have Hvr:=AgO hs.Ak Hev.out;have rf:=(A4 Hvr).2.1 j;have rc:=LV Hvr (by show j<J r.v;have:=XH.out;omega);have S1:=D (hs.trans (Ag5 hs.Ak Hev (by show j<J r.v;have:=XH.out;omega) (cs.getD m 0)));have Hj:=D hj;clear hs hj Hvr hr GK RT hm Ln hi hf cr hmc;go_upto_region 21 with fail
   refine AO (l:=sq [] 0 11) (λW=>W.cell? ⟨g.b,1,Z⟩=U (m9 (U ⟨vb,0,Z⟩) 4 g.v.c)/\W.cell? ⟨w.heap.size,1,Z⟩=U (iI j)/\W.cell? ⟨cb,m,Z⟩=U (iI (cs.getD m 0))) 11 ⟨c1,k1,rd⟩ ?_;refine Fg ?_;refine A7 rfl (λK hK=>?_);go_simp;refine hK _ _ (λh=>Jk h Do) ?_;clear hK;simp only[Cr];go_wp2;go_ret;refine⟨rfl,g.o,?_⟩;rw[<-HR.out,Hj.out,JW,Hm.out,JW];exact S1.trans (Ai.drew S1.Ak)
 .have k0:w1.cell? ⟨w.heap.size,0,Z⟩=U (.int .u8 112):=by rw[I0 0];show x.cells[0]?=_;unfold Nd.cells;rw[k];rfl
  have k7:w1.cell? ⟨w.heap.size,7,Z⟩=U (qB x.AN.AX):=I0 7;have k8:w1.cell? ⟨w.heap.size,8,Z⟩=U (iI x.AN.v):=I0 8;have HS:=D hs;have HKP:=D lB;have HB:=D FE;clear hs lB I0 FE;go_wp2_with fail;refine(UB x.AN HB g HS.Ak XH).mono ?_;rintro e w2 ⟨rfl,FM⟩;rw[show RR.get {r with pc:=r.pc+1} x.AN=r.get x.AN from rfl];have hs:=HS.trans (Ai.quiet HS.Ak FM);have RT:=D (HKP.quiet FM);clear HS HKP k0 k7 k8;have k0:w2.cell? ⟨w.heap.size,0,Z⟩=U (.int .u8 112):=by rw[RT.out.cell (GE.2 rfl) 0];show x.cells[0]?=_;unfold Nd.cells;rw[k];rfl
  have k9:w2.cell? ⟨w.heap.size,9,Z⟩=U (iI x.first):=RT.cell (GE.2 rfl) 9;have k10:w2.cell? ⟨w.heap.size,10,Z⟩=U (iI x.size):=RT.cell (GE.2 rfl) 10;have K9:=D k;clear k;by_cases hi:r.get x.AN<0\/x.size<=r.get x.AN
  .have hr:=(sj K9 rfl hi).symm.trans GK.out;exact mat
  .have hr:=(zZ K9 rfl rfl hi).symm.trans GK.out;simp only[Prod.mk.injEq] at hr;obtain⟨⟨hr,rfl⟩,rfl⟩:=hr;have HR:=D hr;generalize ZB:r.get x.AN=av at*;have TO:¬av<0:=Y
   have hhi:¬x.size<=av:=Y
   obtain⟨m,hm⟩:∃m:Nat,x.first+av=m:=⟨(x.first+av).toNat,Y⟩;have hmc:m<J cs:=Y
   have Zt:0<=(m:Int):=Y
   have Dg:m<(J cs:Int):=Y
   obtain⟨cb,Ln⟩:=AiA hs.Ak Y;have hw:True->wrap64 (x.first+av)=m:=λ_=>by rw[hm];exact IntWalk.wrap64_in _ (by have:=nj.out;omega)
   have cr:=Aiz hs.Ak Ln;have rd:=LV cr hmc;have rdf:=(A4 cr).2.1 m;rw[Ln];have Hm:=D hm;have S1:=D (hs.trans (Aje hs.Ak Ln hmc (r.get x.a)));clear hs RT hm Ln hi hf cr hmc hr GK;go_wp2;go_ret;refine⟨rfl,g.o,?_⟩;rw[<-HR.out,Hm.out,JW];exact S1.out
 .have k0:w1.cell? ⟨w.heap.size,0,Z⟩=U (.int .u8 111):=by rw[I0 0];show x.cells[0]?=_;unfold Nd.cells;rw[k];rfl
  have hr:=(nR k rfl).symm.trans GK.out;simp only[Prod.mk.injEq] at hr;obtain⟨⟨hr,rfl⟩,rfl⟩:=hr;have HR:=D hr;have c3:w1.cell? ⟨g.b,3,Z⟩=U (m9 g.o.p (J r.An) g.o.c):=(hs.Ak.Ao (i:=0) rfl).cell 3;have HS:=D hs;have xq:J r.An+1<=maxLen:=by have:=Ho.out;unfold maxLen;omega
  have N6:(J r.An+1)*8<=140737488355328:=by have:=Ho.out;omega
  clear hs lB I0 k hr GK;generalize r.get x.a=av at*;obtain⟨i0,hi,Pa⟩:=Jj.1 Rc;simp only[Prod.mk.injEq] at Pa;obtain⟨Re,Va,U9⟩:=Pa;go_wp2_with (first|(at_builtin;refine Bm 8 _ _ _ i0 _ #[iI av] _ HS.Ak (k:=3) rfl Eq Eq underlying31 hi Re Va U9 rfl Y Eq Eq rfl (by simp[Value.oneCell']) xq N6 ?_;intro g6 AL w6 Aw _;have q1:=(Aw.Ak.Ao (i:=0) rfl).cell 3;have q2:=(Aw.Ak.Ao (i:=0) rfl).free 3;have q3:=(Aw.Ak.Ao (i:=0) rfl).lt;have uD:=D Aw;clear Aw c3)|fail);go_ret;refine⟨rfl,⟨U ⟨g6,0,Z⟩,AL⟩,?_⟩;rw[<-HR.out];exact HS.trans (Aen uD)
 .have k0:w1.cell? ⟨w.heap.size,0,Z⟩=U (.int .u8 122):=by rw[I0 0];show x.cells[0]?=_;unfold Nd.cells;rw[k];rfl
  have hr:=(zV k rfl).symm.trans GK.out;simp only[Prod.mk.injEq] at hr;obtain⟨⟨hr,rfl⟩,rfl⟩:=hr;have HR:=D hr;have k11:w1.cell? ⟨w.heap.size,11,Z⟩=U (iI x.CL):=I0 11;have c0:w1.cell? ⟨g.b,0,Z⟩=U (iI (r.pc+1)):=(hs.Ak.Ao (i:=0) rfl).cell 0;have f0:=(hs.Ak.Ao (i:=0) rfl).free 0;have HS:=D hs;have Ht:=D ht;clear hs lB I0 hr GK k ht;generalize r.get x.a=v at*;by_cases hz:v=0
  .have AG:=HR.out;rw[Jb hz] at AG;have hz':(v==0)=V:=by rw[hz];rfl
   have eJ:=D AG;clear hz HR AG;go_wp2;go_ret;refine⟨rfl,g.o,?_⟩;rw[<-eJ.out];have e:=Q8 Ht.out;have:=HS.trans (HS.Ak.set (i:=0) rfl 0 (iI x.CL));rw[<-e] at this⊢;exact this
  .have AG:=HR.out;rw[In hz] at AG;have hz':(v==0)=I:=by rw[Jh];exact hz
   have eJ:=D AG;clear hz HR AG;go_wp2;go_ret;exact⟨rfl,g.o,by rw[<-eJ.out];exact HS.out⟩
 .have k0:w1.cell? ⟨w.heap.size,0,Z⟩=U (.int .u8 108):=by rw[I0 0];show x.cells[0]?=_;unfold Nd.cells;rw[k];rfl
  have hr:=(z8 k).symm.trans GK.out;simp only[Prod.mk.injEq] at hr;obtain⟨⟨hr,rfl⟩,rfl⟩:=hr;have HR:=D hr;have k9:w1.cell? ⟨w.heap.size,12,Z⟩=U (iI x.n):=I0 12;have k10:w1.cell? ⟨w.heap.size,13,Z⟩=U (iI x.Af):=I0 13;have c2:w1.cell? ⟨g.b,2,Z⟩=U (m9 g.d.p 3 g.d.c):=(hs.Ak.Ao (i:=0) rfl).cell 2;obtain⟨db,dc,ed,_⟩:=Av (hs.Ak.row (i:=2) rfl) Do;have ed':g.d.p=U ⟨db,0,Z⟩:=by injection ed
  obtain⟨j,hj⟩:∃j:Nat,x.Af=j:=⟨x.Af.toNat,Y⟩;rw[hj] at k10 hd;have hj0:0<=(j:Int):=Y
  have hj1:(j:Int)<3:=Y
  have yN:=Aiw hs.Ak ed';have rc:=LV yN (by have:=Hrl.out;show j<J r.DE;omega);rw[ed'] at c2;have Hj:=D hj;have S1:=D (hs.trans (Ag8 hs.Ak ed' (by show j<J r.DE;have:=Hrl.out;omega) x.n));clear hs lB I0 hr GK yN hj ed ed' k hd;go_upto_region 29 with fail
  refine AO (l:=sq [] 0 9) (λW=>W.cell? ⟨g.b,2,Z⟩=U (m9 (U ⟨db,0,Z⟩) 3 g.d.c)/\W.cell? ⟨w.heap.size,13,Z⟩=U (iI j)/\W.cell? ⟨w.heap.size,12,Z⟩=U (iI x.n)) 9 ⟨c2,k10,k9⟩ ?_;refine Fg ?_;refine A7 rfl (λK hK=>?_);go_simp;refine hK _ _ (λh=>Jk h Do) ?_;clear hK;simp only[Cr];go_wp2;go_ret;refine⟨rfl,g.o,?_⟩;rw[<-HR.out,Hj.out,JW];exact S1.trans (Ai.drew S1.Ak)
 .have k0:w1.cell? ⟨w.heap.size,0,Z⟩=U (.int .u8 98):=by rw[I0 0];show x.cells[0]?=_;unfold Nd.cells;rw[k];rfl
  have hr:=(nS k rfl).symm.trans GK.out;simp only[Prod.mk.injEq] at hr;obtain⟨⟨hr,rfl⟩,rfl⟩:=hr;have HR:=D hr;have k10:w1.cell? ⟨w.heap.size,13,Z⟩=U (iI x.Af):=I0 13;have c2:w1.cell? ⟨g.b,2,Z⟩=U (m9 g.d.p 3 g.d.c):=(hs.Ak.Ao (i:=0) rfl).cell 2;obtain⟨db,dc,ed,_⟩:=Av (hs.Ak.row (i:=2) rfl) Do;have ed':g.d.p=U ⟨db,0,Z⟩:=by injection ed
  obtain⟨j,hj⟩:∃j:Nat,x.Af=j:=⟨x.Af.toNat,Y⟩;rw[hj] at k10 hd;have hj3:j<3:=Y
  have hj0:0<=(j:Int):=Y
  have hj1:(j:Int)<3:=Y
  have yN:=Aiw hs.Ak ed';have rc:=LV yN (by have:=Hrl.out;show j<J r.DE;omega);rw[ed'] at c2;have Hj:=D hj;have Hed:=D ed';rw[hj,JW] at hq;obtain⟨v,hv⟩:∃v,v=r.DE.getD j 0:=⟨_,rfl⟩;rw[show RR.DE {r with pc:=r.pc+1}=r.DE from rfl,<-hv] at rc;rw[<-hv] at hq;obtain⟨q1,q2⟩:=hq;have s1:=hs.trans (Ag8 hs.Ak ed' (by show j<J r.DE;have:=Hrl.out;omega) (v-1));have HK2:=D (lB.step (Ag8 hs.Ak ed' (by show j<J r.DE;have:=Hrl.out;omega) (v-1)));have S1:=D s1;have Hv:=D hv;have Ht:=D ht;have Fu:True->IntKind.i64.wrap (v-1)=v-1:=λ_=>IntWalk.i64_in _ Y
  clear hs lB I0 hr GK yN hj ed ed' k hd hv s1 ht;go_upto_region 31 with fail
  refine AO (l:=sq [] 0 10) (λW=>W.cell? ⟨g.b,2,Z⟩=U (m9 (U ⟨db,0,Z⟩) 3 g.d.c)/\W.cell? ⟨w.heap.size,13,Z⟩=U (iI j)/\W.cell? ⟨db,j,Z⟩=U (iI v)) 10 ⟨c2,k10,rc⟩ ?_;refine Fg ?_;refine A7 rfl (λK hK=>?_);go_simp;refine hK _ _ (λh=>Jk h Do) ?_;clear hK;simp only[Cr];have s4:=S1.trans (Ai.drew S1.Ak);have K2:=HK2.quiet ((Az.refl [] _).drew);clear S1 HK2 k10 c2 rc k0 Amk;generalize (w1.setCell ⟨db,j,Z⟩ (iI (v-1))).drew=w2 at s4 K2⊢;have d10:w2.cell? ⟨w.heap.size,13,Z⟩=U (iI j):=by rw[K2.cell (GE.2 rfl) 13,<-Hj.out];rfl
  have d11:w2.cell? ⟨w.heap.size,11,Z⟩=U (iI x.CL):=K2.cell (GE.2 rfl) 11;have c0:w2.cell? ⟨g.b,0,Z⟩=U (iI (r.pc+1)):=(s4.Ak.Ao (i:=0) rfl).cell 0;have e2:w2.cell? ⟨g.b,2,Z⟩=U (m9 (U ⟨db,0,Z⟩) 3 g.d.c):=by rw[<-Hed.out];exact(s4.Ak.Ao (i:=0) rfl).cell 2
  have f0:=(s4.Ak.Ao (i:=0) rfl).free 0;have rd:=LV (Aiw s4.Ak Hed) (by show j<(r.DE.set j (v-1)).length;rw[Ju];have:=Hrl.out;omega);rw[show(RR.DE {r with pc:=r.pc+1,DE:=r.DE.set j (v-1)}).getD j 0=v-1 by show(r.DE.set j (v-1)).getD j 0=_;rw[B6 _ _ _ _ _ (by have:=Hrl.out;omega),Jb rfl]] at rd;have HS:=D s4;have AG:=HR.out;rw[Hj.out,JW,<-Hv.out] at AG;have ij:=D AG;clear s4 K2 HR AG;by_cases hz:0<v-1
  .have AG:=ij.out;rw[Jb hz] at AG;have eJ:=D AG;clear AG;go_upto_region 32 with fail
   go_quiet (fail)
   go_wp2;go_ret;refine⟨rfl,g.o,?_⟩;rw[<-eJ.out];have e:=Q8 Ht.out;have s4:=HS.drewN nq;have s5:=s4.trans (s4.Ak.set (i:=0) rfl 0 (iI x.CL));rw[<-e] at s5⊢;exact s5
  .have AG:=ij.out;rw[In hz] at AG;have eJ:=D AG;clear AG;go_upto_region 32 with fail
   go_quiet (fail)
   go_wp2;go_ret;exact⟨rfl,g.o,by rw[<-eJ.out];exact HS.drewN _⟩
theorem Aed (hs:Vu x r 0) (ho:J r.An<=60000) (Tb:r.pc<=1000000) (h:Aq w (g.run r++E)):
  Calls prog 44 #[iJ g.b,x.val,m9 Z 0 0] w (AmR g r E w (r.step x []).1.1 (r.step x []).2):=by
 have h1:=Ai.H9 h 2 1;refine(sC (c:=⟨Z,0⟩) (cs:=[]) hs ho Do Tb h1.Ak).mono ?_;rintro e w' ⟨he,o,S⟩;exact⟨he,o,(h1.trans S).trans (Ai.drop (B:=[_]) (by rw[Ji];exact S.Ak))⟩
theorem Zg (h:∃m,P m):∃m,P m/\∀k,P k->m<=k:=by
 obtain⟨m,hm⟩:=h;induction m using Nat.strongRecOn with
 |ind m ih=>
  by_cases hk:∃k,k<m/\P k
  .obtain⟨k,h1,h2⟩:=hk;exact ih k h1 h2
  .exact⟨m,hm,λk Mo=>Nat.le_of_not_lt λh3=>hk ⟨k,h3,Mo⟩⟩
open Classical in
noncomputable def NW (P:Nat->Prop):Nat:=if h:∃m,P m then Classical.choose (Zg h) else 0
theorem TJ (h:∃m,P m):P (NW P):=by
 unfold NW;rw[dif_pos h];exact(Classical.choose_spec (Zg h)).1
theorem Zf (h:P m):NW P<=m:=by
 have h':∃m,P m:=⟨m,h⟩;unfold NW;rw[dif_pos h'];exact(Classical.choose_spec (Zg h')).2 m h
theorem Agd (h:(CK a l).holds w) (hi:l[i]?=U x):∃nb,a.p=U ⟨nb,0,Z⟩/\∀j,j<14->w.cell? ⟨nb,i*14+j,Z⟩=x.cells[j]?:=by
 obtain⟨hlt,e⟩:=Jn.1 hi;obtain⟨nb,nc,ec,_,_,_,_,hc,_⟩:=Av (show w.ownsRow 0 _ 14 _ (J l) (Bk l) from h) Y;refine⟨nb,by injection ec,λj hj=>?_⟩;have hq:i*14+j<(Bk l).length:=by rw[DZ];omega
 rw[hc _ hq,<-Ja,Ir l i j hlt hj,Je,hi];rfl
theorem Ahp {b:Nat} (h:∀j,j<14->w.cell? ⟨b,k*14+j,Z⟩=x.cells[j]?):w.cell? ⟨b,k*14,Z⟩=U (.int .u8 x.kind)/\w.cell? ⟨b,k*14+1,Z⟩=U (iI x.v)/\w.cell? ⟨b,k*14+2,Z⟩=U (qA x.op)/\w.cell? ⟨b,k*14+3,Z⟩=U (qB x.a.AX)/\w.cell? ⟨b,k*14+4,Z⟩=U (iI x.a.v)/\w.cell? ⟨b,k*14+5,Z⟩=U (qB x.b.AX)/\w.cell? ⟨b,k*14+6,Z⟩=U (iI x.b.v)/\w.cell? ⟨b,k*14+7,Z⟩=U (qB x.AN.AX)/\w.cell? ⟨b,k*14+8,Z⟩=U (iI x.AN.v)/\w.cell? ⟨b,k*14+9,Z⟩=U (iI x.first)/\w.cell? ⟨b,k*14+10,Z⟩=U (iI x.size)/\w.cell? ⟨b,k*14+11,Z⟩=U (iI x.CL)/\w.cell? ⟨b,k*14+12,Z⟩=U (iI x.n)/\w.cell? ⟨b,k*14+13,Z⟩=U (iI x.Af):=
 ⟨h 0 Do,h 1 Do,h 2 Do,h 3 Do,h 4 Do,h 5 Do,h 6 Do,h 7 Do,h 8 Do,h 9 Do,h 10 Do,h 11 Do,h 12 Do,h 13 Do⟩
def AmY (g:NG) (r:RR) (E:List Ob) (w:World) (u:RR) (e:Ending) (w':World):Prop:=e= qF (qC #[])/\∃o:SG,Ai w (g.run r++E) w' (NG.run {g with o:=o} u++E)
def AfZ (l:List Nd) (g:NG) (r:RR) (E:List Ob) (w:World) (u:RR) (wr:World) (m:Nat):Prop:=∃(r':RR) (o:SG),Ai w (g.run r++E) wr (NG.run {g with o:=o} r'++E)/\Gd l m r' u
theorem V3 (l:List Nd) (a:SG) (E:List Ob) (hN:CK a l∈E) (hl:J l<=1000000) (g:NG) (r u:RR) (m:Nat) (w:World) (h:Aq w (g.run r++E)) (hm:Gd l m r u):
  Calls prog 43 #[iJ g.b,m9 a.p (J l) a.c] w (AmY g r E w u):=by
 have H:=D h;have HN:=D hN;have HM:=D hm;have Hl:=D hl;clear h hN hm hl;go_enter func43,ntmps43;go_wp2;go_loopw [4] (λ_ wr=>∃m,AfZ l g r E w u wr m) (λ_ wr=>NW (AfZ l g r E w u wr));case atStart=>exact⟨m,r,g.o,Ai.refl H,HM⟩
 case round=>
  have hx:=hrel;have hx2:=TJ hx;generalize yP:NW (AfZ l g r E w u wr)=mm at*;obtain⟨r',o,hs,hk⟩:=hx2;have Hmm:=D yP;have HX:=D hx;clear yP hx;have Fo:wr.cell? ⟨g.b,0,Z⟩=U (iI r'.pc):=(hs.Ak.Ao (i:=0) rfl).cell 0;have pN:wr.cell? ⟨g.b,5,Z⟩=U (iI r'.Au):=(hs.Ak.Ao (i:=0) rfl).cell 5;have f5:=(hs.Ak.Ao (i:=0) rfl).free 5;have l5:=(hs.Ak.Ao (i:=0) rfl).lt;have HS:=D hs;clear hs;dsimp only at f5 l5;have HNN:=D (λi x hi=>Agd (i:=i) (x:=x) (HS.Ak.holds _ (Jc _ HN)) hi);cases hk with
  |done h0=>
   have pR:(u.Au==0)=I:=by rw[Jh];exact h0
   clear h0;go_wp2
   go_end0
   exact⟨rfl,o,HS⟩
  |halt h0 hn=>
   have pR:(r'.Au==0)=V:=by rw[h0];rfl
   have aZ:(J l:Int)<=(r'.pc:Int):=by have:=List.getElem?_eq_none_iff.1 hn;omega
   clear h0 hn;go_wp2
   go_end0
   exact⟨rfl,o,HS.trans (HS.Ak.set (i:=0) rfl 5 (iI 10))⟩
  |Ao h0 hx Mo=>
   rename_i x;have pR:(u.Au==0)=V:=by rw[h0];rfl
   obtain⟨nb,en,hc⟩:=HNN.out _ _ hx;have hlt:=(Jn.1 hx).1;have aZ:¬(J l:Int)<=(u.pc:Int):=Y
   have gf:(0:Int)<=(u.pc:Int):=Y
   have N0:(u.pc:Int)<(J l:Int):=Y
   obtain⟨c0,c1,c2,c3,c4,c5,c6,c7,c8,c9,c10,c11,c12,c13⟩:=Ahp hc;rw[en];clear h0 hx hc en hlt;go_wp2
   go_end0
   exact⟨rfl,o,HS.trans (Ai.alloc HS.Ak _)⟩
  |step h0 hx Mo hg hb k2=>
   rename_i mk x;have pR:(r'.Au==0)=V:=by rw[h0];rfl
   obtain⟨nb,en,hc⟩:=HNN.out _ _ hx;have hlt:=(Jn.1 hx).1;have aZ:¬(J l:Int)<=(r'.pc:Int):=Y
   have gf:(0:Int)<=(r'.pc:Int):=Y
   have N0:(r'.pc:Int)<(J l:Int):=Y
   obtain⟨c0,c1,c2,c3,c4,c5,c6,c7,c8,c9,c10,c11,c12,c13⟩:=Ahp hc;have AnV:((x.kind:Int)==40)=I:=by rw[Jh];omega
   have xz:=Ai.alloc HS.Ak (qG x.cells.toArray 110);have Hs:=D (Aed hb.1 hb.2 (by have:=Hl.out;omega) xz.Ak);have rV:=D (HS.trans xz);have HK2:=D k2;rw[en];clear h0 hx hc en hlt Mo hg hb xz k2 HM H HS HX hrel HNN;go_wp2_with fail;rw[<-Abi];refine Hs.mono ?_;rintro e w2 ⟨rfl,o2,MU⟩;have GL:=D (rV.trans MU);clear MU rV Hs;generalize (r'.step x []).2=bb;go_wp2;go_roundw;case rel=>exact⟨mk,_,o2,GL,HK2⟩
   case measure=>
    have h1:NW (AfZ l g r E w u w2)<=mk:=Zf ⟨_,o2,GL,HK2⟩;have:=Hmm.out;omega
theorem mk4 (w:World):(Instr.makeSlice 31 (iI 4) (iI 4)).run prog w=.ok (m9 (U ⟨w.heap.size,0,Z⟩) 4 4) (w.alloc (qG #[iI 0,iI 0,iI 0,iI 0] 2)):=Fd
theorem oN (w:World):(Instr.makeSlice 29 (iI 3) (iI 3)).run prog w=.ok (m9 (U ⟨w.heap.size,0,Z⟩) 3 3) (w.alloc (qG #[iI 0,iI 0,iI 0] 3)):=Fd
theorem AfM {b:Nat} {c:Array Value} {T:TypeId} (hc:c.size=n) (hn:n<=maxLen) (h:Aq w (L++[.Ao b c T])):
  Ai w (L++[.Ao b c T]) w (L++[.row (m9 (U ⟨b,0,Z⟩) n n) T 1 n c.toList]):=by
 exact mav
theorem newRow (h:Aq w L) {n:Nat} {c:Array Value} {T:TypeId} (hc:c.size=n) (hn:n<=maxLen):Ai w L (w.alloc (qG c T)) (.row (m9 (U ⟨w.heap.size,0,Z⟩) n n) T 1 n c.toList::L):=by
 have s:=Ai.new h (qG c T);have s2:=s.trans (AfM hc hn s.Ak);exact s2.trans (Ai.VU s2.Ak J4)
theorem Gp (w:World) (o:Obj):(w.alloc o).heap.size=w.heap.size+1:=by show(w.heap.push o).size=_;simp
def oV:Obj:= qG #[iI 0,iI 0,iI 0,iI 0] 2
def oD:Obj:= qG #[iI 0,iI 0,iI 0] 3
def oR (a b:Nat):Obj:= qG #[iI 0,m9 (U ⟨a,0,Z⟩) 4 4,m9 (U ⟨b,0,Z⟩) 3 3,m9 Z 0 0,iI 0,iI 0] 74
theorem AmM (h:Aq w E):Ai w E ((((w.alloc oV).alloc oD).alloc (oR w.heap.size (w.heap.size+1))).drew) (NG.run ⟨w.heap.size+1+1,⟨U ⟨w.heap.size,0,Z⟩,4⟩,⟨U ⟨w.heap.size+1,0,Z⟩,3⟩,⟨Z,0⟩⟩ .start++E):=by
 have s1:=newRow h (n:=4) (c:= #[iI 0,iI 0,iI 0,iI 0]) (T:=2) rfl (by unfold maxLen;omega);have s2:=s1.trans (newRow s1.Ak (n:=3) (c:= #[iI 0,iI 0,iI 0]) (T:=3) rfl (by unfold maxLen;omega));have s3:=s2.trans (Ai.NP s2.Ak (oR w.heap.size (w.heap.size+1)));simp only[Gp] at s3;have s4:=(s3.trans (Ai.H9 (A:=[_,_,_]) s3.Ak 2 1)).trans (Ai.drew (s3.trans (Ai.H9 (A:=[_,_,_]) s3.Ak 2 1)).Ak);exact s4.trans (Ai.VU s4.Ak ((List.Perm.swap _ _ _).cons _))
theorem AmL (h:Aq w E):Ai w E ((((w.alloc oD).alloc oV).alloc (oR (w.heap.size+1) w.heap.size)).drew) (NG.run ⟨w.heap.size+1+1,⟨U ⟨w.heap.size+1,0,Z⟩,4⟩,⟨U ⟨w.heap.size,0,Z⟩,3⟩,⟨Z,0⟩⟩ .start++E):=by
 have s1:=newRow h (n:=3) (c:= #[iI 0,iI 0,iI 0]) (T:=3) rfl (by unfold maxLen;omega);have s2:=s1.trans (newRow s1.Ak (n:=4) (c:= #[iI 0,iI 0,iI 0,iI 0]) (T:=2) rfl (by unfold maxLen;omega));have s3:=s2.trans (Ai.NP s2.Ak (oR (w.heap.size+1) w.heap.size));simp only[Gp] at s3;have s4:=(s3.trans (Ai.H9 (A:=[_,_,_]) s3.Ak 2 1)).trans (Ai.drew (s3.trans (Ai.H9 (A:=[_,_,_]) s3.Ak 2 1)).Ak);exact s4
def Anl (E:List Ob) (w:World) (u:RR) (e:Ending) (w':World):Prop:=∃g:NG,e= qF (iJ g.b)/\Ai w E w' (g.run u++E)
theorem yd (l:List Nd) (a:SG) (E:List Ob) (hN:CK a l∈E) (hl:J l<=1000000) (u:RR) (m:Nat) (w:World) (h:Aq w E) (hm:Gd l m .start u):
  Calls prog 27 #[m9 a.p (J l) a.c] w (Anl E w u):=by
 have m4:=mk4;have m3:=oN;have H:=D h;have HN:=D hN;have HM:=D hm;have Hl:=D hl;clear h hN hm hl;go_enter func27,ntmps27;go_wp2
 go_region
 .have hs:=AmM H.out;exact maE
 .have hs:=AmL H.out;exact maE
theorem Ajg (h:w.ownsRow 0 e s v n xs):∃g:SG,v= m9 g.p n g.c:=by
 rcases h.2 with⟨hp,hn⟩|⟨b,cap,Ic,hv,_⟩
 .exact⟨⟨Z,0⟩,by rw[hp,hn]⟩
 .exact⟨⟨_,cap⟩,hv⟩
theorem AaD {P:Program} {ty:TypeId} {i:TypeInfo} {bytes c:Nat} (ht:P.underlying t=U (.slice e)) (hi:P.info? e=U i) (hz:i.zero=U z)
  (Rl:i.size=1) (hby:i.bytes=bytes) (hzs:z.cells.size=1) (hr:w.ownsRow 0 e 1 (m9 p n c) n xs) (h1:∀u∈xs,u.oneCell'=V) (h63:n<=maxLen) (L8:n*bytes<=140737488355328):
  ∃(g:SG) (w':World),(Builtin.append_ #[t,t] ty #[m9 Z 0 0,m9 p n c]).run P w=.ok (m9 g.p n g.c) w'/\w'.ownsRow 0 e 1 (m9 g.p n g.c) n xs/\Az [] w w'/\∀b,(m9 g.p n g.c).ownBlock=U b->w.heap.size<=b:=by
 have hl:=hr.1;rcases hr.2 with⟨hp,hn⟩|⟨b,cap,Ic,hv,_⟩
 .injection hp with q1 q2 q3
  subst q1;subst q2;subst q3;have:=Jm Y;subst this;refine⟨⟨Z,0⟩,w,?_,ownsRow_nil _ _ _ _,Az.refl _ _,λb h=>by simp[Value.ownBlock] at h⟩;simp[Builtin.append_,run_underlying ht,sizeOf,typeInfo,hi,Builtin.lenOf,Builtin.firstCells,loadCells,loadCellsFrom]
 .injection hv with q1 _ q3
  subst q1;subst q3;obtain⟨v',w',h2,h3,h4,_,h6⟩:=run_append_own_at w 0 t ty e i z 1 bytes ht hi hz Rl hby hzs Y (m9 Z 0 0) 0 [] (World.ownsRow_nil w 0 e 1) ⟨b,0,Z⟩ n c xs hl (hr.cells rfl) h1 Y (by rw[JH];exact L8) (Jr _);rw[JH,JF] at h3;obtain⟨g,rfl⟩:=Ajg h3;refine⟨g,w',h2,h3,⟨h4.os,h4.tape,h4.output,h4.size,λk hk _=>h4.block k hk (by simp[Value.ownBlock])⟩,λb hb=>?_⟩;rcases h6 with h6|h6
  .rw[h6] at hb;simp[Value.ownBlock] at hb
  .rw[h6] at hb;injection hb with hb;omega
theorem zX (h:Aq w L) (m:Az [] w w') (hr:w'.ownsRow 0 e s v n xs) (hn:∀b,v.ownBlock=U b->w.heap.size<=b):Ai w L w' (.row v e s n xs::L):=by
 have h2:=(Ai.quiet h m).Ak;refine⟨⟨λo ho=>?_,?_⟩,m.nil,λb hb=>?_⟩
 .rcases Jl.1 ho with rfl|h1
  .exact hr
  .exact h2.holds o h1
 .show(v.ownBlock.toList++Et L).Nodup;cases hv:v.ownBlock with
  |none=>exact h2.K7
  |some b=>
   exact JU.2 ⟨λhb=>by have:=h.lt b hb;have:=hn b hv;omega,h2.K7⟩
 .have tK:b∈v.ownBlock.toList++Et L:=hb;rcases Jp.1 tK with h1|h1
  .exact .inr (hn b (by cases hv:v.ownBlock with|none=>rw[hv] at h1;cases h1|some a=>rw[hv] at h1;rw[GE.1 h1]))
  .exact .inl h1
theorem da {P:Program} {rest:List Oper} {a:Act} {c:Nat} (bytes:Nat) (s x:Operand) (t:TypeId) (i:TypeInfo) (z:Value)
  (hL:Aq w L) (hr:w.ownsRow 0 e 1 (m9 p n c) n xs) (hgd:o.guard=Z) (ho:o.op=.call {callee:=.builtin .append,args:= #[s,x],argTypes:= #[t,t]})
  (ht:P.underlying t=U (.slice e)) (hi:P.info? e=U i) (hz:i.zero=U z) (Rl:i.size=1) (hby:i.bytes=bytes) (hzs:z.cells.size=1)
  (hs:a.eval s= m9 Z 0 0) (hx:a.eval x= m9 p n c) (h1:∀u∈xs,u.oneCell'=V) (h63:n<=maxLen) (L8:n*bytes<=140737488355328)
  (h:∀(g:SG) w',Ai w L w' (.row (m9 g.p n g.c) e 1 n xs::L)->wpList P Bf Q rest (a.put o.dst (m9 g.p n g.c)) w'):wpList P Bf Q (o::rest) a w:=by
 obtain⟨g,w',h2,h3,h4,h5⟩:=AaD (ty:=o.type) ht hi hz Rl hby hzs hr h1 h63 L8;refine wpList_plain hgd λK hK=>?_
 unfold Oper.wp execOp;simp only[ho,resolve,invoke,builtin,Sem.run_bind,Sem.run_pure,Result.andThen_ok,List.map_toArray,Js,Qu,hs,hx,h2];exact hK _ _ (h g w' (zX hL h4 h3 h5))
theorem YC (r:RR) (x:Nd) (cs:List Int):(r.step x cs).1.1.Ck=r.Ck/\J r.An<=(r.step x cs).1.1.An.length/\(r.step x cs).1.2.length=J cs:=by
 unfold RR.step
 repeat' split
 all_goals first|exact⟨rfl,Jf _,rfl⟩|exact⟨rfl,EQ,EQ⟩
theorem O3.AJ {cs:List Int} (h:O3 l n r cs u cu b):u.Ck=r.Ck/\J r.An<=J u.An/\J cu=J cs:=by
 induction h with
 |D1=>exact⟨rfl,Jf _,rfl⟩
 |CR hx hk hb hs=>
  rename_i r r' cs cs' x;have:=YC r x cs;rw[hs] at this;exact this
 |step hx hk hb hs _ ih=>
  rename_i r r1 r' cs cs1 cs' x b _;have h1:=YC r x cs;rw[hs] at h1;exact⟨ih.1.trans h1.1,QA h1.2.1 ih.2.1,ih.2.2.trans h1.2.2⟩
theorem O3.lt {cs:List Int} (h:O3 l n r cs u cu b):r.pc<J l:=by
 cases h with
 |D1 hx=>exact(Jn.1 hx).1
 |CR hx=>exact(Jn.1 hx).1
 |step hx=>exact(Jn.1 hx).1
theorem Aef {c:Nat} (h:w.ownsRow 0 e 1 (m9 p n c) n xs) (hk:k<=n):w.ownsRow 0 e 1 (m9 p k c) k (xs.take k):=by
 rcases h.2 with⟨hp,hn⟩|⟨b,cap,Ic,hv,_⟩
 .injection hp with q1 q2 q3
  subst q1;subst q2;subst q3;have e0:k=0:=Y
  subst e0;exact ownsRow_nil _ _ _ _
 .injection hv with q1 _ q3
  subst q1;subst q3;have:=UJ h k hk;rw[jQ] at this;exact this
theorem fB (p:Option Addr) (n k c:Nat):(m9 p n c).ownBlock=(m9 p k c).ownBlock:=by
 cases p<;>rfl
theorem Ai.cut {c:Nat} (h:Aq w L) (hi:L[i]?=U (.row (m9 p n c) e 1 n xs)) (k:Nat) (hk:k<=n):
  Ai w L w (L.set i (.row (m9 p k c) e 1 k (xs.take k))):=
 h.swap hi (Az.refl _ _) (Aef (h.get hi) hk) (by show(Option.toList _).Nodup;cases (m9 p k c).ownBlock<;>simp) (λb hb=> .inl (by
   have tK:b∈(m9 p k c).ownBlock.toList:=hb;rw[fB p k n c] at tK;exact tK))
theorem AfC (a b:List Int) (i:Nat) (ha:i<J a) (hb:i<J b):(a.take i++b.drop i).set i (a.getD i 0)=a.take (i+1)++b.drop (i+1):=by
 have e1:(a.take i).length=i:=by rw[LE];omega
 rw[JO hb,List.set_append,In Y,e1,QQ,QY,i6,Ja ha,Je,Ja ha,Ji];rfl
theorem Ai.YQ {M:List Ob} (h:Ai w L w' L') (p:L'.Perm M):Ai w L w' M:=h.trans (Ai.VU h.Ak p)
theorem AfB (h:Aq w (g.run r++E)) (k:Nat) (hk:k<=J r.An):Ai w (g.run r++E) (w.setCell ⟨g.b,3,Z⟩ (m9 g.o.p k g.o.c)) (g.run {r with An:=r.An.take k}++E):=by
 have s1:=Ai.cut h (i:=3) rfl k hk;have s:=s1.trans (s1.Ak.set (i:=0) rfl 3 (m9 g.o.p k g.o.c));have e0:B9 (r.An.take k)=(B9 r.An).take k:=by unfold B9;rw[List.map_take]
 unfold NG.run NG.cells at s⊢;dsimp only at s⊢;rw[e0,LE,Nat.min_eq_left hk];exact s
theorem Aem (h:Aq w (g.run r++E)):(g.o.p=Z/\J r.An=0/\g.o.c=0)\/∃b,g.o.p=U ⟨b,0,Z⟩/\J r.An<=g.o.c:=by
 rcases (h.row (i:=3) rfl).2 with⟨hp,hn⟩|⟨b,cap,Ic,hv,_,_,hc,_⟩
 .injection hp with q1 q2 q3
  exact .inl ⟨q1,hn,q3⟩
 .injection hv with q1 _ q3
  exact .inr ⟨b,q1,by rw[q3];exact hc⟩
def AlA (g:NG) (c:SG) (r:RR) (cs:List Int) (E:List Ob) (w:World) (u:RR) (cs':List Int) (e:Ending) (w':World):Prop:=e= qF (qC #[])/\∃o:SG,Ai w (g.run r++BC c cs::E) w' (NG.run {g with o:=o} u++BC c cs'::E)
def Af3 (l:List Nd) (L:List Ob) (w:World) (g:NG) (m:SG) (E:List Ob) (u:RR) (cu:List Int) (b:Bool) (wr:World) (k:Nat):Prop:=∃(r':RR) (cs':List Int) (o:SG),Ai w L wr (NG.run {g with o:=o} r'++BC m cs'::E)/\O3 l k r' cs' u cu b
theorem O3.AmN {cs:List Int} (h:O3 l k r cs u cu b) (hx:l[r.pc]?=U x) (hk:x.kind=41):r=u/\cs=cu/\b=V:=by
 cases h with
 |D1=>exact⟨rfl,rfl,rfl⟩
 |CR DS MY=>rw[hx] at DS;cases DS;exact Jk hk MY
 |step DS MY=>rw[hx] at DS;cases DS;exact Jk hk MY
theorem O3.next {cs:List Int} (h:O3 l k r cs u cu b) (hx:l[r.pc]?=U x) (hk:x.kind≠41):(Vu x r (J cs)/\J r.An<=60000)/\
  (((r.step x cs).2=I/\(r.step x cs).1=(u,cu)/\b=I)\/((r.step x cs).2=V/\∃m,k=m+1/\O3 l m (r.step x cs).1.1 (r.step x cs).1.2 u cu b)):=by
 cases h with
 |D1 DS MY=>rw[hx] at DS;cases DS;exact Jk MY hk
 |CR DS MY hb hs=>rw[hx] at DS;cases DS;exact⟨hb,.inl (by rw[hs];exact⟨rfl,rfl,rfl⟩)⟩
 |step DS MY hb hs k=>rw[hx] at DS;cases DS;exact⟨hb,.inr (by rw[hs];exact⟨rfl,_,rfl,k⟩)⟩
theorem Pk.split {cs cs':List Int} (h:Pk l r cs u cs'):∃n u1 cu b,O3 l n {r with Ck:=J r.An,pc:=r.pc+1} cs u1 cu b/\(b=V->cs'=cu/\∃m,Gd l m {u1 with pc:=u1.pc+1} u)/\(b=I->cs'=cs/\u={u1 with An:=u1.An.take (J r.An)}):=by
 cases h with
 |ok h k=>exact⟨_,_,_,V,h,λ_=>⟨rfl,_,k⟩,λh=>(by cases h)⟩
 |CR h=>exact⟨_,_,_,I,h,λh=>(by cases h),λ_=>⟨rfl,rfl⟩⟩
theorem ya (l:List Nd) (a:SG) (E:List Ob) (hN:CK a l∈E) (hl:J l<=1000000) (g:NG) (c:SG) (r u:RR) (cs cs':List Int) (B8:J cs<=1000000) (w:World) (h:Aq w (g.run r++BC c cs::E)) (hm:Pk l r cs u cs'):
  Calls prog 28 #[iJ g.b,m9 a.p (J l) a.c,m9 c.p (J cs) c.c] w (AlA g c r cs E w u cs'):=by
 obtain⟨n,u1,cu,b,Pv,h1,h2⟩:=hm.split;have hk:=Pv.AJ;have Tb:r.pc+1<J l:=Pv.lt;obtain⟨i0,hi,Pa⟩:=Jj.1 Rc;simp only[Prod.mk.injEq] at Pa;obtain⟨Re,Va,U9⟩:=Pa;have gY:w.cell? ⟨g.b,3,Z⟩=U (m9 g.o.p (J r.An) g.o.c):=(h.Ao (i:=0) rfl).cell 3;have hb4:w.cell? ⟨g.b,4,Z⟩=U (iI r.Ck):=(h.Ao (i:=0) rfl).cell 4;have f4:=(h.Ao (i:=0) rfl).free 4;have lt:=(h.Ao (i:=0) rfl).lt;have s0:Ai w (g.run r++BC c cs::E) (w.setCell ⟨g.b,4,Z⟩ (iI (J r.An))) (g.run {r with Ck:=J r.An}++BC c cs::E):=h.set (i:=0) rfl 4 _;have gV:True->wrap64 ((r.pc:Int)+1)=((r.pc+1:Nat):Int):=λ_=>IntWalk.wrap64_in _ Y
 have S0:=D s0;have HN:=D hN;have Hl:=D hl;have Hin:=D Pv;have H1:=D h1;have H2:=D h2;have Hk:=D hk;have nj:=D B8;clear h hN Pv h1 h2 hk hm s0 hl Tb B8;go_enter func28,ntmps28;go_wp2_with (first|(at_builtin;refine da 8 _ _ _ i0 _ S0.Ak (S0.Ak.row (i:=4) rfl) rfl Eq underlying31 hi Re Va U9 rfl Eq Eq (by simp[B9,Value.oneCell']) (by have:=nj.out;unfold maxLen;omega) (by have:=nj.out;omega) ?_;intro m w1 dt;have q0:w1.cell? ⟨g.b,0,Z⟩=U (iI r.pc):=(dt.Ak.Ao (i:=1) rfl).cell 0;have q1:=(dt.Ak.Ao (i:=1) rfl).free 0;have q2:=(dt.Ak.Ao (i:=1) rfl).lt;have HS:=D (S0.trans dt);clear dt gY hb4 f4 lt)|fail);have MU:=Ai.YQ HS (jW).symm;have hs3:Ai w (g.run r++BC c cs::E) (w1.setCell ⟨g.b,0,Z⟩ (iI (r.pc+1:Nat))) (g.run {r with Ck:=J r.An,pc:=r.pc+1}++BC m cs::BC c cs::E):=MU.trans (MU.Ak.set (i:=0) rfl 0 _);have S3:=D hs3;clear MU hs3 HS S0;go_loopw [7] (λ_ wr=>∃k,Af3 l (g.run r++BC c cs::E) w g m (BC c cs::E) u1 cu b wr k) (λ_ wr=>NW (Af3 l (g.run r++BC c cs::E) w g m (BC c cs::E) u1 cu b wr));case atStart=>exact⟨n,_,cs,g.o,S3,Hin⟩
 case round=>
  have hx:=hrel;have hx2:=TJ hx;generalize yP:NW (Af3 l (g.run r++BC c cs::E) w g m (BC c cs::E) u1 cu b wr)=mm at*;obtain⟨r',d1,o,hs,hk⟩:=hx2;have Hmm:=D yP;have HX:=D hx;have hlt:=hk.lt;have SH:=hk.AJ;clear yP hx S3 q0 q1 q2 Hin;have Fo:wr.cell? ⟨g.b,0,Z⟩=U (iI r'.pc):=(hs.Ak.Ao (i:=0) rfl).cell 0;have f0:=(hs.Ak.Ao (i:=0) rfl).free 0;obtain⟨x,hx⟩:∃x,l[r'.pc]?=U x:=⟨_,Ja hlt⟩;obtain⟨nb,en,hc⟩:=Agd (hs.Ak.holds _ (Jc _ (.tail _ (.tail _ HN)))) hx;have gf:0<=(r'.pc:Int):=Y
  have N0:r'.pc<(J l:Int):=Y
  have HS:=D hs;have HK:=D hk;have HKK:=D SH;obtain⟨c0,c1,c2,c3,c4,c5,c6,c7,c8,c9,c10,c11,c12,c13⟩:=Ahp hc;rw[en];clear hs hk SH hc hlt;by_cases Akk:x.kind=41
  .obtain⟨e1,e2,e3⟩:=HK.AmN hx Akk;subst e1 e2 e3;obtain⟨e4,k2,FM⟩:=H1.out rfl;subst e4;have HM:=D FM;have hp4:True->wrap64 (r'.pc+1)=((r'.pc+1:Nat)):=λ_=>IntWalk.wrap64_in _ (by have:=Hl.out;omega)
   have gT:Ai w (g.run r++BC c cs::E) (wr.setCell ⟨g.b,0,Z⟩ (iI (r'.pc+1:Nat))) (NG.run {g with o:=o} {r' with pc:=r'.pc+1}++BC m cs'::BC c cs::E):=HS.trans (HS.Ak.set (i:=0) rfl 0 _);have S5:=D gT;have Akx:=Hk.2.2;have HCL:=D Akx;clear hx gT HS HK FM H1 H2 HKK hrel Hmm HX Akx;go_wp2_with fail;clear Fo f0 c0 c1 c2 c3 c4 c5 c6 c7 c8 c9 c10 c11 c12 c13;go_loopw [8] (λi wr=>∃j:Nat,i= iI j/\j<=J cs/\Ai w (g.run r++BC c cs::E) wr (NG.run {g with o:=o} {r' with pc:=r'.pc+1}++BC m cs'::BC c (cs'.take j++cs.drop j)::E)) (λi _=>J cs-(intOf i).toNat);case atStart=>exact⟨0,rfl,Jr _,S5⟩
   case round=>
    clear S5;obtain⟨j,rfl,hj,hs⟩:=hrel;have HS:=D hs;have hel:(cs'.take j++cs.drop j).length=J cs:=by have:=HCL.out;rw[GT,LE,QU];omega
    by_cases hlt:j<J cs
    .have C4:j<(J cs:Int):=Y
     have hj0:0<=(j:Int):=Y
     have inc:True->wrap64 (j+1)=(j+1):=λ_=>IntWalk.wrap64_in _ (by have:=nj.out;omega)
     have hjm:j<J cs':=by have:=HCL.out;omega
     obtain⟨cb,Ln⟩:∃cb,c.p=U ⟨cb,0,Z⟩:=by
      obtain⟨cb,_,e,_⟩:=Av (hs.Ak.row (i:=5) rfl) (by rw[hel];omega);exact⟨cb,by injection e⟩
     obtain⟨mb,Ps⟩:=AiA hs.Ak Y;have rd:=LV (Aiz hs.Ak Ps) hjm;have hro:wr.ownsRow 0 2 1 (m9 (U ⟨cb,0,Z⟩) (cs'.take j++cs.drop j).length c.c) (cs'.take j++cs.drop j).length (B9 (cs'.take j++cs.drop j)):=by rw[<-Ln];exact hs.Ak.row (i:=5) rfl
     have rd2:=LV hro (i:=j) Y;have rf:=(A4 hro).2.1 j;have s9:=hs.trans (hs.Ak.ET (i:=5) (by rw[<-Ln];rfl) j (by simp[B9];omega) (iI (cs'.getD j 0)));have S9:=D s9;have yH:=D Ln;have PH:=D hlt;rw[Ln,Ps];clear hjm hs HS hro hel s9 Ln Ps hj hlt;go_wp2_with fail;go_roundw;case rel=>
      refine⟨j+1,by rw[inc trivial];rfl,PH,?_⟩;have e:=AfC cs' cs j (by have:=HCL.out;omega) PH.out;have e2:B9 (cs'.take (j+1)++cs.drop (j+1))=(B9 (cs'.take j++cs.drop j)).set j (iI (cs'.getD j 0)):=by rw[<-e];unfold B9;rw[QD]
      have e3:(cs'.take (j+1)++cs.drop (j+1)).length=(cs'.take j++cs.drop j).length:=by rw[<-e,Ju]
      have e4:BC c (cs'.take (j+1)++cs.drop (j+1))=.row (m9 (U ⟨cb,0,Z⟩) (cs'.take j++cs.drop j).length c.c) 2 1 (cs'.take j++cs.drop j).length ((B9 (cs'.take j++cs.drop j)).set j (iI (cs'.getD j 0))):=by unfold BC;rw[e2,e3,yH.out]
      rw[e4];exact S9.out
     case measure=>have:=PH.out;rw[inc trivial];simp only[intOf];omega
    .have C4:¬j<(J cs:Int):=Y
     have hje:j=J cs:=Y
     subst hje;have e:cs'.take (J cs)++cs.drop (J cs)=cs':=by rw[<-HCL.out,J2,HCL.out,List.drop_length,Jo]
     rw[e] at HS;have TO:=V3 l a (BC m cs'::BC c cs'::E) (.tail _ (.tail _ HN)) Hl _ _ u k2 wr HS.Ak HM.out;rw[en] at TO;have Hlo:=D TO;clear hs hel hlt hj TO;go_wp2_with fail;refine Hlo.mono ?_;rintro e w2 ⟨rfl,o2,MU⟩;have GL:=D (HS.trans MU);clear MU HS;go_wp2
     go_end0
     exact⟨rfl,o2,GL.trans (Ai.drop (B:=[BC m cs']) (by rw[Ji];exact GL.Ak))⟩
  .have hkt:((x.kind:Int) !=41)=V:=by simp;omega
   obtain⟨⟨hsf,Ro⟩,pD⟩:=HK.next hx Akk;have e5:J d1=J cs:=by have:=HKK.2.2;have:=Hk.2.2;omega
   have Hs:=D (sC hsf Ro (by have:=nj.out;omega) (by have:=Hl.out;omega) HS.Ak);have HX2:=D pD;have HE5:=D e5;rw[<-e5];clear hx hsf Ro pD HKK e5;go_wp2_with fail;rw[<-Abi];refine Hs.mono ?_;rintro e w2 ⟨rfl,o2,MU⟩;have GL:=D (HS.trans MU);clear MU HS Hs;rcases HX2.out with⟨q1,q2,rfl⟩|⟨q1,k2,q2,q3⟩
   .rw[q1];rw[q2] at GL;obtain⟨e6,e7⟩:=H2.out rfl;have Ae8:=Hk.1;have c3':w2.cell? ⟨g.b,3,Z⟩=U (m9 o2.p (J u1.An) o2.c):=(GL.Ak.Ao (i:=0) rfl).cell 3;have c4':w2.cell? ⟨g.b,4,Z⟩=U (iI (J r.An)):=by rw[<-Ae8];exact(GL.Ak.Ao (i:=0) rfl).cell 4
    have f3:=(GL.Ak.Ao (i:=0) rfl).free 3;have s9:=GL.trans (AfB GL.Ak (J r.An) Hk.2.1);have S9:=D s9;have E6:=D e6;have E7:=D e7;have hle:J r.An<=(J u1.An:Int):=by have:=Hk.2.1;omega
    have hr0:0<=(J r.An:Int):=JG _;have IV:=Aem GL.Ak;clear s9 q1 q2 HX2 HK hrel HX GL Ae8 e6 e7 H1 H2 Hmm Fo f0 c0 c1 c2 c3 c4 c5 c6 c7 c8 c9 c10 c11 c12 c13;have BZ:∀w5,w5=(w2.setCell ⟨g.b,3,Z⟩ (m9 o2.p (J r.An) o2.c)).drewN 1->AlA g c r cs E w u cs' (qF (qC #[])) w5:=λw5 e=>by
     subst e;have e6:=E6.out;have e7:=E7.out;subst e6;subst e7;have s8:=Ai.drewN S9 1;exact⟨rfl,o2,s8.trans (Ai.drop (B:=[BC m cu]) (by rw[Ji];exact s8.Ak))⟩
    have Af1:=D BZ;clear BZ;rcases IV with⟨p1,p2,p3⟩|⟨ob,p1,p2⟩
    .dsimp only at p1 p2 p3;have p4:J r.An=0:=by have:=Hk.2.1;omega
     rw[p1,p2,p3] at c3';rw[p4,Int.natCast_zero] at c4';rw[p1,p3,p4] at Af1;clear p1 p2 p3 p4 hle hr0 S9;go_upto_region 6 with fail
     refine AO (l:=sq [] 0 12) (λW=>W.cell? ⟨g.b,3,Z⟩=U (m9 Z 0 0)/\W.cell? ⟨g.b,4,Z⟩=U (iI 0)) 12 ⟨c3',c4'⟩ ?_;refine Fg ?_;refine A7 rfl (λK hK=>?_);go_simp;refine hK _ _ (λh=>Jk h Do) ?_;clear hK;simp only[Cr];go_wp2
     go_end0
     exact Af1.out _ rfl
    .have p4:J r.An<=(o2.c:Int):=by have:=Hk.2.1;dsimp only at p2;omega
     dsimp only at p1 p2;rw[p1] at c3' Af1;clear p1 p2 S9;go_upto_region 6 with fail
     refine AO (l:=sq [] 0 12) (λW=>W.cell? ⟨g.b,3,Z⟩=U (m9 (U ⟨ob,0,Z⟩) (J u1.An) o2.c)/\W.cell? ⟨g.b,4,Z⟩=U (iI (J r.An))) 12 ⟨c3',c4'⟩ ?_;refine Fg ?_;refine A7 rfl (λK hK=>?_);go_simp;refine hK _ _ (λh=>Jk h Do) ?_;clear hK;simp only[Cr];go_wp2
     go_end0
     exact Af1.out _ rfl
   .rw[q1];have HK3:=D q3;have Hk2:=D q2;clear q1 q2 q3 HX2 HK hrel HX;go_wp2;go_roundw;case rel=>exact⟨k2,_,_,o2,GL,HK3⟩
    case measure=>
     have h1:NW (Af3 l (g.run r++BC c cs::E) w g m (BC c cs::E) u1 cu b w2)<=k2:=Zf ⟨_,_,o2,GL,HK3⟩;have:=Hk2.out;omega
theorem Az.t0 {a b c:World} (h:Az [] a b) (k:Az [] b c):Az [] a c:=h.trans k λ_ h=> .inl h
def RQ (w:World) (L:List Ob):Prop:=∀o,o∈L->o.holds w
theorem RQ.mod (h:RQ w L) (m:Az [] w w'):RQ w' L:=λo ho=>Ob.mod (h o ho) m EQ
structure Aoa (w:World) (g:NG) (r:RR):Prop where
 b:Ci w g.b (g.cells r) 74
 o:∀j,j<J r.An->∃b,g.o.p=U ⟨b,0,Z⟩/\w.cell? ⟨b,j,Z⟩=U (iI (r.An.getD j 0))
theorem dV {d:SG} {l:List Int} (h:(BC d l).holds w) {j:Nat} (hj:j<J l):∃b,d.p=U ⟨b,0,Z⟩/\w.cell? ⟨b,j,Z⟩=U (iI (l.getD j 0)):=by
 have h':w.ownsRow 0 _ 1 _ (J l) (B9 l):=h;obtain⟨b,_,e,_⟩:=Av h' Y;have e':d.p=U ⟨b,0,Z⟩:=by injection e
 rw[e'] at h';exact⟨b,e',LV h' hj⟩
def Aaz (d:SG) (s:FR):List Value:=[m9 d.p (J s.An) d.c,iI s.Au]
def NG.ptr (g:NG):Value:= iJ g.b
structure AmW (E:List Ob) (q:SG) (gs:List NG) (rs:List RR):Prop where
 len:J gs=J rs
 row: .row (m9 q.p (J rs) q.c) 70 1 (J rs) (gs.map NG.ptr)∈E
 run:∀(t:Nat) (g:NG),gs[t]?=U g->∀o,o∈g.run (rs.getD t .start)->o∈E
def BW (ds:List SG) (m:List FR):List Value:=(List.zipWith Aaz ds m).flatten
structure gI (E:List Ob) (a:SG) (ds:List SG) (m:List FR):Prop where
 len:J ds=J m
 row: .row (m9 a.p (J m) a.c) 41 2 (J m) (BW ds m)∈E
 An:∀(t:Nat) (d:SG),ds[t]?=U d->BC d (m.getD t ⟨[],0⟩).An∈E
theorem VR:∀{ds:List SG} {m:List FR} {t:Nat} {d:SG},J ds=J m->ds[t]?=U d->(BW ds m)[t*2]?=U (m9 d.p (m.getD t ⟨[],0⟩).An.length d.c)/\(BW ds m)[t*2+1]?=U (iI (m.getD t ⟨[],0⟩).Au)
 |[],_,_,_,_,h=>by simp at h
 |d::ds,[],_,_,hl,_=>by simp at hl
 |d::ds,s::m,0,d',hl,h=>by
  cases h;exact⟨rfl,rfl⟩
 |d::ds,s::m,t+1,d',hl,h=>by
  have:=VR (by simpa using hl) (by simpa using h);rw[show(t+1)*2=t*2+1+1 by omega];exact this
theorem Mz {c z:Nat} (h:w.ownsRow 0 e z (m9 p n c) n xs) {i:Nat} {v:Value} (hi:xs[i]?=U v):∃b,p=U ⟨b,0,Z⟩/\w.cell? ⟨b,i,Z⟩=U v:=by
 obtain⟨hlt,hv⟩:=Jn.1 hi;have hn:0<n:=by
  rcases d5 n with h0|h0
  .rw[W5 h,h0,Nat.zero_mul] at hlt;omega
  .exact h0
 obtain⟨b,_,e,_,_,_,_,hc,_⟩:=Av h hn;exact⟨b,by injection e,by rw[hc i hlt,hv]⟩
theorem sB {m:List FR} (h:gI E a ds m) (hE:RQ w E) {t:Nat} (ht:t<J m):∃b d,a.p=U ⟨b,0,Z⟩/\w.cell? ⟨b,t*2,Z⟩=U (m9 d.p (m.getD t ⟨[],0⟩).An.length d.c)/\w.cell? ⟨b,t*2+1,Z⟩=U (iI (m.getD t ⟨[],0⟩).Au)/\(BC d (m.getD t ⟨[],0⟩).An).holds w:=by
 obtain⟨d,hd⟩:∃d,ds[t]?=U d:=⟨_,Ja (by rw[h.len];exact ht)⟩;obtain⟨c0,c1⟩:=VR h.len hd;obtain⟨b,e,hc⟩:=Mz (hE _ h.row) c0;obtain⟨b',e',lG⟩:=Mz (hE _ h.row) c1;rw[e] at e';cases e';exact⟨b,_,e,hc,lG,hE _ (h.An t _ hd)⟩
theorem Aq.AfN (h:Aq w L) {b:Nat} {c:Array Value} {T:TypeId} (hm: .Ao b c T∈L):Ci w b c T:=h.holds _ hm
theorem Aer (l:List Int):∀u∈B9 l,u.oneCell'=V:=by simp[B9,Value.oneCell']
theorem Aq.hl (h:Aq w L):RQ w L:=h.holds
theorem Ag2 {α:Type} {c:Nat} {cv:List SG} {ls:List (List α)} (h:w.ownsRow 0 e 1 (m9 p (J ls) c) (J ls) (BF cv ls)) (hl:J cv=J ls) {t:Nat} (ht:t<J ls):
  ∃b a,p=U ⟨b,0,Z⟩/\w.cell? ⟨b,t,Z⟩=U (m9 a.p (ls.getD t []).length a.c)/\cv[t]?=U a:=by
 have hc:t<J cv:=Y
 obtain⟨b,e1,h1⟩:=Mz h (VO cv ls t hc ht);exact⟨b,cv[t],e1,by rw[h1,Je,Ja ht];rfl,Ja hc⟩
structure rL where
 pb:Nat
 tp:SG
 cv:List SG
 x1:Value
 x2:Value
 x3:Value
 ap:SG
 av:List SG
 mb:Nat
 mc:Nat
 mv:List SG
 md:List (List SG)
structure mL (E:List Ob) (L:rL) (P:List (List Nd)):Prop where
 pg: .Ao L.pb #[m9 L.tp.p (J P) L.tp.c,L.x1,L.x2,L.x3] 53∈E
 pt: .row (m9 L.tp.p (J P) L.tp.c) 72 1 (J P) (BF L.cv P)∈E
 pl:J L.cv=J P
 th:∀(t:Nat) (a:SG),L.cv[t]?=U a->CK a (P.getD t [])∈E
 nl:∀t,(P.getD t []).length<=1000000
structure AmU (E:List Ob) (L:rL) (P:List (List Nd)) (ah:List (List Bool)) (ms:List (List FR)) (T:Nat):Prop where
 p:mL E L P
 tl:J P=T
 ar: .row (m9 L.ap.p (J ah) L.ap.c) 51 1 (J ah) (BF L.av ah)∈E
 al:J L.av=J ah
 al2:J ah=T
 ab:∀(t:Nat) (a:SG),L.av[t]?=U a->Cq a (ah.getD t [])∈E
 abl:∀t,t<T->(ah.getD t []).length=T
 mr: .row (m9 (U ⟨L.mb,0,Z⟩) (J ms) L.mc) 36 1 (J ms) (BF L.mv ms)∈E
 ml:J L.mv=J ms
 sn:∀(i:Nat) (a:SG),L.mv[i]?=U a->gI E a (L.md.getD i []) (ms.getD i [])
 mt:∀i,i<J ms->(ms.getD i []).length=T
 mo:∀i t,((ms.getD i []).getD t ⟨[],0⟩).An.length<=1000000000
 mn:J ms<=1000000000
theorem mL.mono {E':List Ob} {L:rL} {P:List (List Nd)} (h:mL E L P) (s:∀o,o∈E->o∈E'):mL E' L P:=⟨s _ h.pg,s _ h.pt,h.pl,λt a e=>s _ (h.th t a e),h.nl⟩
section
variable {w:World} {E:List Ob} {L:rL} {P:List (List Nd)} (hE:RQ w E)
include hE
theorem mL.at {t:Nat} (h:mL E L P) (ht:t<J P):w.cell? ⟨L.pb,0,Z⟩=U (m9 L.tp.p (J P) L.tp.c)/\L.pb<w.heap.size/\∃b a,L.tp.p=U ⟨b,0,Z⟩/\w.cell? ⟨b,t,Z⟩=U (m9 a.p (P.getD t []).length a.c)/\CK a (P.getD t [])∈E:=by
 have hb:Ci w L.pb _ _:=hE _ h.pg;obtain⟨b,a,e1,e2,e3⟩:=Ag2 (hE _ h.pt) h.pl ht;exact⟨hb.cell 0,hb.lt,b,a,e1,e2,h.th t a e3⟩
variable {ah:List (List Bool)} {ms:List (List FR)} {T:Nat} (h:AmU E L P ah ms T)
include h
end

theorem AlN {by_:Nat} (ht:prog.underlying t=U (.slice e)) (hi:(prog.info? e).map (λi=>(i.zero,i.size,i.bytes))=U (U z,1,by_)) (hz:z.cells= #[z]) (n:Nat) (hb:by_*n<=1000000000) (hn:n<=1000000000) (W:World):
  (Instr.makeSlice t (iI (n:Int)) (iI (n:Int))).run prog W=.ok (m9 (U ⟨W.heap.size,0,Z⟩) n n) (W.alloc (qG (Array.replicate n z) e)):=by
 rw[run_make_row' t e z by_ ht hi hz .i64 .i64 n (QA hb Y) Y W];exact mbJ
theorem Aez (h:Aq w L) {n:Nat} {z:Value} {T:TypeId} (hn:n<=1000000000):Ai w L (w.alloc (qG (Array.replicate n z) T)) (.row (m9 (U ⟨w.heap.size,0,Z⟩) n n) T 1 n (List.replicate n z)::L):=by
 have:=newRow h (n:=n) (c:=Array.replicate n z) (T:=T) EQ (by unfold maxLen;omega);simpa using this
theorem Pk.len {cs:List Int} (h:Pk l r cs u cu):J cu=J cs:=by
 cases h with
 |ok h k=>exact h.AJ.2.2
 |CR h=>rfl
theorem iR:∀{ds:List SG} {m:List FR} {t:Nat} (d:SG) (s:FR),J ds=J m->t<J m->BW (ds.set t d) (m.set t s)=((BW ds m).set (t*2) (m9 d.p (J s.An) d.c)).set (t*2+1) (iI s.Au)
 |[],[],_,_,_,_,h=>Jk h (Q3 _)
 |[],_::_,_,_,_,h,_=>by simp at h
 |_::_,[],_,_,_,h,_=>by simp at h
 |a::ds,b::m,0,d,s,_,_=>rfl
 |a::ds,b::m,t+1,d,s,hl,h=>by
  have:=iR (ds:=ds) (m:=m) (t:=t) d s (by simpa using hl) (by simpa using h);rw[show(t+1)*2=t*2+1+1 by omega];show Aaz a b++BW (ds.set t d) (m.set t s)=_;rw[this];rfl
theorem AhB (n:Nat) (h:n=1\/n=2\/n=3) (w:World):(Instr.makeSlice 36 (iI n) (iI n)).run prog w=.ok (m9 (U ⟨w.heap.size,0,Z⟩) n n) (w.alloc (qG (BW (List.replicate n ⟨Z,0⟩) (List.replicate n ⟨[],0⟩)).toArray 41)):=by
 rcases h with rfl|rfl|rfl<;>kernel_rfl
theorem AeA (h:Aq w L) {n z:Nat} {c:List Value} {T:TypeId} (hc:J c=n*z) (hn:n<=maxLen):Ai w L (w.alloc (qG c.toArray T)) (.row (m9 (U ⟨w.heap.size,0,Z⟩) n n) T z n c::L):=by
 have s:=Ai.new h (qG c.toArray T);have k:=s.Ak.swap (i:=J L) (o':=.row (m9 (U ⟨w.heap.size,0,Z⟩) n n) T z n c) (o:=.Ao w.heap.size c.toArray T) EQ (Az.refl _ _) ?_ (by simp[Ob.fp,Value.ownBlock]) (λx hx=> .inl (by simpa[Ob.fp,Value.ownBlock] using hx))
 .have k':=s.trans k;rw[Qd _ _ (Jf _),QQ] at k';exact k'.YQ J4
 .have hb:=s.Ak.Ao (i:=J L) (b:=w.heap.size) (c:=c.toArray) (T:=T) EQ;refine⟨by simp[hc],.inr ⟨w.heap.size,n,c.toArray,rfl,Jr _,hb,Jf _,hn,by simp[hc],by simp[hc,J6]⟩⟩
theorem od (n:Nat) (h:n=1\/n=2\/n=3) {w:World} {L:List Ob} (hL:Aq w L):Ai w L (w.alloc (qG (BW (List.replicate n ⟨Z,0⟩) (List.replicate n ⟨[],0⟩)).toArray 41)) (.row (m9 (U ⟨w.heap.size,0,Z⟩) n n) 41 2 n (BW (List.replicate n ⟨Z,0⟩) (List.replicate n ⟨[],0⟩))::L):=
 AeA hL (by rcases h with rfl|rfl|rfl<;>rfl) (by unfold maxLen;omega)
def Ak4 (P:List (List Nd)) (sh:Nat->List Int->Int->Prop) (E:List Ob) (T n:Nat) (o:List Nat) (ob:Nat) (c:SG) (w wr:World) (i:Nat):Prop:=
 ∃(cs:List Int) (ds:List SG) (m:List FR) (X:List Ob),i<=J o/\bF P sh (o.drop i) cs/\J cs=n/\J ds=T/\J m=T/\Ai w E wr (BC c cs:: .row (m9 (U ⟨ob,0,Z⟩) T T) 41 2 T (BW ds m)::(X++E))/\(∀(t:Nat) (d:SG),ds[t]?=U d->BC d (m.getD t ⟨[],0⟩).An∈X)/\∀t,t∈o.take i->sh t (m.getD t ⟨[],0⟩).An (m.getD t ⟨[],0⟩).Au
def AfW (l:List Nd) (n:Nat) (u:RR) (cu:List Int) (E rest:List Ob) (g:NG) (c:SG) (w wr:World) (k:Nat):Prop:=
 ∃(r:RR) (cs:List Int) (o:SG),yy l k r cs u cu/\J cs=n/\Ai w E wr (NG.run {g with o:=o} r++BC c cs::rest)
def AmV (sh:Nat->List Int->Int->Prop) (E:List Ob) (T:Nat) (o:List Nat) (w:World) (e:Ending) (w':World):Prop:=
 ∃(a:SG) (ds:List SG) (m:List FR) (X:List Ob),e= qF (m9 a.p T a.c)/\Ai w E w' (X++E)/\gI X a ds m/\J m=T/\∀t,t∈o->sh t (m.getD t ⟨[],0⟩).An (m.getD t ⟨[],0⟩).Au
theorem n9 (L:rL) (P:List (List Nd)) (sh:Nat->List Int->Int->Prop) (T n:Nat) (hT:T=1\/T=2\/T=3) (hn:n<=1000000) (E:List Ob) (hS:mL E L P) (hP:J P=T) (hx:L.x1= iI n) (a:SG) (o:List Nat) (hO:IK a o∈E) (hot:∀t,t∈o->t<T) (Ro:J o<=1000000) (hR:bF P sh o (List.replicate n 0)) (w:World) (h:Aq w E):
  Calls prog 13 #[iJ L.pb,m9 a.p (J o) a.c] w (AmV sh E T o w):=by
 have hpg:=h.AfN hS.pg;have p0:w.cell? ⟨L.pb,0,Z⟩=U (m9 L.tp.p T L.tp.c):=by rw[<-hP];exact hpg.cell 0
 have p1:w.cell? ⟨L.pb,1,Z⟩=U (iI n):=by rw[<-hx];exact hpg.cell 1
 have p2:=hpg.lt;have hmk:=AlN (by_:=8) underlying31 Rc rfl n Y Y w;have hms:=AhB T hT (w.alloc (qG (Array.replicate n (iI 0)) 2));have s1:=Aez (n:=n) (z:= iI 0) (T:=2) h Y;have s2:=s1.trans (od T hT s1.Ak);have s3:=s2.trans (Ai.H9 (A:=[_,_]) s2.Ak 2 1);rw[Gp] at hms s3;have HS:=D hS;have HP:=D hP;have HO:=D hO;have Hot:=D hot;have Hol:=D Ro;have HR:=D hR;have Hn:=D hn;have S3:=D s3;have HT:=D hT;clear h hS hP hx hO hot Ro hR hpg hn s1 s2 s3 hT;go_enter func13,ntmps13;go_wp2_with fail;have hs:=S3.YQ (List.Perm.swap _ _ _);clear S3 hmk hms p0 p1 p2;generalize (w.alloc _).alloc _=w1 at hs⊢;generalize w.heap.size+1=ob at hs⊢;generalize w.heap.size=cb at hs⊢;have Xo:Ak4 P sh E T n o ob ⟨U ⟨cb,0,Z⟩,n⟩ w w1 0:=by
  refine⟨List.replicate n 0,List.replicate T ⟨Z,0⟩,List.replicate T ⟨[],0⟩,[BC ⟨Z,0⟩ []],Jr _,HR,J8,J8,J8,?_,λt d hd=>?_,λt ht=>(by cases ht)⟩
  .have e:BC ⟨U ⟨cb,0,Z⟩,n⟩ (List.replicate n 0)=.row (m9 (U ⟨cb,0,Z⟩) n n) 2 1 n (List.replicate n (iI 0)):=by unfold BC B9;rw[J8,List.map_replicate]
   rw[e];exact hs
  .rw[Qx] at hd;split at hd
   .rename_i ht;cases hd;rw[PO _ _ ht];exact .head _
   .cases hd
 have S0:=D Xo;clear hs Xo HR;go_loopw [7,8,9] (λv _ _ wr=>∃i:Nat,v= iI i/\Ak4 P sh E T n o ob ⟨U ⟨cb,0,Z⟩,n⟩ w wr i) (λv _ _ _=>J o-(intOf v).toNat);case atStart=>exact⟨0,rfl,S0⟩
 case round=>
  clear S0;obtain⟨i,rfl,cs,ds,m,X,hi,aW,B8,lE,hml,hs,hX,GU⟩:=hrel;by_cases hlt:i<J o
  .have C4:(i:Int)<(J o:Int):=Y
   have hi0:(0:Int)<=(i:Int):=Y
   have inc:True->wrap64 ((i:Int)+1)=((i:Int)+1):=λ_=>IntWalk.wrap64_in _ (by have:=Hol.out;omega)
   obtain⟨t,ht⟩:∃t,o[i]?=U t:=⟨_,Ja hlt⟩;have htm:t∈o:=JL ht;have htT:t<T:=Hot.out t htm;have hdr:o.drop i=t::o.drop (i+1):=by
    exact mbL
   rw[hdr] at aW;obtain⟨ml,r,u,cu,TO,⟨k0,Rr⟩,Xc,Agi⟩:=aW.head;have Pv:∀x,x∈E->x∈BC ⟨U ⟨cb,0,Z⟩,n⟩ cs:: .row (m9 (U ⟨ob,0,Z⟩) T T) 41 2 T (BW ds m)::(X++E):=λx hx=> .tail _ (.tail _ (Jc _ hx))
   have p0:wr.cell? ⟨L.pb,0,Z⟩=U (m9 L.tp.p T L.tp.c):=by rw[<-HP.out];exact(hs.Ak.AfN (Pv _ HS.pg)).cell 0
   have p2:=(hs.Ak.AfN (Pv _ HS.pg)).lt;obtain⟨ab,ea,c0⟩:=Mz (show wr.ownsRow 0 3 1 (m9 a.p (J o) a.c) (J o) (CD (Fc o)) from hs.Ak.holds _ (Pv _ HO)) (i:=i) (v:= iI (t:Nat)) (by unfold CD Fc;rw[JS,JS,ht];rfl);obtain⟨d0,d1,tb,ta,e3,c1,TM⟩:=HS.at (λx hx=>hs.Ak.hl x (Pv x hx)) (t:=t) (by rw[HP.out];exact htT);have hbg:=yd (P.getD t []) ta _ (Pv _ TM) (HS.nl t) r ml wr hs.Ak TO;have ht0:(0:Int)<=(t:Int):=Y
   have ht1:(t:Int)<(T:Int):=Y
   rw[e3] at p0;rw[ea];have Hbg:=D hbg;have Hs:=D hs;have PH:=D hlt;have AiR:=D B8;have gO:=D lE;have yE:=D hml;have HX:=D hX;have Hsh:=D GU;have Hk0:=D Rr;have rU:=D Xc;have Am4:=D Agi;have Hth:=D TM;have HtT:=D htT;have He3:=D e3;have Ht:=D ht;clear hbg hs hlt B8 lE hml hX GU Rr Xc aW Agi TM hi htm htT hdr TO Pv d0 d1 e3 ea ht;go_wp2_with (go_at_call 27;refine Hbg.mono ?_;rintro e w5 ⟨g,rfl,gT⟩);have S5:=D (Hs.trans gT);clear gT Hs Hbg p0 p2 c0 c1;obtain⟨rest,tw⟩:∃z,z=Ob.row (m9 (U ⟨ob,0,Z⟩) T T) 41 2 T (BW ds m)::(X++E):=⟨_,rfl⟩;have Aj5:∀x,x∈E->x∈rest:=λx hx=>by rw[tw];exact .tail _ (Jc _ hx)
   rw[<-tw] at S5;have Alf:=D tw;have AiM:=D Aj5;clear tw Aj5;go_loopw [] (λwr=>∃k,AfW (P.getD t []) n u cu E rest g ⟨U ⟨cb,0,Z⟩,n⟩ w wr k) (λwr=>NW (AfW (P.getD t []) n u cu E rest g ⟨U ⟨cb,0,Z⟩,n⟩ w wr));case atStart=>exact⟨k0,r,cs,g.o,Hk0,AiR,S5⟩
   case round=>
    clear S5;have hx:=hrel;have hx2:=TJ hx;generalize yP:NW (AfW (P.getD t []) n u cu E rest g ⟨U ⟨cb,0,Z⟩,n⟩ w wr)=mm at*;obtain⟨r',cs',o2,aW,B8,hs⟩:=hx2;have Hmm:=D yP;have HX2:=D hx;clear yP hx;have b5:wr.cell? ⟨g.b,5,Z⟩=U (iI r'.Au):=(hs.Ak.Ao (i:=0) rfl).cell 5;have lt:=(hs.Ak.Ao (i:=0) rfl).lt;cases aW with
    |done h0=>
     have pR:(u.Au==0)=I:=by simp[h0]
     have b3:wr.cell? ⟨g.b,3,Z⟩=U (m9 o2.p (J u.An) o2.c):=(hs.Ak.Ao (i:=0) rfl).cell 3;rw[Alf.out] at hs;have EX:wr.ownsRow 0 41 2 (m9 (U ⟨ob,0,Z⟩) T T) T (BW ds m):=hs.Ak.holds _ (Jc _ (.tail _ (.head _)));obtain⟨q0,q1⟩:=VR (t:=t) (gO.trans yE.symm) (Ja (by rw[gO.out];exact HtT.out));obtain⟨_,e1,r0⟩:=Mz EX q0;cases e1;obtain⟨_,e1,r1⟩:=Mz EX q1;cases e1;have f0:=(A4 EX).2.1 (t*2);have f1:=(A4 EX).2.1 (t*2+1);have fl:=(A4 EX).2.2;have lg:(BW ds m).length=T*2:=EX.1;have s1:=hs.trans (hs.Ak.ET (i:=5) (g:=ob) (n:=T) (cap:=T) (e:=41) (size:=2) (xs:=BW ds m) rfl (t*2) (by rw[lg];have:=HtT.out;omega) (m9 o2.p (J u.An) o2.c));have s2:=s1.trans (s1.Ak.ET (i:=5) (g:=ob) (n:=T) (cap:=T) (e:=41) (size:=2) (xs:=(BW ds m).set (t*2) (m9 o2.p (J u.An) o2.c)) rfl (t*2+1) (by rw[Ju,lg];have:=HtT.out;omega) (iI u.Au));have S2:=D s2;have nj:=D B8;clear h0 hs EX q0 q1 lg s1 s2 Hmm HX2 hrel B8;go_upto_region 10 with fail
     refine AO (l:=sq [] 0 12) (λW=>W.cell? ⟨g.b,3,Z⟩=U (m9 o2.p (J u.An) o2.c)/\W.cell? ⟨g.b,5,Z⟩=U (iI u.Au)) 12 ⟨b3,b5⟩ ?_;refine Fg ?_;refine A7 rfl (λK hK=>?_);go_simp;refine hK _ _ (λh=>Jk h Do) ?_;clear hK b3 b5 r0 r1 f0 f1 fl lt;simp only[Cr];go_wp2_with fail;go_roundw;case rel=>
      refine⟨i+1,by rw[inc trivial];rfl,cu,ds.set t o2,m.set t ⟨u.An,u.Au⟩,NG.run {g with o:=o2} u++X,PH,Am4,nj,by rw[Ju];exact gO.out,by rw[Ju];exact yE.out,?_,λs d hd=>?_,λs hs=>?_⟩
      .rw[iR o2 ⟨u.An,u.Au⟩ (gO.out.trans yE.out.symm) (by rw[yE.out];exact HtT.out)];refine(S2.trans (Ai.drew S2.Ak)).YQ ?_;have:=(J4 (l₁:=NG.run {g with o:=o2} u) (l₂:=[BC ⟨U ⟨cb,0,Z⟩,n⟩ cu,Ob.row (m9 (U ⟨ob,0,Z⟩) T T) 41 2 T (((BW ds m).set (t*2) (m9 o2.p (J u.An) o2.c)).set (t*2+1) (iI u.Au))])).append_right (X++E);rw[Ji,Ji] at this;rw[Ji];exact this
      .rw[B6 _ _ _ _ _ (by rw[yE.out];exact HtT.out)];by_cases e:s=t
       .subst e;rw[Qw,Jb rfl,Jb (by rw[gO.out];exact HtT.out)] at hd;cases hd;rw[Jb rfl];exact IR _ (.tail _ (.tail _ (.tail _ (.head _))))
       .rw[Qw,In (λh=>e h.symm)] at hd;rw[In e];exact Jc _ (HX s d hd)
      .rw[B6 _ _ _ _ _ (by rw[yE.out];exact HtT.out)];by_cases e:s=t
       .subst e;rw[Jb rfl];exact rU.out
       .rw[In e];refine Hsh s ?_;rw[i6,Ht.out] at hs;rcases Jp.1 hs with h1|h1
        .exact h1
        .simp at h1;exact Jk h1 e
     case measure=>have:=PH.out;rw[inc trivial];simp only[intOf];omega
    |step h0 hb hz=>
     rename_i k2 r1 cs1;have pR:(r'.Au==0)=V:=by simp[h0]
     have hpg:=hs.Ak.AfN (Jc _ (.tail _ (AiM _ HS.pg)));have p0:wr.cell? ⟨L.pb,0,Z⟩=U (m9 (U ⟨tb,0,Z⟩) T L.tp.c):=by rw[<-HP.out,<-He3.out];exact hpg.cell 0
     have p2:=hpg.lt;obtain⟨d0,d1,tb',ta',e3,c1,TM⟩:=HS.at (λx hx=>hs.Ak.hl x (Jc _ (.tail _ (AiM x hx)))) (t:=t) (by rw[HP.out];exact HtT.out);rw[He3.out] at e3;cases e3;have Fb:=ya (P.getD t []) ta' rest (AiM _ TM) (HS.nl t) {g with o:=o2} ⟨U ⟨cb,0,Z⟩,n⟩ r' r1 cs' cs1 (by rw[B8];exact Hn.out) wr hs.Ak hb;rw[B8] at Fb;have Hbl:=D Fb;have Hz:=D hz;have Hs:=D hs;have nj:=D (hb.len.trans B8);clear h0 Fb hz hs hb d0 d1 TM B8 hpg;go_wp2_with (go_at_call 28;refine Hbl.mono ?_;rintro e w7 ⟨rfl,o3,hs7⟩);have S7:=D (Hs.trans hs7);clear hs7;go_roundw;case rel=>exact⟨k2,_,_,o3,Hz,nj,S7⟩
     case measure=>
      have h1:NW (AfW (P.getD t []) n u cu E rest g ⟨U ⟨cb,0,Z⟩,n⟩ w w7)<=k2:=Zf ⟨_,_,o3,Hz,nj,S7⟩;have:=Hmm.out;omega
  .have C4:¬(i:Int)<(J o:Int):=Y
   have hie:i=J o:=Y
   subst hie;rw[J2] at GU;have Hs:=D hs;have gO:=D lE;have yE:=D hml;have HX:=D hX;have Hsh:=D GU;clear hs lE hml hX GU hlt hi aW B8;go_wp2;go_ret;refine⟨⟨U ⟨ob,0,Z⟩,T⟩,ds,m,.row (m9 (U ⟨ob,0,Z⟩) T T) 41 2 T (BW ds m)::X,rfl,?_,⟨gO.trans yE.symm,by rw[yE.out];exact .head _,λt d hd=> .tail _ (HX t d hd)⟩,yE,Hsh⟩;exact Hs.trans (Ai.drop (A:=[]) (B:=[_]) Hs.Ak)
theorem oM (h:Aq w (MO F gs M E)) (ho:rQ gs M):w.cell? ⟨F.mb,1,Z⟩=U (m9 F.t.p (J M.ts) F.t.c)/\F.mb<w.heap.size:=by
 have hb:=h.Ao (i:=0) rfl;refine⟨?_,hb.lt⟩;have:=hb.cell 1;rw[show(gs.map Lf.ptr).length=J M.ts by rw[JZ,ho.gl]] at this;exact this
theorem Age (h:Aq w (MO F gs M E)) (ho:rQ gs M) {k:Nat} (hk:k<J M.ts):
  ∃(x:Lf) (b:Nat),F.t.p=U ⟨b,0,Z⟩/\w.cell? ⟨b,k,Z⟩=U (iJ x.tb)/\w.cell? ⟨x.tb,4,Z⟩=U (m9 x.o.p (M.th k).out.length x.o.c)/\w.cell? ⟨x.tb,5,Z⟩=U (iI (M.th k).Au)/\x.tb<w.heap.size/\BC x.o (M.th k).out∈MO F gs M E:=by
 obtain⟨x,hx,ht⟩:=AkY ho hk;have hp:=XT (F:=F) (E:=E) hx ht;have h1:=(Ai.VU h hp).Ak;have hb:=h1.Ao (i:=0) (b:=x.tb) rfl;obtain⟨b,e,hc⟩:=Mz (p:=F.t.p) (h1.row (i:=7) rfl) (by rw[JS,hx];rfl);exact⟨x,b,e,hc,hb.cell 4,hb.cell 5,hb.lt,hp.mem_iff.2 (IR _ (.tail _ (.tail _ (.tail _ (.tail _ (.head _))))))⟩
theorem YB {m:List FR} (d:SG) (s:FR) (h:J ds=J m):BW (ds++[d]) (m++[s])=BW ds m++Aaz d s:=by
 unfold BW;rw[Qs h];simp
theorem xe:(prog.info? 41).map (λi=>(i.zero,i.size,i.bytes))=U (U (qD #[m9 Z 0 0,iI 0]),2,32):=Fd
theorem oe (j:Nat) (M:Al):LU (j+1) M=LU j M++[⟨(M.th j).out,(M.th j).Au⟩]:=by
 unfold LU;rw[j5,JQ];rfl
theorem Ly (j:Nat) (M:Al):(LU j M).length=j:=by unfold LU;simp
def Ak5 (L:List Ob) (m:List FR) (w:World) (e:Ending) (w':World):Prop:=∃(a:SG) (ds:List SG) (X:List Ob),e= qF (m9 a.p (J m) a.c)/\Ai w L w' (X++L)/\gI X a ds m
theorem Aay (F:VG) (gs:List Lf) (M:Al) (E:List Ob) (ho:rQ gs M) (Ro:∀t,(M.th t).out.length<=1000000000) (w:World) (h:Aq w (MO F gs M E)):
  Calls prog 14 #[iJ F.mb] w (Ak5 (MO F gs M E) (LU (J M.ts) M) w):=by
 have H:=D h;have HO:=D ho;have Hol:=D Ro;clear h ho Ro;go_enter func14,ntmps14;go_wp2_with fail;go_loopw [3,4,5] (λv i _ wr=>∃(j:Nat) (q:SG) (ds:List SG) (X:List Ob),i= iI j/\v= m9 q.p j q.c/\j<=J M.ts/\J ds=j/\Ai w (MO F gs M E) wr (.row (m9 q.p j q.c) 41 2 j (BW ds (LU j M))::(X++MO F gs M E))/\∀(t:Nat) (d:SG),ds[t]?=U d->BC d (M.th t).out∈X) (λ_ i _ _=>J M.ts-(intOf i).toNat);case atStart=>exact⟨0,⟨Z,0⟩,[],[],rfl,rfl,Jr _,rfl,Ai.H9 (A:=[]) H _ _,λt d h=>by simp at h⟩
 case round=>
  obtain⟨j,q,ds,X,rfl,rfl,hj,lE,hs,hX⟩:=hrel;have hE:Aq wr (MO F gs M E):=(hs.trans (Ai.drop (A:=[]) (B:=.row (m9 q.p j q.c) 41 2 j (BW ds (LU j M))::X) hs.Ak)).Ak;obtain⟨p1,p2⟩:=oM hE HO.out;have hT3:=HO.tl;by_cases hlt:j<J M.ts
  .have C4:j<(J M.ts:Int):=Y
   have hj0:0<=(j:Int):=Y
   have inc:True->wrap64 (j+1)=(j+1):=λ_=>IntWalk.wrap64_in _ Y
   obtain⟨x,tb,et,c1,c4,c5,lt5,EX⟩:=Age hE HO hlt;rw[et] at p1;have hv:wr.ownsRow 0 2 1 (m9 x.o.p (M.th j).out.length x.o.c) (M.th j).out.length (B9 (M.th j).out):=hE.holds _ EX;have hl9:=Hol.out j;have Hs:=D hs;have HV:=D hv;have PH:=D hlt;have gO:=D lE;have HX:=D hX;have Hl9:=D hl9;obtain⟨i0,hi,Pa⟩:=Jj.1 Rc;simp only[Prod.mk.injEq] at Pa;obtain⟨Re,Va,U9⟩:=Pa;obtain⟨s0,Xo⟩:∃z,z=M.th j:=⟨_,rfl⟩;rw[<-Xo] at c4 c5 HV Hl9;have HS0:=D Xo;clear hs hv hlt lE hX hj hE EX hT3 hl9 Xo;go_upto_region 6 with(first|(at_builtin;refine da 8 _ _ _ i0 _ Hs.Ak HV rfl Eq underlying31 hi Re Va U9 rfl Eq Eq (Aer _) (by have:=Hl9.out;unfold maxLen;omega) (by have:=Hl9.out;omega) ?_;intro m w2 MU)|fail)
   have S2:=D (Hs.trans MU);have hE2:Aq w2 (MO F gs M E):=(MU.trans (Ai.drop (A:=[]) (B:=Ob.row (m9 m.p (J s0.out) m.c) 2 1 (J s0.out) (B9 s0.out):: .row (m9 q.p j q.c) 41 2 j (BW ds (LU j M))::X) MU.Ak)).Ak;clear p1 p2 c1 c4 c5 lt5 hi Re Va U9 MU;obtain⟨p1,p2⟩:=oM hE2 HO.out;obtain⟨x,tb,et,c1,c4,c5,lt5,EX⟩:=Age hE2 HO PH.out;rw[et] at p1;rw[<-HS0.out] at c4 c5;obtain⟨i0,hi,Pa⟩:=Jj.1 xe;simp only[Prod.mk.injEq] at Pa;obtain⟨Re,Va,U9⟩:=Pa;have xq:j+1<=maxLen:=by have:=HO.tl;unfold maxLen;omega
   have N6:(j+1)*32<=140737488355328:=by have:=HO.tl;omega
   clear hE2 EX c4;go_wp2_with (first|(at_builtin;refine Bm 32 _ _ _ i0 _ #[.slice m.p (J s0.out) m.c,iI s0.Au] _ S2.Ak (k:=1) rfl Eq Eq underlying36 hi Re Va U9 rfl Y Eq Eq rfl (by simp[Value.oneCell']) xq N6 ?_;intro g6 AL w6 Aw _;have S6:=D (S2.trans Aw);clear Aw)|fail);go_roundw;case rel=>
    refine⟨j+1,⟨U ⟨g6,0,Z⟩,AL⟩,ds++[m],BC m s0.out::X,Eq,rfl,PH,by rw[GT,gO.out];rfl,?_,λt d hd=>?_⟩
    .rw[oe,<-HS0.out,YB _ _ (gO.out.trans (Ly _ _).symm)];exact S6.YQ (List.Perm.swap _ _ _)
    .rcases jR t j with h1|h1|h1
     .rw[J5 (by rw[gO.out];exact h1)] at hd;exact .tail _ (HX t d hd)
     .subst h1;rw[JY (by rw[gO.out];exact Jf _),gO.out,QQ] at hd;cases hd;rw[<-HS0.out];exact .head _
     .rw[Q4 (by rw[GT,gO.out];simp;omega)] at hd;cases hd
   case measure=>have:=PH.out;simp only[intOf];omega
  .have C4:¬j<(J M.ts:Int):=Y
   have hjT:j=J M.ts:=Y
   subst hjT;have Hs:=D hs;have HX:=D hX;have gO:=D lE;clear hs hX lE hlt hj hE;go_wp2;go_ret;refine⟨q,ds,.row (m9 q.p (J M.ts) q.c) 41 2 (J M.ts) (BW ds (LU (J M.ts) M))::X,by rw[Ly];rfl,Hs,⟨by rw[Ly];exact gO.out,by rw[Ly];exact .head _,λt d hd=> .tail _ ?_⟩⟩;have ht:t<J M.ts:=by have:=(Jn.1 hd).1;rw[gO.out] at this;exact this
   have e:(LU (J M.ts) M).getD t ⟨[],0⟩=⟨(M.th t).out,(M.th t).Au⟩:=by unfold LU;rw[Je,JS,jK ht];rfl
   rw[e];exact HX.out t d hd
theorem AaB (a b:SG) (l m:List Int) (w:World) (ha:(BC a l).holds w) (hb:(BC b m).holds w) (hl:J l<=1000000000):
  Calls prog 15 #[m9 a.p (J l) a.c,m9 b.p (J m) b.c] w λe w'=>e= qF (qB (decide (l=m)))/\Az [] w w':=by
 have HA:=D (λj (hj:j<J l)=>dV ha hj);have HB:=D (λj (hj:j<J m)=>dV hb hj);have Hl:=D hl;clear ha hb hl;go_enter func15,ntmps15;by_cases h1:J l=J m
 .have h1':(J l !=(J m:Int))=I:=by simp[h1]
  have H1:=D h1;clear h1;go_wp2_with fail;clear h1';go_loopw [5] (λi wr=>∃j:Nat,i= iI j/\j<=J l/\Az [] w wr/\∀k,k<j->l.getD k 0=m.getD k 0) (λi _=>J l-(intOf i).toNat);case atStart=>exact⟨0,rfl,Jr _,Az.refl _ _,λk hk=>Jk hk (Q3 k)⟩
  case round=>
   obtain⟨j,rfl,hj,hm,DT⟩:=hrel;by_cases hlt:j<J l
   .have C4:j<(J l:Int):=Y
    have AnQ:j<(J m:Int):=by have:=H1.out;omega
    have hj0:0<=(j:Int):=Y
    have inc:True->wrap64 (j+1)=(j+1):=λ_=>IntWalk.wrap64_in _ (by have:=Hl.out;omega)
    obtain⟨ab,ea,c1⟩:=HA.out j hlt;obtain⟨bb,eb,c2⟩:=HB.out j (by have:=H1.out;omega);replace c1:=AK hm c1;replace c2:=AK hm c2;rw[ea,eb];have PE:=D DT;have PH:=D hlt;have Hm:=D hm;clear DT hj hlt hm ea eb;generalize hp:l.getD j 0=p at*;generalize hq:m.getD j 0=q at*;have Hp:=D hp;have Hq:=D hq;clear hp hq;go_upto_region 6 with fail
    go_quiet (fail)
    by_cases hne:p=q
    .have lA:(p !=q)=I:=by simp[hne]
     have Np:=D hne;clear hne;go_wp2_with fail;go_roundw;case rel=>
      refine⟨j+1,by rw[inc trivial];rfl,PH,Hm.drewN _,λk hk=>?_⟩;rcases Nat.lt_succ_iff_lt_or_eq.1 hk with h|rfl
      .exact PE.out k h
      .rw[Hp.out,Hq.out];exact Np.out
     case measure=>have:=PH.out;rw[inc trivial];simp only[intOf];omega
    .have lA:(p !=q)=V:=by simp[hne]
     have Hf:=D (show l≠m from λe=>hne (by rw[<-Hp.out,<-Hq.out,e]));clear hne;go_wp2;go_ret;exact⟨by rw[JJ Hf.out];rfl,Hm.drewN _⟩
   .have C4:¬j<(J l:Int):=Y
    have he:l=m:=by
     have:=nH λk a b=>DT k Y
     rw[<-H1.out,J2,H1.out,J2] at this;exact this
    have Hf:=D he;have Hm:=D hm;clear hj hlt DT hm he;go_wp2;go_ret;exact⟨by rw[J3 Hf.out];rfl,Hm⟩
 .have h1':(J l !=(J m:Int))=V:=by simp;omega
  have Hf:=D (show l≠m from λe=>h1 (by rw[e]));clear h1;go_wp2;go_ret;exact⟨by rw[JJ Hf.out];rfl,Az.refl _ _⟩
theorem zW {P:Program} {a:Act} {K:Act->World->Prop} {E:Prop} (s x:Operand) (t:TypeId) {v1 v2 v:Value} (hgd:o.guard=Z) (ho:o.op=.call {callee:=.builtin .append,args:= #[s,x],argTypes:= #[t,t]}) (hs:a.eval s=v1) (hx:a.eval x=v2)
  (hr:(Builtin.append_ #[t,t] o.type #[v1,v2]).run P w=.ok v w') (h:K (a.put o.dst v) w'):if Region.wanted o (yielded Bf a.tmps)=V then Oper.wp P o a w K Q else E:=by
 rw[Jb (by unfold Region.wanted;rw[hgd])];unfold Oper.wp execOp;simp only[ho,resolve,invoke,builtin,Sem.run_bind,Sem.run_pure,Result.andThen_ok,List.map_toArray,Js,Qu,hs,hx,hr];exact h
def Ya (w:World) (a:Addr) (l:List Nat):Prop:=∀(j:Nat) u,(CD (Fc l))[j]?=U u->w.cell? (a.add j)=U u
theorem kC (l:List Nat):(CD (Fc l)).length=J l:=by simp[CD,Fc]
theorem AaE {a1 a2:Addr} {c:Nat} {xs ys:List Nat} (hx:J xs=k) (hy:J ys=m) (h1:Ya w a1 xs) (h2:Ya w a2 ys) (hs:k+m<=1000):
  ∃(a:Addr) (c':Nat) (w':World),(Builtin.append_ #[29,29] 29 #[m9 (U a1) k k,m9 (U a2) m c]).run prog w=.ok (m9 (U a) (k+m) c') w'/\k+m<=c'/\((m=0/\a=a1/\w'=w)\/∃cs:Array Value,(∀(j:Nat) u,(CD (Fc (xs++ys)))[j]?=U u->cs[j]?=U u)/\a=⟨w.heap.size,0,Z⟩/\w'=w.drew.alloc (qG cs 3)):=by
 obtain⟨i,hi,Pa⟩:=Jj.1 NZ;simp only[Prod.mk.injEq] at Pa;obtain⟨hz,Gp,hb⟩:=Pa;by_cases hm:m=0
 .subst hm;refine⟨a1,k,w,?_,Jf _,.inl ⟨rfl,rfl,rfl⟩⟩;simp[Builtin.append_,run_underlying underlying29,sizeOf,typeInfo,hi,Gp,Builtin.lenOf,Builtin.firstCells,loadCells,loadCellsFrom,storeCells]
 .have e:CD (Fc (xs++ys))=CD (Fc xs)++CD (Fc ys):=by simp[CD,Fc]
  have hr:=run_append_grow (P:=prog) w 29 29 3 i _ underlying29 hi hz a1 k k (CD (Fc xs)) (by rw[kC,hx,Gp,jQ]) h1 a2 m c (CD (Fc ys)) (by rw[kC,hy,Gp,jQ]) h2 Y Y (growslice_fits Y (by rw[hb];omega));refine⟨_,_,_,hr,grownCap_ge w (k+m) k 3,.inr ⟨_,λj u hj=>?_,rfl,rfl⟩⟩;rw[e] at hj;obtain⟨hlt,hv⟩:=Jn.1 hj;rw[Array.getElem?_append_left (by simpa using hlt)];simpa using hj
def Wz (X:List Ob) (a:Addr) (l:List Nat):Prop:=∃(b off:Nat) (cs:Array Value),a=⟨b,off,Z⟩/\Ob.Ao b cs 3∈X/\∀(j:Nat) u,(CD (Fc l))[j]?=U u->cs[off+j]?=U u
theorem Wz.cells {X:List Ob} {a:Addr} {l:List Nat} (h:Wz X a l) (hX:RQ w X):Ya w a l:=by
 obtain⟨b,off,cs,rfl,hm,hc⟩:=h;intro j u hj;have hb:Ci w b cs 3:=hX _ hm;rw[show(⟨b,off,Z⟩:Addr).add j=⟨b,off+j,Z⟩ by simp[Addr.add],hb.cell,hc j u hj]
theorem Aha {q:SG} {l:List Nat} (hn:0<n) (h:Aq w [.row (m9 q.p n q.c) 3 1 n (CD (Fc l))]):∃(a:Addr) (X:List Ob),q.p=U a/\n<=q.c/\Ai w [.row (m9 q.p n q.c) 3 1 n (CD (Fc l))] w X/\Wz X a l:=by
 have hr:=h.row (i:=0) rfl;rcases hr.2 with⟨hp,h0⟩|⟨g,cap,Ic,hv,_,hh,hc,_,_,ht⟩
 .omega
 .injection hv with q1 _ q3
  have s:=h.swap (i:=0) (o':=.Ao g Ic 3) rfl (Az.refl _ _) hh (by simp[Ob.fp]) (λb hb=> .inl (by
    have:b=g:=by simpa[Ob.fp] using hb
    subst this;show b∈(m9 q.p n q.c).ownBlock.toList;rw[q1];exact GE.2 rfl))
  refine⟨⟨g,0,Z⟩,[.Ao g Ic 3],q1,by rw[q3];exact hc,s,g,0,Ic,rfl,.head _,λj u hj=>?_⟩;rw[JH,<-Array.getElem?_toList];rw[<-ht] at hj;rw[d6] at hj;split at hj
  .exact hj
  .cases hj
def AmX (n:Nat) (w:World) (e:Ending) (w':World):Prop:=∃(a:SG) (o:List Nat) (X:List Ob),e= qF (m9 a.p (J o) a.c)/\Ai w [] w' (IK a o::X)/\o.Perm (List.range n)
theorem vD (c:Int) (hc:i64 c) (n:Nat) (hn:0<n/\n<=3) (w:World):Calls prog 11 #[iI c,iI n] w (AmX n w):=by
 have Hpk:=D (λw=>AaZ c 1073741824 Y hc w);obtain⟨kZ,hx1⟩:=Aa0 c (n:=1073741824) Y;generalize W3 c 1073741824=x0 at*;have Hx:=D (And.intro kZ hx1);obtain⟨i0,hi,Pa⟩:=Jj.1 NZ;simp only[Prod.mk.injEq] at Pa;obtain⟨Re,Va,U9⟩:=Pa;have Hn:=D hn;clear hc kZ hx1 hn;go_enter func11,ntmps11;go_wp2_with fail;go_loopw [5,6] (λv i wr=>∃(j:Nat) (q:SG),i= iI j/\v= m9 q.p j q.c/\j<=n/\Ai w [] wr [.row (m9 q.p j q.c) 3 1 j (CD (Fc (List.range j)))]) (λ_ i _=>n-(intOf i).toNat);case atStart=>exact⟨0,⟨Z,0⟩,rfl,rfl,Jr _,Ai.H9 (A:=[]) (Aq.nil w) _ _⟩
 case round=>
  obtain⟨j,q,rfl,rfl,hj,hs⟩:=hrel;by_cases hlt:j<n
  .have C4:(j:Int)<(n:Int):=Y
   have hj0:(0:Int)<=(j:Int):=Y
   have inc:True->wrap64 ((j:Int)+1)=((j:Int)+1):=λ_=>IntWalk.wrap64_in _ (by have:=Hn.2;omega)
   have Hs:=D hs;have PH:=D hlt;have xq:j+1<=maxLen:=by have:=Hn.2;unfold maxLen;omega
   have N6:(j+1)*8<=140737488355328:=by have:=Hn.2;omega
   clear hs hlt hj;go_wp2_with (first|(at_builtin;refine Bm 8 _ _ _ i0 _ #[iI j] _ Hs.Ak (k:=0) rfl Eq Eq underlying29 hi Re Va U9 rfl Y Eq Eq rfl (by simp[Value.oneCell']) xq N6 ?_;intro g6 AL w6 Aw _;have S6:=D (Hs.trans Aw);clear Aw)|fail);go_roundw;case rel=>
    refine⟨j+1,⟨U ⟨g6,0,Z⟩,AL⟩,Eq,rfl,PH,?_⟩;rw[show CD (Fc (List.range (j+1)))=CD (Fc (List.range j))++[iI (j:Nat)] by rw[j5];simp[CD,Fc]];exact S6.out
   case measure=>have:=PH.out;simp only[intOf];omega
  .have C4:¬(j:Int)<(n:Int):=Y
   have hjn:j=n:=Y
   subst hjn;obtain⟨a,X,ea,TU,s2,hL⟩:=Aha (l:=List.range j) Hn.1 hs.Ak;have Hs:=D (hs.trans s2);have HL:=D hL;have AdJ:=D TU;rw[ea];clear hs s2 hL hlt hj TU ea;go_wp2_with (go_at_call 18;refine(Hpk _).mono ?_;rintro e w2 ⟨rfl,rfl⟩);clear C4;go_loopw [5,7,8,9] (λv5 v7 v8 _ wr=>∃(l o:List Nat) (a:Addr) (cap:Nat) (q:SG) (x:Int) (X:List Ob),v5= m9 (U a) (J l) cap/\J l<=cap/\v7= m9 q.p (J o) q.c/\v8= iI x/\(0<=x/\x<1073741824)/\Ai w [] wr (IK q o::X)/\Wz X a l/\(o++l).Perm (List.range j)) (λv5 _ _ _ _=>match v5 with|.slice _ m _=>m|_=>0);case atStart=>exact⟨List.range j,[],a,q.c,⟨Z,0⟩,x0,X,by rw[i7],by rw[i7];exact AdJ.out,rfl,rfl,Hx,Hs.trans (Ai.H9 (A:=[]) Hs.Ak _ _),HL,List.Perm.refl _⟩
   case round=>
    clear Hs HL AdJ;obtain⟨l,o,a,cap,q,x,X,rfl,TU,rfl,rfl,⟨kZ,hx1⟩,hs,hL,hp⟩:=hrel;by_cases Le:0<J l
    .have Ah8:(0:Int)<(J l:Int):=Y
     have hlz:((J l:Int)==0)=I:=by simp;exact λh=>by rw[h] at Le;simp at Le
     have hpl:=hp.length_eq;rw[GT,i7] at hpl;obtain⟨b,off,cs,rfl,hm,hc⟩:=hL;have Hs:=D hs;have Hhm:=D hm;have Hc:=D hc;have Hp:=D hp;have Hpl:=D hpl;have Hl0:=D Le;have AdJ:=D TU;have HX0:=D kZ;have HX1:=D hx1;have AjM:0<=x / (J l:Int):=Int.ediv_nonneg kZ Y;have AjL:x / (J l:Int)<1073741824:=Int.lt_of_le_of_lt (Int.ediv_le_self _ kZ) hx1;have GJ:=Int.emod_lt_of_pos x Ah8;obtain⟨k,hk⟩:∃k:Nat,x % (J l:Int)=k:=⟨(x % (J l:Int)).toNat,by have:=Int.emod_nonneg x (show(J l:Int)≠0 by omega);omega⟩;have Kf:k<J l:=Y
     obtain⟨v,hv⟩:∃v,l[k]?=U v:=⟨_,Ja Kf⟩;have Te:wr.cell? ⟨b,off+k,Z⟩=U (iI (v:Nat)):=by
      have hb:Ci wr b cs 3:=hs.Ak.holds _ (.tail _ hm);rw[hb.cell];exact hc k _ (by simp[CD,Fc,hv])
     have Hk:=D hk;have Hkl:=D Kf;have Hv:=D hv;have HY:=D (And.intro AjM AjL);have xq:J o+1<=maxLen:=by have:=Hn.2;unfold maxLen;omega
     have N6:(J o+1)*8<=140737488355328:=by have:=Hn.2;omega
     clear hs hm hc hp hpl Le AjM AjL GJ Kf hv TU;go_upto_region 11 with fail
     rw[Hk.out];have Rr:(0:Int)<=(k:Int):=Y
     have Mo:(k:Int)<(J l:Int):=by have:=Hkl.out;omega
     clear hk kZ hx1;generalize x / (J l:Int)=y at*;go_upto_region 12 with(first|(at_builtin;refine Bm 8 _ _ _ i0 _ #[iI v] _ Hs.Ak (k:=0) rfl Eq Eq underlying29 hi Re Va U9 rfl Y Eq Eq rfl (by simp[Value.oneCell']) xq N6 ?_;intro g6 AL w6 Aw _;have S6:=D (Hs.trans Aw);clear Aw)|fail)
     clear Te Ah8 hlz;obtain⟨a2,pO⟩:∃z:Addr,(if cap=k+1 then U (⟨b,off,Z⟩:Addr) else U ⟨b,off+(k+1),Z⟩)=U z:=by
      split
      .exact⟨_,rfl⟩
      .exact⟨_,rfl⟩
     have hX:RQ w6.drew X:=λo ho=>Ob.mod (S6.Ak.holds o (.tail _ ho)) ((Az.refl [] w6).drew) EQ
     have hA1:Ya w6.drew ⟨b,off,Z⟩ (l.take k):=Wz.cells ⟨b,off,cs,rfl,Hhm,λj u hj=>Hc.out j u (by
       simp only[CD,Fc,List.map_take,d6] at hj;split at hj
       · exact hj
       · cases hj)⟩ hX
     have hL2:Wz X a2 (l.drop (k+1)):=by
      split at pO
      .rename_i Xw;cases pO;refine⟨b,off,cs,rfl,Hhm,λj u hj=>?_⟩;have:l.drop (k+1)=[]:=f8 (by have:=AdJ.out;omega);rw[this] at hj;simp[CD,Fc] at hj
      .cases pO;refine⟨b,off+(k+1),cs,rfl,Hhm,λj u hj=>?_⟩;rw[Jq];refine Hc _ u ?_;simpa[CD,Fc,List.map_drop,List.getElem?_drop] using hj
     have hA2:=hL2.cells hX;obtain⟨a3,c3,w7,hr,xx,hw7⟩:=AaE (k:=k) (m:=J l-(k+1)) (c:=cap-(k+1)) (by rw[LE];have:=Hkl.out;omega) (by rw[QU]) hA1 hA2 (by have:=Hn.2;have:=Hpl.out;omega);have Hr:=D hr;have Hc3:=D xx;have Hw7:=D hw7;have Ha2:=D pO;clear hX hA1 hA2 hL2 hr xx hw7 pO;have hwk:True->IntKind.i64.wrap ((k:Int)+1)=((k+1:Nat):Int):=λ_=>IntWalk.i64_in _ (by have:=Hn.2;have:=Hpl.out;omega)
     have ng:(k:Int)<=(J l:Int):=Y
     have hk4:(J l:Int)<=(cap:Int):=by have:=AdJ.out;omega
     have hk5:(k:Int)+1<=(J l:Int):=Y
     have hk6:(k:Int)<=(cap:Int):=Y
     have hk7:(0:Int)<=(k:Int)+1:=Y
     refine AO (l:=sq [8] 0 9) (λ_=>True) 8 trivial ?_;refine Fg ?_;refine A7 rfl (λK hK=>?_);refine zW _ _ _ rfl rfl rfl (by show m9 (if cap=k+1 then U (⟨b,off,Z⟩:Addr) else U ⟨b,off+(k+1),Z⟩) (J l-(k+1)) (cap-(k+1))=_;rw[Ha2.out]) Hr ?_;refine hK _ _ (λh=>trivial) ?_;clear hK;refine A7 rfl (λK hK=>?_);go_simp;refine hK _ _ (λh=>trivial) ?_;clear hK;simp only[Cr];go_wp2_with fail;have aY:(l.take k++l.drop (k+1)).length=k+(J l-(k+1)):=by have:=Hkl.out;rw[GT,LE,QU];omega
     have s7:Ai w [] w6.drew (IK ⟨U ⟨g6,0,Z⟩,AL⟩ (o++[v])::X):=by
      rw[<-P1];exact S6.trans (Ai.drew S6.Ak)
     have hpm:((o++[v])++(l.take k++l.drop (k+1))).Perm (List.range j):=by
      refine List.Perm.trans ?_ Hp.out;rw[Ji];refine Qn o ?_;refine(jW (l₁:=l.take k) (a:=v) (l₂:=l.drop (k+1))).symm.trans ?_;have hv:=Hv.out;rw[Ja Hkl.out] at hv;cases hv;rw[<-JO Hkl.out,QM]
     refine⟨?_,by show k+(J l-(k+1))<J l;have:=Hkl.out;omega⟩;rcases Hw7.out with⟨z0,rfl,rfl⟩|⟨cs2,Amz,rfl,rfl⟩
     .refine⟨l.take k++l.drop (k+1),o++[v],_,c3,⟨U ⟨g6,0,Z⟩,AL⟩,y,X,by rw[aY],by rw[aY];exact Hc3.out,by rw[GT];rfl,rfl,HY,s7,⟨b,off,cs,rfl,Hhm,λi u hi=>Hc.out i u ?_⟩,hpm⟩;have:l.drop (k+1)=[]:=f8 Y;rw[this,Jo] at hi;simp only[CD,Fc,List.map_take,d6] at hi;split at hi
      .exact hi
      .cases hi
     .have s8:=s7.trans ((Ai.drew s7.Ak).trans (Ai.new (Ai.drew s7.Ak).Ak (qG cs2 3)));rw[Jx] at s8;exact⟨l.take k++l.drop (k+1),o++[v],⟨w6.drew.drew.heap.size,0,Z⟩,c3,⟨U ⟨g6,0,Z⟩,AL⟩,y,X++[.Ao w6.drew.drew.heap.size cs2 3],by rw[aY];rfl,by rw[aY];exact Hc3.out,by rw[GT];rfl,rfl,HY,s8,⟨_,0,cs2,rfl,Jc _ (.head _),λi u hi=>by rw[JH];exact Amz i u hi⟩,hpm⟩
    .have Ah8:¬(0:Int)<(J l:Int):=Y
     have Vh:l=[]:=Jm Y;rw[Vh,Jo] at hp;have Hs:=D hs;have Hp:=D hp;clear hs hp Vh Le hL TU kZ hx1;go_wp2;go_ret;exact⟨q,o,X,rfl,Hs,Hp⟩
theorem kF (Y:List Ob) (F:VG) (gs:List Lf) (M:Al) (E:List Ob):(Y++MO F gs M E).Perm (MO F gs M (Y++E)):=by
 unfold MO;generalize F.UY M.mem (gs.map Lf.ptr)=A;generalize SB F gs M.ts=B;rw[show Y++(A++(B++E))=(Y++(A++B))++E by simp,show A++(B++(Y++E))=((A++B)++Y)++E by simp];exact QZ E J4
def Ajj (g:RG) (R:RS):rL:=⟨g.pb,g.t,g.cv,iI R.p.cells,m9 g.u.p (J R.p.Ap) g.u.c,m9 g.q.p (J R.p.BX) g.q.c,⟨Z,0⟩,[],0,0,[],[]⟩
theorem Ajh {g:RG} {R:RS} {p:RP} (hl:C9 g R) (hp:PS y p) (hR:R.p=p) {L:rL} (h1:L.pb=g.pb) (h2:L.tp=g.t) (h3:L.cv=g.cv) (h4:L.x1= iI R.p.cells) (h5:L.x2= m9 g.u.p (J R.p.Ap) g.u.c) (h6:L.x3= m9 g.q.p (J R.p.BX) g.q.c):mL (g.Ay R).tail L p.Aa:=by
 subst hR;refine⟨?_,?_,by rw[h3];exact hl.cl,λt a ha=>?_,λt=>?_⟩
 .rw[h1,h2,h4,h5,h6];unfold RG.Ay;simp
 .rw[h2,h3];unfold RG.Ay;simp
 .rw[h3] at ha;obtain⟨hlt,hv⟩:=Jn.1 ha;have ht:t<J R.p.Aa:=by rw[<-hl.cl];exact hlt
  have:CK a (R.p.Aa.getD t [])∈List.zipWith CK g.cv R.p.Aa:=by
   rw[List.mem_iff_getElem?];exact⟨t,by rw[jA,ha,Ja ht,Je,Ja ht];rfl⟩
  exact Jc [_,_,_,_,_,_,_,_,_] (IR _ this)
 .rw[hp.Aa,Je,JS];cases hx:y.Aa[t]? with
  |none=>exact Jr _
  |some s=>
   show(Ca s 0 0).length<=_;rw[CX];have hm:=JL hx;obtain⟨⟨c1,_⟩,c2⟩:=OY hp s hm;have:=L3 s c1;omega
theorem AaY {p:RP} (h:PS y p):J p.Aa=J y.Aa:=by rw[h.Aa,JZ]
theorem uz:∀o,o∈E->o∈MO F gs M E:=λo ho=>by unfold MO;exact Jc _ (Jc _ ho)
theorem o8 (s:ByteArray) (w:World) (hM:s.size<=1000000->Calls prog 10 #[qA s] w (Xk (bs s) w)) (c:Int) (hc:i64 c) (hb:s.size<4611686018427387904):
  Calls prog 4 #[qA s,iI c] w λe w'=>e= qF (qB V)/\Az [] w w':=by
 have HM:=D hM;have Hc:=D hc;clear hM hc;by_cases AcA:262144<s.size
 .have AkC:262144<(s.size:Int):=Y
  clear AcA;go_enter func4,ntmps4;go_wp2;go_ret;exact⟨rfl,Az.refl _ _⟩
 .have AkC:¬262144<(s.size:Int):=Y
  have Hma:=D (HM Y);clear AcA hb;cases hr:FL (bs s) with
  |error c=>
   have Hr:=D hr;clear hr;go_enter func4,ntmps4;go_wp2_with fail;refine Hma.mono ?_;intro e w1 hm;obtain⟨rfl,Nj⟩:=AbE Hr hm;have gM:=D Nj;clear hm Nj;go_wp2;go_ret;exact⟨rfl,gM⟩
  |ok p=>
   have Hr:=D hr;clear hr;go_enter func4,ntmps4;go_wp2_with fail;refine Hma.mono ?_;intro e w1 hm;obtain⟨y,g,R,F,gs,Wa,hRp,hlen,rfl,Aw,hok⟩:=AeR Hr hm;have OP:=AcI Aw;have hT:=rM Wa;have hT0:=JE.2 Wa.ne;have hT3:=(IT Wa).2.2.2;obtain⟨p1,p2⟩:=oM Aw.Ak hok;rw[hT] at p1;have hpr:=Ajh hlen Wa hRp (L:=Ajj g R) rfl rfl rfl rfl rfl rfl;have Hpr:=D hpr;have bI:=D Wa;have Hfr:=D OP;have Hok:=D hok;have HT:=D hT;have HRp:=D hRp;have Am7:=D (vD c Hc (J y.Aa) ⟨hT0,hT3⟩ w1);clear hm Aw Wa hRp hlen OP hok hpr hT;go_wp2_with (go_at_call 11;refine Am7.mono ?_;rintro e w2 ⟨a,o,X,rfl,MU,lr⟩);have EG:=lr.nodup_iff.2 List.nodup_range;have hlt:∀t,t∈o->t<J y.Aa:=λt ht=>Qo.1 (lr.mem_iff.1 ht)
   have DT:∀t,t<J y.Aa->t∈o:=λt ht=>lr.mem_iff.2 (Qo.2 ht)
   have Ro:J o<=3:=by rw[lr.length_eq,i7];exact hT3
   have s3:=Ai.frame (E:=MO F gs (R0 y) (g.Ay R).tail) Hfr.Ak MU;obtain⟨E1,hE1⟩:∃z,z=IK a o::X++(g.Ay R).tail:=⟨_,rfl⟩;have Akq:eK w w2 (MO F gs (R0 y) E1):=by rw[hE1];exact Hfr.step (s3.YQ (kF (IK a o::X) F gs (R0 y) _))
   have Akm:IK a o∈E1:=by rw[hE1];exact .head _
   have Akl:∀x,x∈(g.Ay R).tail->x∈E1:=λx hx=>by rw[hE1];exact Jc _ hx
   have Sy:=D EG;have PH:=D hlt;have PE:=D DT;have Hol:=D Ro;have Alq:=D Akq;have Alo:=D Akm;have Anc:=D Akl;clear EG hlt DT Ro s3 hE1 Akq Akm Akl MU lr p1 p2 Hfr;go_loopw [9,10] (λv _ wr=>∃(i:Nat) (gs:List Lf),v= iI i/\i<=J o/\eK w wr (MO F gs (OE (F8 y) (o.take i) (R0 y)) E1)/\rQ gs (OE (F8 y) (o.take i) (R0 y))) (λv _ _=>J o-(intOf v).toNat);case atStart=>exact⟨0,gs,rfl,Jr _,Alq,Hok⟩
   case round=>
    clear Alq Hok;obtain⟨i,gs,rfl,hi,hF,hO⟩:=hrel;by_cases hlt:i<J o
    .have C4:i<(J o:Int):=Y
     have hi0:0<=(i:Int):=Y
     have inc:True->wrap64 (i+1)=(i+1):=λ_=>IntWalk.wrap64_in _ (by have:=Hol.out;omega)
     obtain⟨t,ht⟩:∃t,o[i]?=U t:=⟨_,Ja hlt⟩;have htm:=JL ht;have htT:=PH.out t htm;have fX:∀x,x∈o.take i->x<(R0 y).ts.length:=λx hx=>by rw[HT.out];exact PH.out x (List.mem_of_mem_take hx)
     have hlen:(OE (F8 y) (o.take i) (R0 y)).ts.length=J y.Aa:=(YA _ _ fX).trans HT.out;have aX:=Yz (o.take i) (ct bI) fX;have htl:(o.take i).length<=3:=by rw[LE];have:=Hol.out;omega
     obtain⟨ab,ea,c0⟩:=Mz (hF.Ak.holds _ (uz _ Alo)) (v:= iI t) (by unfold CD Fc;rw[JS,JS,ht];rfl);have xz:=AfU F gs _ E1 wr hF.Ak hO t (by rw[hlen];exact htT) (F8 y) ((ud bI).ok t htT) (aX t (by rw[hlen];exact htT)).1 ((ud bI).ln t htT) 200000 (by have:=(aX t (by rw[hlen];exact htT)).2;omega);rw[show((200000:Nat):Int)=200000 from rfl] at xz;have hdr:o.drop i=t::o.drop (i+1):=by
      exact mbL
     have heo:o=o.take i++t::o.drop (i+1):=by rw[<-hdr,QM]
     have Xu:=Aax bI (a:=o.take i) (b:=o.drop (i+1)) (by rw[<-heo];exact Sy.out) (by rw[<-heo];exact PH.out) (by rw[<-heo];exact PE.out) (by rw[<-heo];have:=Hol.out;omega);rw[show(((Al.C8 (F8 y) t 200000 (OE (F8 y) (o.take i) (R0 y))).th t).Au !=0)=V by simpa using Xu] at xz;rw[<-cm,show o.take i++[t]=o.take (i+1) by rw[i6,ht];rfl] at xz;have Hal:=D xz;have HF:=D hF;have Hi:=D hlt;rw[ea];clear xz hF hO hi ht htm htT fX hlen aX hdr heo Xu ea htl;go_wp2_with (go_at_call 12;refine Hal.mono ?_;rintro e w6 ⟨rfl,gs6,hs6,Aj8,_⟩);have HF6:=D (HF.step hs6);have HO6:=D Aj8;clear hs6 Aj8;go_roundw;case rel=>exact⟨i+1,gs6,by rw[inc trivial];rfl,Hi,HF6,HO6⟩
     case measure=>have:=Hi.out;rw[inc trivial];simp only[intOf];omega
    .have C4:¬i<(J o:Int):=Y
     have hie:i=J o:=Y
     rw[hie,J2] at hF hO;have hlen:(OE (F8 y) o (R0 y)).ts.length=J y.Aa:=(YA _ _ λx hx=>by rw[HT.out];exact PH.out x hx).trans HT.out;have aX:=Yz o (ct bI) (λx hx=>by rw[HT.out];exact PH.out x hx);obtain⟨M1,hM1⟩:∃z,z=OE (F8 y) o (R0 y):=⟨_,rfl⟩;have aW:=iQ bI Sy PH PE (by have:=Hol.out;omega);rw[<-hM1] at hF hO hlen aX aW;have Ve:∀t,(M1.th t).out.length<=1000000000:=λt=>by
      by_cases ht:t<J M1.ts
      .have:=(aX t ht).2;have:=Hol.out;omega
      .unfold Al.th;rw[Je,Q4 Y];exact Jr _
     have hcn:R.p.cells=((y.cells.toNat:Nat)):=by rw[HRp.out,bI.out.cells];have:=bI.fw.c0;omega
     have lF:=(IT bI).2.2.1;have hsa:=n9 (Ajj g R) p.Aa _ (J y.Aa) y.cells.toNat Y Y (MO F gs M1 E1) (Hpr.mono λx hx=>uz _ (Anc x hx)) (AaY bI) (by show Value.int .i64 R.p.cells=_;rw[hcn]) a o (uz _ Alo) PH (by have:=Hol.out;omega) aW wr hF.Ak;have Hsa:=D hsa;have HF:=D hF;have HO:=D hO;have AiQ:=D hlen;have Alj:=D Ve;clear hM1 hF hO hlen aX aW Ve hcn lF hsa hlt hi hie;go_upto_region 14 with(go_at_call 13;refine Hsa.mono ?_;rintro e w7 ⟨wa,wds,wm,WX,rfl,hs7,hsn,tj,GU⟩)
     have hF7:=HF.step (hs7.YQ (kF WX F gs M1 E1));have hse:=Aay F gs M1 (WX++E1) HO Alj w7 hF7.Ak;rw[AiQ.out] at hse;have Hse:=D hse;have HF7:=D hF7;have Hsn:=D hsn;have Hwl:=D tj;have Hsh:=D GU;clear hse hF7 hsn tj GU hs7 HF Hsa;go_wp2_with (go_at_call 14;refine Hse.mono ?_;rintro e w8 ⟨ga,gds,GX,rfl,hs8,hgn⟩);have hgl:(LU (J y.Aa) M1).length=J y.Aa:=Ly _ _;rw[hgl] at*;have HF8:=D (HF7.step hs8);have Hgn:=D hgn;clear hs8 hgn HF7 Hse;clear hgl C4;go_loopw [13,14] (λv _ wr=>∃j:Nat,v= iI j/\j<=J y.Aa/\Az [] w8 wr) (λv _ _=>J y.Aa-(intOf v).toNat);case atStart=>exact⟨0,rfl,Jr _,Az.refl _ _⟩
     case round=>
      obtain⟨j,rfl,hj,hm⟩:=hrel;by_cases hlt:j<J y.Aa
      .have C4:j<(J y.Aa:Int):=Y
       have hj0:0<=(j:Int):=Y
       have hE:=HF8.Ak.hl.mod hm;obtain⟨l0,Le⟩:∃z,z=(M1.th j).out:=⟨_,rfl⟩;obtain⟨z0,Lc⟩:∃z,z=(M1.th j).Au:=⟨_,rfl⟩;have eg:(LU (J y.Aa) M1).getD j ⟨[],0⟩=⟨l0,z0⟩:=by unfold LU;rw[Je,JS,jK hlt,Le,Lc];rfl
       have ew:wm.getD j ⟨[],0⟩=⟨l0,z0⟩:=by
        obtain⟨h1,h2⟩:=Hsh.out j (PE j hlt);rw[Le,Lc,<-h1,<-h2]
       obtain⟨gb,gd,e1,c1,c2,c3⟩:=sB Hgn (λx hx=>hE x (IR _ hx)) (by rw[Ly];exact hlt);obtain⟨wb,wd,e2,d1,d2,d3⟩:=sB Hsn (λx hx=>hE x (Jc _ (uz _ (IR _ hx)))) (by rw[Hwl.out];exact hlt);rw[eg] at c1 c2 c3;rw[ew] at d1 d2 d3;have Rk:=AaB gd wd l0 l0 wr.drew (Ob.mod c3 ((Az.refl [] wr).drew) EQ) (Ob.mod d3 ((Az.refl [] wr).drew) EQ) (by rw[Le];exact Alj.out j);rw[J3 rfl] at Rk;rw[e1,e2];have Hsm:=D Rk;have Aln:=D hlt;have Hm:=D hm;clear hE eg ew c3 d3 Rk hlt hm hj Le Lc e1 e2;dsimp only at c1 c2 d1 d2;go_upto_region 18 with fail
       refine AO (l:=sq [10] 0 11) (λW=>W.cell? ⟨gb,j*2,Z⟩=U (m9 gd.p (J l0) gd.c)/\W.cell? ⟨wb,j*2,Z⟩=U (m9 wd.p (J l0) wd.c)) 10 ⟨c1,d1⟩ ?_;refine Fg ?_;refine A7 rfl (λK hK=>?_);go_simp;refine Hsm.mono ?_;rintro e w3 ⟨rfl,gW⟩;have XZ:=(Az.refl _ _).drew.t0 gW;refine hK _ w3 (λh=>Jk h Do) ?_;clear hK Hsm c1 d1;refine A7 rfl (λK hK=>?_);go_simp;refine hK _ w3 (λh=>Jk h Do) ?_;clear hK;simp only[Cr];replace c2:=AK XZ c2;replace d2:=AK XZ d2;have yX:=D (Hm.t0 XZ);clear gW XZ Hm;go_upto_region 19 with fail
       go_quiet (fail)
       go_wp2_with fail;go_roundw;case rel=>exact⟨j+1,Eq,Aln,yX.drewN _⟩
       case measure=>have:=Aln.out;simp only[intOf];omega
      .have C4:¬j<(J y.Aa:Int):=Y
       have Hm:=D hm;clear hm hlt hj;go_wp2;go_ret;exact⟨rfl,HF8.mod.t0 Hm⟩
