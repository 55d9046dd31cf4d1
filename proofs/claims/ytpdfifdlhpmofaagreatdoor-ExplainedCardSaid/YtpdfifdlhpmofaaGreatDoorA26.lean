/- Part 26 of the proof. -/
import Derived.Test.YtpdfifdlhpmofaaGreatDoorA25
set_option linter.unusedVariables false
set_option linter.unusedSimpArgs false
set_option maxHeartbeats 0
set_option maxRecDepth 99999
namespace Go.Proofs.YtpdfifdlhpmofaaGreatDoor
open Go.RowKit Tryz
open Value renaming slice->qD,string->qE,bool->qF,tuple->qG,agg->qH,pointer->qI
open Ending renaming returned->qJ
open Obj renaming cells->qK
open Option renaming none->Z,some->U
open Bool renaming true->V,false->I
open Go.Lib renaming hid->D
open List renaming length->J
theorem mat {p:Prop} (h:p:=by
 go_upto_region 19 with fail
 go_quiet (fail)
 go_wp2_with fail;go_roundw;case rel=>exact⟨j+1,by rw[inc trivial];rfl,Fg,FZ.drewN _,λk hk=>(J9.1 hk).elim (Kb k) (λe=>e▸Hn.out)⟩
 case measure=>have:=Fg.out;rw[inc trivial];simp only[intOf];omega):p:=h
theorem mau {p:Prop} (h:p:=by
 simp only[Prod.mk.injEq] at hr;obtain⟨⟨hr,rfl⟩,rfl⟩:=hr;have HR:=D hr;have c5:w2.cell? ⟨g.b,5,Z⟩=U (iI r.An):=(hs.Ak.Ao (i:=0) rfl).cell 5;have f5:=(hs.Ak.Ao (i:=0) rfl).free 5;have S1:=D (hs.trans (hs.Ak.set (i:=0) rfl 5 (iI 2)));clear hs hr FZ RV;generalize r.get x.AN=av at*;by_cases h0:av<0
 .clear hi;go_wp2;go_ret;exact⟨rfl,g.o,by rw[<-HR.out];exact S1.out⟩
 .have h1:x.size<=av:=Y
  clear hi;go_wp2;go_ret;exact⟨rfl,g.o,by rw[<-HR.out];exact S1.out⟩):p:=h
theorem maE {p:Prop} (h:p:=by
 have bW:(q !=z)=I:=by simp[hne]
 have M8:=D hne;clear hne;go_wp2_with fail;go_roundw;case rel=>
  refine⟨j+1,by rw[inc trivial];rfl,Fg,Hm.drewN _,λk hk=>?_⟩;rcases J9.1 hk with h|rfl
  .exact Kb.out k h
  .rw[Hq.out,Hz.out];exact M8.out
 case measure=>have:=Fg.out;rw[inc trivial];simp only[intOf];omega):p:=h
theorem maG {p:Prop} (h:p:=by
 unfold oV oD oR at hs;generalize (((w.alloc _).alloc _).alloc _).drew=w1 at hs⊢;have HS:=D hs;clear hs m4 m3;go_wp2_with fail;refine(Wn l a E HN Hl _ .start u m w1 HS.Ak HM).mono ?_;rintro e w2 ⟨rfl,o,K8⟩;have tw:=D (HS.trans K8);clear K8;go_wp2;go_ret;exact⟨_,rfl,tw⟩):p:=h
theorem maY {p:Prop} (h:p:=by
 refine⟨j+1,⟨U ⟨g6,0,Z⟩,AI⟩,Eq,rfl,Fg,?_⟩;rw[RC,<-HS0.out,He.out,show DE (Gg j M++[I])=DE (Gg j M)++[qF I] by unfold DE;rw[JH];rfl];exact S6.out):p:=h
theorem ma1 {p:Prop} (h:p:=by
 have Hf:=D (Y0 (P:=P) (ah:=ah) (F:=F) (cs:=cs) Hd2 kr NL);clear hb NL;go_upto_region 13 with fail
 go_quiet (fail)
 go_wp2;go_ret;exact⟨by rw[Hf.out];rfl,Af.quiet H (vB.drewN _)⟩):p:=h
theorem mbI {p:Prop} (h:p:=by
 have Hf:=D hf;clear hne hf;go_wp2;go_ret;exact⟨by rw[Hf.out];rfl,HM.t0 (Hm.drewN _)⟩):p:=h
variable {r u:RR} {E L L' E' X X':List Ob} {w w':World} {b:Bool} {n i db j vb cb k T s t N':Nat} {e:TypeId} {l:List Nd} {v z:Value} {a q:SG} {m:List Cq} {x:Nd} {P:Nat->Prop} {xs:List Value} {p:Option Addr} {cu:List Int} {M:Am} {gs:List H9} {rs:List RR} {ds av mg:List SG} {ah:List (List Bool)} {ms:List (List Cq)} {F:VG} {y:qL} {md:List (List SG)}
structure NG where
 b:Nat
 v:SG
 d:SG
 o:SG
variable {g:NG}
def NG.cells (g:NG) (r:RR):Array Value:= #[iI r.pc,qD g.v.p 4 g.v.c,qD g.d.p 3 g.d.c,qD g.o.p (J r.Al) g.o.c,iI r.Bq,iI r.An]
def NG.run (g:NG) (r:RR):List Ob:=
 [.Ao g.b (g.cells r) 74,.row (qD g.v.p 4 g.v.c) 2 1 4 (BZ r.v),.row (qD g.d.p 3 g.d.c) 3 1 3 (BZ r.Dz),.row (qD g.o.p (J r.Al) g.o.c) 2 1 (J r.Al) (BZ r.Al)]
theorem Abi (a:At) (ha:DP a) (w:World) (g:NG) (r:RR) (vb:Nat) (hb:Ch w g.b (g.cells r) 74) (hvp:g.v.p=U ⟨vb,0,Z⟩) (hr:∀i,(hi:i<4)->w.cell? ⟨vb,i,Z⟩=U (iI (r.v.getD i 0))):
  Calls prog 66 #[iJ g.b,a.val] w λe w'=>e= qJ (iI (r.get a))/\Aw [] w w':=by
 obtain⟨rg,n⟩:=a;unfold NG.cells at hb;rw[hvp] at hb;cases rg with
 |true=>
  have hv:0<=n/\n<4:=ha;obtain⟨Z7,h8'⟩:=hv;obtain⟨i,rfl⟩:∃i:Nat,n=i:=⟨n.toNat,Y⟩;have hi:i<4:=Y
  have hc:=hr i hi;have Ix:=hb.cell 1;have AF:r.get ⟨V,i⟩=r.v.getD i 0:=rfl;have Hres:=D AF;clear hb ha hr AF hvp;unfold At.val;go_enter func66,ntmps66;go_wp2;have ha:(w.alloc (qK #[qF V,Value.int IntKind.i64 ↑i] 108)).cell? ⟨w.heap.size,1,Z⟩=U (iI i):=(Ch.new w _ _).cell 1;have Anc:(w.alloc (qK #[qF V,Value.int IntKind.i64 ↑i] 108)).cell? ⟨g.b,1,Z⟩=U (qD (U ⟨vb,0,Z⟩) 4 g.v.c):=AH ((Aw.refl [] w).alloc _) (Ix.trans rfl);have hc':(w.alloc (qK #[qF V,Value.int IntKind.i64 ↑i] 108)).cell? ⟨vb,i,Z⟩=U (iI (r.v.getD i 0)):=AH ((Aw.refl [] w).alloc _) hc;refine AU (l:=sq [] 0 8) (λW=>W.cell? ⟨w.heap.size,1,Z⟩=U (iI i)/\W.cell? ⟨g.b,1,Z⟩=U (qD (U ⟨vb,0,Z⟩) 4 g.v.c)/\W.cell? ⟨vb,i,Z⟩=U (iI (r.v.getD i 0))) 8 ⟨ha,Anc,hc'⟩ ?_;refine FC ?_;refine Bb rfl (λK hK=>?_);go_simp;refine hK _ _ (λh=>Jk h Do) ?_;clear hK;simp only[Ct];go_wp2;go_ret;exact⟨by rw[Hres.out,Ja];rfl,((Aw.refl _ _).alloc _).drew⟩
 |false=>
  clear ha hr;unfold At.val;go_enter func66,ntmps66;go_wp2;go_ret;exact⟨rfl,(Aw.refl _ _).alloc _⟩
def Ano (g:NG) (r:RR) (E:List Ob) (w:World) (r':RR) (ok:Bool) (e:Ending) (w':World):Prop:=e= qJ (qF ok)/\∃o:SG,Af w (g.run r++E) w' (NG.run {g with o:=o} r'++E)
theorem AbO (x:Nd):x.val= qH #[.int .u8 x.kind,iI x.v,qE x.op,qF x.a.AX,iI x.a.v,qF x.b.AX,iI x.b.v,qF x.AN.AX,iI x.AN.v,iI x.first,iI x.size,iI x.CN,iI x.n,iI x.Ah]:=rfl
structure Anq (g:NG) (r:RR) (E:List Ob) (x:Nd) (w w1:World):Prop where
 s:Af w (g.run r++E) w1 (g.run {r with pc:=r.pc+1}++E)
 box:∀i:Nat,w1.cell? ⟨w.heap.size,i,Z⟩=x.cells[i]?
 lt:w.heap.size<w1.heap.size
 kp:AY w1 (g.run {r with pc:=r.pc+1}++E) [(w.heap.size,qK x.cells.toArray 110 (0,0))]
theorem Ajx (x:Nd) (h:Aq w (g.run r++E)) {w1:World} (hm:Aw [] ((w.setCell ⟨g.b,0,Z⟩ (iI ((r.pc:Int)+1))).alloc (qK x.cells.toArray 110)) w1):Anq g r E x w w1:=by
 have s0:Af w (g.run r++E) (w.setCell ⟨g.b,0,Z⟩ (iI (r.pc+1))) (g.run {r with pc:=r.pc+1}++E):=h.set (i:=0) rfl 0 _;have s1:=s0.trans (Af.alloc s0.Ak (qK x.cells.toArray 110));have Ib:(w.setCell ⟨g.b,0,Z⟩ (iI (r.pc+1))).heap.size=w.heap.size:=by
  simp
 have hb:=Ch.new (w.setCell ⟨g.b,0,Z⟩ (iI (r.pc+1))) x.cells.toArray 110;rw[Ib] at hb;have Ix:Ch w1 w.heap.size x.cells.toArray 110:=hm.heap hb EQ;refine⟨s1.trans (Af.quiet s1.Ak hm),λi=>by rw[Ix.cell i];simp,Ix.lt,?_⟩;have:=((AY.nil _ (g.run {r with pc:=r.pc+1}++E)).new s0.Ak (qK x.cells.toArray 110)).quiet hm;rw[Ib] at this;exact this
theorem UY (a:At) (ha:DP a) (g:NG) {w:World} {r:RR} {E:List Ob} (h:Aq w (g.run r++E)) (FK:J r.v=4):
  Calls prog 66 #[iJ g.b,a.val] w λe w'=>e= qJ (iI (r.get a))/\Aw [] w w':=by
 obtain⟨vb,vc,ev,_,_,_,_,hvc,_⟩:=Av (h.row (i:=1) rfl) Do;have evp:g.v.p=U ⟨vb,0,Z⟩:=by injection ev
 exact Abi a ha w g r vb (h.Ao (i:=0) rfl) evp λi hi=>by
  rw[hvc i (by simp[BZ];omega),<-Jb,Jb (by simp[BZ];omega),kF Y]
theorem Ma {b cap:Nat} {l:List Int} (h:w.ownsRow 0 e 1 (qD (U ⟨b,0,Z⟩) n cap) n (BZ l)) (hi:i<J l):w.cell? ⟨b,i,Z⟩=U (iI (l.getD i 0)):=by
 have:=(AZ h).1 i (by simp[BZ];exact hi);rw[this,kF hi]
theorem AiR (h:Aq w (g.run r++E)) (hd:g.d.p=U ⟨db,0,Z⟩):w.ownsRow 0 3 1 (qD (U ⟨db,0,Z⟩) 3 g.d.c) 3 (BZ r.Dz):=by rw[<-hd];exact h.row (i:=2) rfl
theorem Ahw (h:Aq w (g.run r++E)) (hd:g.d.p=U ⟨db,0,Z⟩) (hj:j<J r.Dz) (u:Int):Af w (g.run r++E) (w.setCell ⟨db,j,Z⟩ (iI u)) (g.run {r with Dz:=r.Dz.set j u}++E):=by
 have e:BZ (r.Dz.set j u)=(BZ r.Dz).set j (iI u):=by unfold BZ;rw[Qx]
 have hL:(g.run r++E)[2]?=U (.row (qD (U ⟨db,0,Z⟩) 3 g.d.c) 3 1 3 (BZ r.Dz)):=by rw[<-hd];rfl
 have s:=h.Eu hL j (by simp[BZ];exact hj) (iI u);rw[<-hd,<-e] at s;exact s
theorem oJ:∀op,op∈B7->op.toList.isEmpty=I:=by decide+kernel
theorem Ahc (h:Aq w (g.run r++E)) (hv:g.v.p=U ⟨vb,0,Z⟩):w.ownsRow 0 2 1 (qD (U ⟨vb,0,Z⟩) 4 g.v.c) 4 (BZ r.v):=by rw[<-hv];exact h.row (i:=1) rfl
theorem Aht (h:Aq w (g.run r++E)) (hv:g.v.p=U ⟨vb,0,Z⟩) (hj:j<J r.v) (u:Int):Af w (g.run r++E) (w.setCell ⟨vb,j,Z⟩ (iI u)) (g.run {r with v:=r.v.set j u}++E):=by
 have e:BZ (r.v.set j u)=(BZ r.v).set j (iI u):=by unfold BZ;rw[Qx]
 have hL:(g.run r++E)[1]?=U (.row (qD (U ⟨vb,0,Z⟩) 4 g.v.c) 2 1 4 (BZ r.v)):=by rw[<-hv];rfl
 have s:=h.Eu hL j (by simp[BZ];exact hj) (iI u);rw[<-hv,<-e] at s;exact s
theorem AeM {w6:World} {g6 AI:Nat} {v:Int} (S:Af w (g.run r++E) w6 ((g.run r++E).set 3 (.row (qD (U ⟨g6,0,Z⟩) (J r.Al+1) AI) 2 1 (J r.Al+1) (BZ r.Al++(#[Value.int .i64 v]:Array Value).toList)))):
  Af w (g.run r++E) (w6.setCell ⟨g.b,3,Z⟩ (qD (U ⟨g6,0,Z⟩) (J r.Al+1) AI)) (NG.run {g with o:=⟨U ⟨g6,0,Z⟩,AI⟩} {r with Al:=r.Al++[v]}++E):=by
 have s:=S.trans (S.Ak.set (i:=0) rfl 3 (qD (U ⟨g6,0,Z⟩) (J r.Al+1) AI));have e0:BZ (r.Al++[v])=BZ r.Al++(#[Value.int .i64 v]).toList:=by unfold BZ;rw[JH];rfl
 unfold NG.run NG.cells at s⊢;dsimp only at s⊢;rw[e0,GT];exact s
theorem AbA {op:ByteArray} {a b:Int} (h:BP op a b=Z):Zl op a b= qG #[iI 0,qF I]:=by unfold Zl;rw[h];rfl
def BD (c:SG) (cs:List Int):Ob:=.row (qD c.p (J cs) c.c) 2 1 (J cs) (BZ cs)
def Anp (g:NG) (c:SG) (r:RR) (cs:List Int) (E:List Ob) (w:World) (r':RR) (cs':List Int) (ok:Bool) (e:Ending) (w':World):Prop:=e= qJ (qF ok)/\∃o:SG,Af w (g.run r++BD c cs::E) w' (NG.run {g with o:=o} r'++BD c cs'::E)
section
variable {w:World} {g:NG} {c:SG} {r:RR} {cs:List Int} {E:List Ob} (h:Aq w (g.run r++BD c cs::E))
include h
theorem AiU (hc:c.p=U ⟨cb,0,Z⟩):w.ownsRow 0 2 1 (qD (U ⟨cb,0,Z⟩) (J cs) c.c) (J cs) (BZ cs):=by rw[<-hc];exact h.row (i:=4) rfl
theorem AiV (hn:0<J cs):∃cb,c.p=U ⟨cb,0,Z⟩:=by
 obtain⟨cb,_,e,_⟩:=Av (h.row (i:=4) rfl) hn;exact⟨cb,by injection e⟩
theorem AjC {m:Nat} (hc:c.p=U ⟨cb,0,Z⟩) (hm:m<J cs) (u:Int):Af w (g.run r++BD c cs::E) (w.setCell ⟨cb,m,Z⟩ (iI u)) (g.run r++BD c (cs.set m u)::E):=by
 have e:BZ (cs.set m u)=(BZ cs).set m (iI u):=by unfold BZ;rw[Qx]
 have hL:(g.run r++BD c cs::E)[4]?=U (.row (qD (U ⟨cb,0,Z⟩) (J cs) c.c) 2 1 (J cs) (BZ cs)):=by rw[<-hc];rfl
 have s:=h.Eu hL m (by simp[BZ];exact hm) (iI u);rw[<-hc,<-e] at s;unfold BD at s⊢;rw[Jp];exact s
end
theorem Af.drewN (h:Af w L w' L') (n:Nat):Af w L (w'.drewN n) L':=h.trans (Af.quiet h.Ak ((Aw.refl [] w').drewN n))
theorem tS {cs:List Int} {c:SG} (hs:VO x r (J cs)) (ho:J r.Al<=60000) (Cs:J cs<=1000000) (Tm:r.pc<=1000000) (h:Aq w (g.run r++BD c cs::E)):
  Calls prog 44 #[iJ g.b,x.val,qD c.p (J cs) c.c] w (Anp g c r cs E w (r.step x cs).1.1 (r.step x cs).1.2 (r.step x cs).2):=by
 obtain⟨FK,FQ,ha,hk⟩:=hs;generalize Ay:r.step x cs=st;obtain⟨⟨r9,c9⟩,b9⟩:=st;have hb:=h.Ao (i:=0) rfl;obtain⟨vb,vc,ev,_⟩:=Av (h.row (i:=1) rfl) Do;have evp:g.v.p=U ⟨vb,0,Z⟩:=by injection ev
 have H:=D h;have Hev:=D evp;have X6:=D FK;have SB:=D FQ;have Hk:=D hk;have FZ:=D Ay;have Ho:=D ho;have oa:=D Cs;have iX:True->wrap64 (r.pc+1)=((r.pc+1:Nat)):=λ_=>IntWalk.wrap64_in _ Y
 have Fu:w.cell? ⟨g.b,0,Z⟩=U (iI r.pc):=hb.cell 0;have uJ:=hb.free 0;have hlt:=hb.lt;have AlO:=D (UY x.a ha g (Ajx x h (Aw.refl [] _)).s.Ak FK);rw[AbO];clear h hb ev evp Tm FK FQ hk Ay ho Cs ha;go_enter func44,ntmps44;go_wp2_with fail;refine AlO.mono ?_;rintro e w1 ⟨rfl,hm⟩;obtain⟨hs,Ka,AmO,mH⟩:=Ajx x H hm;rw[show RR.get {r with pc:=r.pc+1} x.a=r.get x.a from rfl];clear hm AlO Fu uJ hlt H iX;dsimp only;rcases Hk.out with⟨k,hv,I7,hb⟩|⟨k,hv,FU,hf⟩|⟨k,FU,hf⟩|⟨k⟩|⟨k,ht⟩|⟨k,hd⟩|⟨k,hd,hq,ht⟩;all_goals clear Hk
 .have k0:w1.cell? ⟨w.heap.size,0,Z⟩=U (.int .u8 115):=by rw[Ka 0];show x.cells[0]?=_;unfold Nd.cells;rw[k];rfl
  have k1:w1.cell? ⟨w.heap.size,1,Z⟩=U (iI x.v):=Ka 1;by_cases hz:x.op.size=0
  .have e0:x.op=⟨#[]⟩:=by
    cases e:x.op with
    |mk d=>rw[e] at hz;rw[Array.size_eq_zero_iff.1 (hz)]
   have k2:w1.cell? ⟨w.heap.size,2,Z⟩=U (qE ⟨#[]⟩):=by rw[Ka 2];unfold Nd.cells;rw[e0];rfl
   have hr:=(tK k hz rfl).symm.trans FZ.out;simp only[Prod.mk.injEq] at hr;obtain⟨⟨hr,rfl⟩,rfl⟩:=hr;have HR:=D hr;have c1:w1.cell? ⟨g.b,1,Z⟩=U (qD (U ⟨vb,0,Z⟩) 4 g.v.c):=by rw[<-Hev.out];exact(hs.Ak.Ao (i:=0) rfl).cell 1
   obtain⟨j,hj⟩:∃j:Nat,x.v=j:=⟨x.v.toNat,Y⟩;rw[hj] at k1 hv;have Hvr:=Ahc hs.Ak Hev.out;have rf:=(AZ Hvr).2.1 j;have rc:=Ma Hvr (by show j<J r.v;have:=X6.out;omega);have S1:=D (hs.trans (Aht hs.Ak Hev (by show j<J r.v;have:=X6.out;omega) (r.get x.a)));have Hj:=D hj;clear hs hj Hvr hr FZ mH Ka I7 hb e0 hz;go_upto_region 12 with fail
   refine AU (l:=sq [] 0 8) (λW=>W.cell? ⟨g.b,1,Z⟩=U (qD (U ⟨vb,0,Z⟩) 4 g.v.c)/\W.cell? ⟨w.heap.size,1,Z⟩=U (iI j)) 8 ⟨c1,k1⟩ ?_;refine FC ?_;refine Bb rfl (λK hK=>?_);go_simp;refine hK _ _ (λh=>Jk h Do) ?_;clear hK;simp only[Ct];go_wp2;go_ret;refine⟨rfl,g.o,?_⟩;rw[<-HR.out,Hj.out,JW];exact S1.trans (Af.drew S1.Ak)
  .have Ail:=I7.resolve_left hz;have hne:=oJ _ Ail;have k2:w1.cell? ⟨w.heap.size,2,Z⟩=U (qE x.op):=Ka 2;have k6:w1.cell? ⟨w.heap.size,5,Z⟩=U (qF x.b.AX):=Ka 5;have k7:w1.cell? ⟨w.heap.size,6,Z⟩=U (iI x.b.v):=Ka 6;have Hz:=D hz;have Hop:=D Ail;have HB:=D hb;have HS:=D hs;have HKP:=D mH;clear hz I7 Ail hb hs mH Ka;go_wp2_with fail;refine(UY x.b HB g HS.Ak X6).mono ?_;rintro e w2 ⟨rfl,Fa⟩;rw[show RR.get {r with pc:=r.pc+1} x.b=r.get x.b from rfl];have hs:=HS.trans (Af.quiet HS.Ak Fa);have RV:=D (HKP.quiet Fa);clear HS HKP k0 k2 k6 k7 k1;have k1:w2.cell? ⟨w.heap.size,1,Z⟩=U (iI x.v):=RV.cell (GE.2 rfl) 1;have k2:w2.cell? ⟨w.heap.size,2,Z⟩=U (qE x.op):=RV.cell (GE.2 rfl) 2;have tw:=D hs;clear hs;go_wp2_with fail;refine(lU x.op Hop (r.get x.a) (r.get x.b) w2).mono ?_;rintro e w3 ⟨rfl,rfl⟩;have hs:=tw.out;cases hm:BP x.op (r.get x.a) (r.get x.b) with
   |some u=>
    rw[Ga hm];have hr:=(tJ k Hz rfl rfl hm).symm.trans FZ.out;simp only[Prod.mk.injEq] at hr;obtain⟨⟨hr,rfl⟩,rfl⟩:=hr;have HR:=D hr;have c1:w3.cell? ⟨g.b,1,Z⟩=U (qD (U ⟨vb,0,Z⟩) 4 g.v.c):=by rw[<-Hev.out];exact(hs.Ak.Ao (i:=0) rfl).cell 1
    obtain⟨j,hj⟩:∃j:Nat,x.v=j:=⟨x.v.toNat,Y⟩;rw[hj] at k1 hv;have Hvr:=Ahc hs.Ak Hev.out;have rf:=(AZ Hvr).2.1 j;have rc:=Ma Hvr (by show j<J r.v;have:=X6.out;omega);have S1:=D (hs.trans (Aht hs.Ak Hev (by show j<J r.v;have:=X6.out;omega) u));have Hj:=D hj;clear hs hj Hvr hr FZ tw RV k2 hm;go_upto_region 12 with fail
    refine AU (l:=sq [] 0 8) (λW=>W.cell? ⟨g.b,1,Z⟩=U (qD (U ⟨vb,0,Z⟩) 4 g.v.c)/\W.cell? ⟨w.heap.size,1,Z⟩=U (iI j)) 8 ⟨c1,k1⟩ ?_;refine FC ?_;refine Bb rfl (λK hK=>?_);go_simp;refine hK _ _ (λh=>Jk h Do) ?_;clear hK;simp only[Ct];go_wp2;go_ret;refine⟨rfl,g.o,?_⟩;rw[<-HR.out,Hj.out,JW];exact S1.trans (Af.drew S1.Ak)
   |none=>
    rw[AbA hm];have hr:=(tI k Hz rfl rfl hm).symm.trans FZ.out;simp only[Prod.mk.injEq] at hr;obtain⟨⟨hr,rfl⟩,rfl⟩:=hr;have HR:=D hr;have c5:w3.cell? ⟨g.b,5,Z⟩=U (iI r.An):=(hs.Ak.Ao (i:=0) rfl).cell 5;have f5:=(hs.Ak.Ao (i:=0) rfl).free 5;have S1:=D (hs.trans (hs.Ak.set (i:=0) rfl 5 (iI 1)));clear hs hr FZ tw RV k2 hm;go_wp2;go_ret;exact⟨rfl,g.o,by rw[<-HR.out];exact S1.out⟩
 .have k0:w1.cell? ⟨w.heap.size,0,Z⟩=U (.int .u8 103):=by rw[Ka 0];show x.cells[0]?=_;unfold Nd.cells;rw[k];rfl
  have k7:w1.cell? ⟨w.heap.size,7,Z⟩=U (qF x.AN.AX):=Ka 7;have k8:w1.cell? ⟨w.heap.size,8,Z⟩=U (iI x.AN.v):=Ka 8;have HS:=D hs;have HKP:=D mH;have HB:=D FU;clear hs mH Ka FU;go_wp2_with fail;refine(UY x.AN HB g HS.Ak X6).mono ?_;rintro e w2 ⟨rfl,Fa⟩;rw[show RR.get {r with pc:=r.pc+1} x.AN=r.get x.AN from rfl];have hs:=HS.trans (Af.quiet HS.Ak Fa);have RV:=D (HKP.quiet Fa);clear HS HKP k0 k7 k8;have k0:w2.cell? ⟨w.heap.size,0,Z⟩=U (.int .u8 103):=by rw[RV.out.cell (GE.2 rfl) 0];show x.cells[0]?=_;unfold Nd.cells;rw[k];rfl
  have k1:w2.cell? ⟨w.heap.size,1,Z⟩=U (iI x.v):=RV.cell (GE.2 rfl) 1;have k9:w2.cell? ⟨w.heap.size,9,Z⟩=U (iI x.first):=RV.cell (GE.2 rfl) 9;have k10:w2.cell? ⟨w.heap.size,10,Z⟩=U (iI x.size):=RV.cell (GE.2 rfl) 10;have K9:=D k;clear k;by_cases hi:r.get x.AN<0\/x.size<=r.get x.AN
  .have hr:=(tM K9 rfl hi).symm.trans FZ.out;exact mau
  .have hr:=(AaJ K9 rfl hi).symm.trans FZ.out;simp only[Prod.mk.injEq] at hr;obtain⟨⟨hr,rfl⟩,rfl⟩:=hr;have HR:=D hr;generalize XR:r.get x.AN=av at*;have Ue:¬av<0:=Y
   have hhi:¬x.size<=av:=Y
   obtain⟨m,hm⟩:∃m:Nat,x.first+av=m:=⟨(x.first+av).toNat,Y⟩;have hmc:m<J cs:=Y
   have ZY:0<=(m:Int):=Y
   have Dk:m<(J cs:Int):=Y
   obtain⟨cb,LA⟩:=AiV hs.Ak Y;have hw:True->wrap64 (x.first+av)=m:=λ_=>by rw[hm];exact IntWalk.wrap64_in _ (by have:=oa.out;omega)
   have cr:=AiU hs.Ak LA;have rd:=Ma cr hmc;rw[LA];have Hm:=D hm;have c1:w2.cell? ⟨g.b,1,Z⟩=U (qD (U ⟨vb,0,Z⟩) 4 g.v.c):=by rw[<-Hev.out];exact(hs.Ak.Ao (i:=0) rfl).cell 1
   obtain⟨j,hj⟩:∃j:Nat,x.v=j:=⟨x.v.toNat,Y⟩;rw[hj] at k1 hv;have Hvr:=Ahc hs.Ak Hev.out;have rf:=(AZ Hvr).2.1 j;have rc:=Ma Hvr (by show j<J r.v;have:=X6.out;omega);have S1:=D (hs.trans (Aht hs.Ak Hev (by show j<J r.v;have:=X6.out;omega) (cs.getD m 0)));have Hj:=D hj;clear hs hj Hvr hr FZ RV hm LA hi hf cr hmc;go_upto_region 21 with fail
   refine AU (l:=sq [] 0 11) (λW=>W.cell? ⟨g.b,1,Z⟩=U (qD (U ⟨vb,0,Z⟩) 4 g.v.c)/\W.cell? ⟨w.heap.size,1,Z⟩=U (iI j)/\W.cell? ⟨cb,m,Z⟩=U (iI (cs.getD m 0))) 11 ⟨c1,k1,rd⟩ ?_;refine FC ?_;refine Bb rfl (λK hK=>?_);go_simp;refine hK _ _ (λh=>Jk h Do) ?_;clear hK;simp only[Ct];go_wp2;go_ret;refine⟨rfl,g.o,?_⟩;rw[<-HR.out,Hj.out,JW,Hm.out,JW];exact S1.trans (Af.drew S1.Ak)
 .have k0:w1.cell? ⟨w.heap.size,0,Z⟩=U (.int .u8 112):=by rw[Ka 0];show x.cells[0]?=_;unfold Nd.cells;rw[k];rfl
  have k7:w1.cell? ⟨w.heap.size,7,Z⟩=U (qF x.AN.AX):=Ka 7;have k8:w1.cell? ⟨w.heap.size,8,Z⟩=U (iI x.AN.v):=Ka 8;have HS:=D hs;have HKP:=D mH;have HB:=D FU;clear hs mH Ka FU;go_wp2_with fail;refine(UY x.AN HB g HS.Ak X6).mono ?_;rintro e w2 ⟨rfl,Fa⟩;rw[show RR.get {r with pc:=r.pc+1} x.AN=r.get x.AN from rfl];have hs:=HS.trans (Af.quiet HS.Ak Fa);have RV:=D (HKP.quiet Fa);clear HS HKP k0 k7 k8;have k0:w2.cell? ⟨w.heap.size,0,Z⟩=U (.int .u8 112):=by rw[RV.out.cell (GE.2 rfl) 0];show x.cells[0]?=_;unfold Nd.cells;rw[k];rfl
  have k9:w2.cell? ⟨w.heap.size,9,Z⟩=U (iI x.first):=RV.cell (GE.2 rfl) 9;have k10:w2.cell? ⟨w.heap.size,10,Z⟩=U (iI x.size):=RV.cell (GE.2 rfl) 10;have K9:=D k;clear k;by_cases hi:r.get x.AN<0\/x.size<=r.get x.AN
  .have hr:=(tL K9 rfl hi).symm.trans FZ.out;exact mau
  .have hr:=(AaH K9 rfl rfl hi).symm.trans FZ.out;simp only[Prod.mk.injEq] at hr;obtain⟨⟨hr,rfl⟩,rfl⟩:=hr;have HR:=D hr;generalize XR:r.get x.AN=av at*;have Ue:¬av<0:=Y
   have hhi:¬x.size<=av:=Y
   obtain⟨m,hm⟩:∃m:Nat,x.first+av=m:=⟨(x.first+av).toNat,Y⟩;have hmc:m<J cs:=Y
   have ZY:0<=(m:Int):=Y
   have Dk:m<(J cs:Int):=Y
   obtain⟨cb,LA⟩:=AiV hs.Ak Y;have hw:True->wrap64 (x.first+av)=m:=λ_=>by rw[hm];exact IntWalk.wrap64_in _ (by have:=oa.out;omega)
   have cr:=AiU hs.Ak LA;have rd:=Ma cr hmc;have rdf:=(AZ cr).2.1 m;rw[LA];have Hm:=D hm;have S1:=D (hs.trans (AjC hs.Ak LA hmc (r.get x.a)));clear hs RV hm LA hi hf cr hmc hr FZ;go_wp2;go_ret;refine⟨rfl,g.o,?_⟩;rw[<-HR.out,Hm.out,JW];exact S1.out
 .have k0:w1.cell? ⟨w.heap.size,0,Z⟩=U (.int .u8 111):=by rw[Ka 0];show x.cells[0]?=_;unfold Nd.cells;rw[k];rfl
  have hr:=(o6 k rfl).symm.trans FZ.out;simp only[Prod.mk.injEq] at hr;obtain⟨⟨hr,rfl⟩,rfl⟩:=hr;have HR:=D hr;have c3:w1.cell? ⟨g.b,3,Z⟩=U (qD g.o.p (J r.Al) g.o.c):=(hs.Ak.Ao (i:=0) rfl).cell 3;have HS:=D hs;have mG:J r.Al+1<=maxLen:=by have:=Ho.out;unfold maxLen;omega
  have MT:(J r.Al+1)*8<=140737488355328:=by have:=Ho.out;omega
  clear hs mH Ka k hr FZ;generalize r.get x.a=av at*;obtain⟨i0,hi,Kc⟩:=Ji.1 KQ;simp only[Prod.mk.injEq] at Kc;obtain⟨I6,K6,LQ⟩:=Kc;go_wp2_with (first|(at_builtin;refine A6 8 _ _ _ i0 _ #[iI av] _ HS.Ak (k:=3) rfl Eq Eq underlying31 hi I6 K6 LQ rfl Y Eq Eq rfl (by simp[Value.oneCell']) mG MT ?_;intro g6 AI w6 Ay _;have q1:=(Ay.Ak.Ao (i:=0) rfl).cell 3;have q2:=(Ay.Ak.Ao (i:=0) rfl).free 3;have q3:=(Ay.Ak.Ao (i:=0) rfl).lt;have vG:=D Ay;clear Ay c3)|fail);go_ret;refine⟨rfl,⟨U ⟨g6,0,Z⟩,AI⟩,?_⟩;rw[<-HR.out];exact HS.trans (AeM vG)
 .have k0:w1.cell? ⟨w.heap.size,0,Z⟩=U (.int .u8 122):=by rw[Ka 0];show x.cells[0]?=_;unfold Nd.cells;rw[k];rfl
  have hr:=(AaF k rfl).symm.trans FZ.out;simp only[Prod.mk.injEq] at hr;obtain⟨⟨hr,rfl⟩,rfl⟩:=hr;have HR:=D hr;have k11:w1.cell? ⟨w.heap.size,11,Z⟩=U (iI x.CN):=Ka 11;have c0:w1.cell? ⟨g.b,0,Z⟩=U (iI (r.pc+1)):=(hs.Ak.Ao (i:=0) rfl).cell 0;have f0:=(hs.Ak.Ao (i:=0) rfl).free 0;have HS:=D hs;have Ht:=D ht;clear hs mH Ka hr FZ k ht;generalize r.get x.a=v at*;by_cases hz:v=0
  .have AF:=HR.out;rw[Jd hz] at AF;have hz':(v==0)=V:=by rw[hz];rfl
   have fG:=D AF;clear hz HR AF;go_wp2;go_ret;refine⟨rfl,g.o,?_⟩;rw[<-fG.out];have e:=d5 Ht.out;have:=HS.trans (HS.Ak.set (i:=0) rfl 0 (iI x.CN));rw[<-e] at this⊢;exact this
  .have AF:=HR.out;rw[In hz] at AF;have hz':(v==0)=I:=by rw[Jh];exact hz
   have fG:=D AF;clear hz HR AF;go_wp2;go_ret;exact⟨rfl,g.o,by rw[<-fG.out];exact HS.out⟩
 .have k0:w1.cell? ⟨w.heap.size,0,Z⟩=U (.int .u8 108):=by rw[Ka 0];show x.cells[0]?=_;unfold Nd.cells;rw[k];rfl
  have hr:=(AaI k).symm.trans FZ.out;simp only[Prod.mk.injEq] at hr;obtain⟨⟨hr,rfl⟩,rfl⟩:=hr;have HR:=D hr;have k9:w1.cell? ⟨w.heap.size,12,Z⟩=U (iI x.n):=Ka 12;have k10:w1.cell? ⟨w.heap.size,13,Z⟩=U (iI x.Ah):=Ka 13;have c2:w1.cell? ⟨g.b,2,Z⟩=U (qD g.d.p 3 g.d.c):=(hs.Ak.Ao (i:=0) rfl).cell 2;obtain⟨db,dc,ed,_⟩:=Av (hs.Ak.row (i:=2) rfl) Do;have ed':g.d.p=U ⟨db,0,Z⟩:=by injection ed
  obtain⟨j,hj⟩:∃j:Nat,x.Ah=j:=⟨x.Ah.toNat,Y⟩;rw[hj] at k10 hd;have hj0:0<=(j:Int):=Y
  have hj1:(j:Int)<3:=Y
  have hr1:=AiR hs.Ak ed';have rc:=Ma hr1 (by have:=SB.out;show j<J r.Dz;omega);rw[ed'] at c2;have Hj:=D hj;have S1:=D (hs.trans (Ahw hs.Ak ed' (by show j<J r.Dz;have:=SB.out;omega) x.n));clear hs mH Ka hr FZ hr1 hj ed ed' k hd;go_upto_region 29 with fail
  refine AU (l:=sq [] 0 9) (λW=>W.cell? ⟨g.b,2,Z⟩=U (qD (U ⟨db,0,Z⟩) 3 g.d.c)/\W.cell? ⟨w.heap.size,13,Z⟩=U (iI j)/\W.cell? ⟨w.heap.size,12,Z⟩=U (iI x.n)) 9 ⟨c2,k10,k9⟩ ?_;refine FC ?_;refine Bb rfl (λK hK=>?_);go_simp;refine hK _ _ (λh=>Jk h Do) ?_;clear hK;simp only[Ct];go_wp2;go_ret;refine⟨rfl,g.o,?_⟩;rw[<-HR.out,Hj.out,JW];exact S1.trans (Af.drew S1.Ak)
 .have k0:w1.cell? ⟨w.heap.size,0,Z⟩=U (.int .u8 98):=by rw[Ka 0];show x.cells[0]?=_;unfold Nd.cells;rw[k];rfl
  have hr:=(o7 k rfl).symm.trans FZ.out;simp only[Prod.mk.injEq] at hr;obtain⟨⟨hr,rfl⟩,rfl⟩:=hr;have HR:=D hr;have k10:w1.cell? ⟨w.heap.size,13,Z⟩=U (iI x.Ah):=Ka 13;have c2:w1.cell? ⟨g.b,2,Z⟩=U (qD g.d.p 3 g.d.c):=(hs.Ak.Ao (i:=0) rfl).cell 2;obtain⟨db,dc,ed,_⟩:=Av (hs.Ak.row (i:=2) rfl) Do;have ed':g.d.p=U ⟨db,0,Z⟩:=by injection ed
  obtain⟨j,hj⟩:∃j:Nat,x.Ah=j:=⟨x.Ah.toNat,Y⟩;rw[hj] at k10 hd;have hj3:j<3:=Y
  have hj0:0<=(j:Int):=Y
  have hj1:(j:Int)<3:=Y
  have hr1:=AiR hs.Ak ed';have rc:=Ma hr1 (by have:=SB.out;show j<J r.Dz;omega);rw[ed'] at c2;have Hj:=D hj;have Hed:=D ed';rw[hj,JW] at hq;obtain⟨v,hv⟩:∃v,v=r.Dz.getD j 0:=⟨_,rfl⟩;rw[show RR.Dz {r with pc:=r.pc+1}=r.Dz from rfl,<-hv] at rc;rw[<-hv] at hq;obtain⟨q1,q2⟩:=hq;have s1:=hs.trans (Ahw hs.Ak ed' (by show j<J r.Dz;have:=SB.out;omega) (v-1));have HK2:=D (mH.step (Ahw hs.Ak ed' (by show j<J r.Dz;have:=SB.out;omega) (v-1)));have S1:=D s1;have Hv:=D hv;have Ht:=D ht;have Fi:True->IntKind.i64.wrap (v-1)=v-1:=λ_=>IntWalk.i64_in _ Y
  clear hs mH Ka hr FZ hr1 hj ed ed' k hd hv s1 ht;go_upto_region 31 with fail
  refine AU (l:=sq [] 0 10) (λW=>W.cell? ⟨g.b,2,Z⟩=U (qD (U ⟨db,0,Z⟩) 3 g.d.c)/\W.cell? ⟨w.heap.size,13,Z⟩=U (iI j)/\W.cell? ⟨db,j,Z⟩=U (iI v)) 10 ⟨c2,k10,rc⟩ ?_;refine FC ?_;refine Bb rfl (λK hK=>?_);go_simp;refine hK _ _ (λh=>Jk h Do) ?_;clear hK;simp only[Ct];have s4:=S1.trans (Af.drew S1.Ak);have K2:=HK2.quiet ((Aw.refl [] _).drew);clear S1 HK2 k10 c2 rc k0 AmO;generalize (w1.setCell ⟨db,j,Z⟩ (iI (v-1))).drew=w2 at s4 K2⊢;have d10:w2.cell? ⟨w.heap.size,13,Z⟩=U (iI j):=by rw[K2.cell (GE.2 rfl) 13,<-Hj.out];rfl
  have d11:w2.cell? ⟨w.heap.size,11,Z⟩=U (iI x.CN):=K2.cell (GE.2 rfl) 11;have c0:w2.cell? ⟨g.b,0,Z⟩=U (iI (r.pc+1)):=(s4.Ak.Ao (i:=0) rfl).cell 0;have e2:w2.cell? ⟨g.b,2,Z⟩=U (qD (U ⟨db,0,Z⟩) 3 g.d.c):=by rw[<-Hed.out];exact(s4.Ak.Ao (i:=0) rfl).cell 2
  have f0:=(s4.Ak.Ao (i:=0) rfl).free 0;have rd:=Ma (AiR s4.Ak Hed) (by show j<(r.Dz.set j (v-1)).length;rw[Jp];have:=SB.out;omega);rw[show(RR.Dz {r with pc:=r.pc+1,Dz:=r.Dz.set j (v-1)}).getD j 0=v-1 by show(r.Dz.set j (v-1)).getD j 0=_;rw[B4 _ _ _ _ _ (by have:=SB.out;omega),Jd rfl]] at rd;have HS:=D s4;have AF:=HR.out;rw[Hj.out,JW,<-Hv.out] at AF;have ks:=D AF;clear s4 K2 HR AF;by_cases hz:0<v-1
  .have AF:=ks.out;rw[Jd hz] at AF;have fG:=D AF;clear AF;go_upto_region 32 with fail
   go_quiet (fail)
   go_wp2;go_ret;refine⟨rfl,g.o,?_⟩;rw[<-fG.out];have e:=d5 Ht.out;have s4:=HS.drewN nq;have s5:=s4.trans (s4.Ak.set (i:=0) rfl 0 (iI x.CN));rw[<-e] at s5⊢;exact s5
  .have AF:=ks.out;rw[In hz] at AF;have fG:=D AF;clear AF;go_upto_region 32 with fail
   go_quiet (fail)
   go_wp2;go_ret;exact⟨rfl,g.o,by rw[<-fG.out];exact HS.drewN _⟩
theorem AeC (hs:VO x r 0) (ho:J r.Al<=60000) (Tm:r.pc<=1000000) (h:Aq w (g.run r++E)):
  Calls prog 44 #[iJ g.b,x.val,qD Z 0 0] w (Ano g r E w (r.step x []).1.1 (r.step x []).2):=by
 have h1:=Af.Ig h 2 1;refine(tS (c:=⟨Z,0⟩) (cs:=[]) hs ho Do Tm h1.Ak).mono ?_;rintro e w' ⟨he,o,S⟩;exact⟨he,o,(h1.trans S).trans (Af.drop (B:=[_]) (by rw[Jj];exact S.Ak))⟩
theorem ZI (h:∃m,P m):∃m,P m/\∀k,P k->m<=k:=by
 obtain⟨m,hm⟩:=h;induction m using Nat.strongRecOn with
 |ind m ih=>
  by_cases hk:∃k,k<m/\P k
  .obtain⟨k,h1,h2⟩:=hk;exact ih k h1 h2
  .exact⟨m,hm,λk MU=>Nat.le_of_not_lt λh3=>hk ⟨k,h3,MU⟩⟩
open Classical in
noncomputable def Tf (P:Nat->Prop):Nat:=if h:∃m,P m then Classical.choose (ZI h) else 0
theorem ZH (h:∃m,P m):P (Tf P):=by
 unfold Tf;rw[dif_pos h];exact(Classical.choose_spec (ZI h)).1
theorem me {m:Nat} (h:P m):Tf P<=m:=by
 have h':∃m,P m:=⟨m,h⟩;unfold Tf;rw[dif_pos h'];exact(Classical.choose_spec (ZI h')).2 m h
theorem AgC (h:(CM a l).holds w) (hi:l[i]?=U x):∃nb,a.p=U ⟨nb,0,Z⟩/\∀j,j<14->w.cell? ⟨nb,i*14+j,Z⟩=x.cells[j]?:=by
 obtain⟨hlt,e⟩:=Jm.1 hi;obtain⟨nb,nc,ec,_,_,_,_,hc,_⟩:=Av (show w.ownsRow 0 _ 14 _ (J l) (Bk l) from h) Y;refine⟨nb,by injection ec,λj hj=>?_⟩;have hq:i*14+j<(Bk l).length:=by rw[D0];omega
 rw[hc _ hq,<-Jb,Iw l i j hlt hj,Ja,hi];rfl
theorem AhN {b:Nat} (h:∀j,j<14->w.cell? ⟨b,k*14+j,Z⟩=x.cells[j]?):w.cell? ⟨b,k*14,Z⟩=U (.int .u8 x.kind)/\w.cell? ⟨b,k*14+1,Z⟩=U (iI x.v)/\w.cell? ⟨b,k*14+2,Z⟩=U (qE x.op)/\w.cell? ⟨b,k*14+3,Z⟩=U (qF x.a.AX)/\w.cell? ⟨b,k*14+4,Z⟩=U (iI x.a.v)/\w.cell? ⟨b,k*14+5,Z⟩=U (qF x.b.AX)/\w.cell? ⟨b,k*14+6,Z⟩=U (iI x.b.v)/\w.cell? ⟨b,k*14+7,Z⟩=U (qF x.AN.AX)/\w.cell? ⟨b,k*14+8,Z⟩=U (iI x.AN.v)/\w.cell? ⟨b,k*14+9,Z⟩=U (iI x.first)/\w.cell? ⟨b,k*14+10,Z⟩=U (iI x.size)/\w.cell? ⟨b,k*14+11,Z⟩=U (iI x.CN)/\w.cell? ⟨b,k*14+12,Z⟩=U (iI x.n)/\w.cell? ⟨b,k*14+13,Z⟩=U (iI x.Ah):=
 ⟨h 0 Do,h 1 Do,h 2 Do,h 3 Do,h 4 Do,h 5 Do,h 6 Do,h 7 Do,h 8 Do,h 9 Do,h 10 Do,h 11 Do,h 12 Do,h 13 Do⟩
def Anr (g:NG) (r:RR) (E:List Ob) (w:World) (u:RR) (e:Ending) (w':World):Prop:=e= qJ (qG #[])/\∃o:SG,Af w (g.run r++E) w' (NG.run {g with o:=o} u++E)
def Ago (l:List Nd) (g:NG) (r:RR) (E:List Ob) (w:World) (u:RR) (wr:World) (m:Nat):Prop:=∃(r':RR) (o:SG),Af w (g.run r++E) wr (NG.run {g with o:=o} r'++E)/\Fl l m r' u
theorem Wn (l:List Nd) (a:SG) (E:List Ob) (hN:CM a l∈E) (hl:J l<=1000000) (g:NG) (r u:RR) (m:Nat) (w:World) (h:Aq w (g.run r++E)) (hm:Fl l m r u):
  Calls prog 43 #[iJ g.b,qD a.p (J l) a.c] w (Anr g r E w u):=by
 have H:=D h;have HN:=D hN;have HM:=D hm;have Hl:=D hl;clear h hN hm hl;go_enter func43,ntmps43;go_wp2;go_loopw [4] (λ_ wr=>∃m,Ago l g r E w u wr m) (λ_ wr=>Tf (Ago l g r E w u wr));case atStart=>exact⟨m,r,g.o,Af.refl H,HM⟩
 case round=>
  have hx:=hrel;have hx2:=ZH hx;generalize hmm:Tf (Ago l g r E w u wr)=mm at*;obtain⟨r',o,hs,hk⟩:=hx2;have Hmm:=D hmm;have HX:=D hx;clear hmm hx;have Fu:wr.cell? ⟨g.b,0,Z⟩=U (iI r'.pc):=(hs.Ak.Ao (i:=0) rfl).cell 0;have yE:wr.cell? ⟨g.b,5,Z⟩=U (iI r'.An):=(hs.Ak.Ao (i:=0) rfl).cell 5;have f5:=(hs.Ak.Ao (i:=0) rfl).free 5;have l5:=(hs.Ak.Ao (i:=0) rfl).lt;have HS:=D hs;clear hs;dsimp only at f5 l5;have HNN:=D (λi x hi=>AgC (i:=i) (x:=x) (HS.Ak.holds _ (Jc _ HN)) hi);cases hk with
  |done h0=>
   have Z7:(u.An==0)=I:=by rw[Jh];exact h0
   clear h0;go_wp2
   go_end0
   exact⟨rfl,o,HS⟩
  |halt h0 hn=>
   have Z7:(r'.An==0)=V:=by rw[h0];rfl
   have bX:(J l:Int)<=(r'.pc:Int):=by have:=List.getElem?_eq_none_iff.1 hn;omega
   clear h0 hn;go_wp2
   go_end0
   exact⟨rfl,o,HS.trans (HS.Ak.set (i:=0) rfl 5 (iI 10))⟩
  |Ao h0 hx MU=>
   rename_i x;have Z7:(u.An==0)=V:=by rw[h0];rfl
   obtain⟨nb,en,hc⟩:=HNN.out _ _ hx;have hlt:=(Jm.1 hx).1;have bX:¬(J l:Int)<=(u.pc:Int):=Y
   have gT:(0:Int)<=(u.pc:Int):=Y
   have On:(u.pc:Int)<(J l:Int):=Y
   obtain⟨c0,c1,c2,c3,c4,c5,c6,c7,c8,c9,c10,c11,c12,c13⟩:=AhN hc;rw[en];clear h0 hx hc en hlt;go_wp2
   go_end0
   exact⟨rfl,o,HS.trans (Af.alloc HS.Ak _)⟩
  |step h0 hx MU hg hb k2=>
   rename_i mk x;have Z7:(r'.An==0)=V:=by rw[h0];rfl
   obtain⟨nb,en,hc⟩:=HNN.out _ _ hx;have hlt:=(Jm.1 hx).1;have bX:¬(J l:Int)<=(r'.pc:Int):=Y
   have gT:(0:Int)<=(r'.pc:Int):=Y
   have On:(r'.pc:Int)<(J l:Int):=Y
   obtain⟨c0,c1,c2,c3,c4,c5,c6,c7,c8,c9,c10,c11,c12,c13⟩:=AhN hc;have Aol:((x.kind:Int)==40)=I:=by rw[Jh];omega
   have hal:=Af.alloc HS.Ak (qK x.cells.toArray 110);have Hs:=D (AeC hb.1 hb.2 (by have:=Hl.out;omega) hal.Ak);have tw:=D (HS.trans hal);have HK2:=D k2;rw[en];clear h0 hx hc en hlt MU hg hb hal k2 HM H HS HX hrel HNN;go_wp2_with fail;rw[<-AbO];refine Hs.mono ?_;rintro e w2 ⟨rfl,o2,K8⟩;have Ic:=D (tw.trans K8);clear K8 tw Hs;generalize (r'.step x []).2=bb;go_wp2;go_roundw;case rel=>exact⟨mk,_,o2,Ic,HK2⟩
   case measure=>
    have h1:Tf (Ago l g r E w u w2)<=mk:=me ⟨_,o2,Ic,HK2⟩;have:=Hmm.out;omega
theorem mk4 (w:World):(Instr.makeSlice 31 (iI 4) (iI 4)).run prog w=.ok (qD (U ⟨w.heap.size,0,Z⟩) 4 4) (w.alloc (qK #[iI 0,iI 0,iI 0,iI 0] 2)):=Fd
theorem p8 (w:World):(Instr.makeSlice 29 (iI 3) (iI 3)).run prog w=.ok (qD (U ⟨w.heap.size,0,Z⟩) 3 3) (w.alloc (qK #[iI 0,iI 0,iI 0] 3)):=Fd
theorem Af9 {b:Nat} {c:Array Value} {T:TypeId} (hc:c.size=n) (hn:n<=maxLen) (h:Aq w (L++[.Ao b c T])):
  Af w (L++[.Ao b c T]) w (L++[.row (qD (U ⟨b,0,Z⟩) n n) T 1 n c.toList]):=by
 exact maw
theorem newRow (h:Aq w L) {n:Nat} {c:Array Value} {T:TypeId} (hc:c.size=n) (hn:n<=maxLen):Af w L (w.alloc (qK c T)) (.row (qD (U ⟨w.heap.size,0,Z⟩) n n) T 1 n c.toList::L):=by
 have s:=Af.new h (qK c T);have s2:=s.trans (Af9 hc hn s.Ak);exact s2.trans (Af.Kl s2.Ak Qh)
theorem Ib (w:World) (o:Obj):(w.alloc o).heap.size=w.heap.size+1:=by show(w.heap.push o).size=_;simp
def oV:Obj:= qK #[iI 0,iI 0,iI 0,iI 0] 2
def oD:Obj:= qK #[iI 0,iI 0,iI 0] 3
def oR (a b:Nat):Obj:= qK #[iI 0,qD (U ⟨a,0,Z⟩) 4 4,qD (U ⟨b,0,Z⟩) 3 3,qD Z 0 0,iI 0,iI 0] 74
theorem Ani (h:Aq w E):Af w E ((((w.alloc oV).alloc oD).alloc (oR w.heap.size (w.heap.size+1))).drew) (NG.run ⟨w.heap.size+1+1,⟨U ⟨w.heap.size,0,Z⟩,4⟩,⟨U ⟨w.heap.size+1,0,Z⟩,3⟩,⟨Z,0⟩⟩ .start++E):=by
 have s1:=newRow h (n:=4) (c:= #[iI 0,iI 0,iI 0,iI 0]) (T:=2) rfl (by unfold maxLen;omega);have s2:=s1.trans (newRow s1.Ak (n:=3) (c:= #[iI 0,iI 0,iI 0]) (T:=3) rfl (by unfold maxLen;omega));have s3:=s2.trans (Af.Mg s2.Ak (oR w.heap.size (w.heap.size+1)));simp only[Ib] at s3;have s4:=(s3.trans (Af.Ig (A:=[_,_,_]) s3.Ak 2 1)).trans (Af.drew (s3.trans (Af.Ig (A:=[_,_,_]) s3.Ak 2 1)).Ak);exact s4.trans (Af.Kl s4.Ak ((List.Perm.swap _ _ _).cons _))
theorem Anh (h:Aq w E):Af w E ((((w.alloc oD).alloc oV).alloc (oR (w.heap.size+1) w.heap.size)).drew) (NG.run ⟨w.heap.size+1+1,⟨U ⟨w.heap.size+1,0,Z⟩,4⟩,⟨U ⟨w.heap.size,0,Z⟩,3⟩,⟨Z,0⟩⟩ .start++E):=by
 have s1:=newRow h (n:=3) (c:= #[iI 0,iI 0,iI 0]) (T:=3) rfl (by unfold maxLen;omega);have s2:=s1.trans (newRow s1.Ak (n:=4) (c:= #[iI 0,iI 0,iI 0,iI 0]) (T:=2) rfl (by unfold maxLen;omega));have s3:=s2.trans (Af.Mg s2.Ak (oR (w.heap.size+1) w.heap.size));simp only[Ib] at s3;have s4:=(s3.trans (Af.Ig (A:=[_,_,_]) s3.Ak 2 1)).trans (Af.drew (s3.trans (Af.Ig (A:=[_,_,_]) s3.Ak 2 1)).Ak);exact s4
def Al1 (E:List Ob) (w:World) (u:RR) (e:Ending) (w':World):Prop:=∃g:NG,e= qJ (iJ g.b)/\Af w E w' (g.run u++E)
theorem zy (l:List Nd) (a:SG) (E:List Ob) (hN:CM a l∈E) (hl:J l<=1000000) (u:RR) (m:Nat) (w:World) (h:Aq w E) (hm:Fl l m .start u):
  Calls prog 27 #[qD a.p (J l) a.c] w (Al1 E w u):=by
 have m4:=mk4;have m3:=p8;have H:=D h;have HN:=D hN;have HM:=D hm;have Hl:=D hl;clear h hN hm hl;go_enter func27,ntmps27;go_wp2
 go_region
 .have hs:=Ani H.out;exact maG
 .have hs:=Anh H.out;exact maG
theorem AjF (h:w.ownsRow 0 e s v n xs):∃g:SG,v= qD g.p n g.c:=by
 rcases h.2 with⟨hp,hn⟩|⟨b,cap,IZ,hv,_⟩
 .exact⟨⟨Z,0⟩,by rw[hp,hn]⟩
 .exact⟨⟨_,cap⟩,hv⟩
theorem Aa6 {P:Program} {t ty:TypeId} {i:TypeInfo} {bytes c:Nat} (ht:P.underlying t=U (.slice e)) (hi:P.info? e=U i) (hz:i.zero=U z)
  (Rq:i.size=1) (hby:i.bytes=bytes) (hzs:z.cells.size=1) (hr:w.ownsRow 0 e 1 (qD p n c) n xs) (h1:∀u∈xs,u.oneCell'=V) (h63:n<=maxLen) (Mo:n*bytes<=140737488355328):
  ∃(g:SG) (w':World),(Builtin.append_ #[t,t] ty #[qD Z 0 0,qD p n c]).run P w=.ok (qD g.p n g.c) w'/\w'.ownsRow 0 e 1 (qD g.p n g.c) n xs/\Aw [] w w'/\∀b,(qD g.p n g.c).ownBlock=U b->w.heap.size<=b:=by
 have hl:=hr.1;rcases hr.2 with⟨hp,hn⟩|⟨b,cap,IZ,hv,_⟩
 .injection hp with q1 q2 q3
  subst q1;subst q2;subst q3;have:=Jn Y;subst this;refine⟨⟨Z,0⟩,w,?_,ownsRow_nil _ _ _ _,Aw.refl _ _,λb h=>by simp[Value.ownBlock] at h⟩;simp[Builtin.append_,run_underlying ht,sizeOf,typeInfo,hi,Builtin.lenOf,Builtin.firstCells,loadCells,loadCellsFrom]
 .injection hv with q1 _ q3
  subst q1;subst q3;obtain⟨v',w',h2,h3,h4,_,h6⟩:=run_append_own_at w 0 t ty e i z 1 bytes ht hi hz Rq hby hzs Y (qD Z 0 0) 0 [] (World.ownsRow_nil w 0 e 1) ⟨b,0,Z⟩ n c xs hl (hr.cells rfl) h1 Y (by rw[JU];exact Mo) (Jo _);rw[JU,JF] at h3;obtain⟨g,rfl⟩:=AjF h3;refine⟨g,w',h2,h3,⟨h4.os,h4.tape,h4.output,h4.size,λk hk _=>h4.block k hk (by simp[Value.ownBlock])⟩,λb hb=>?_⟩;rcases h6 with h6|h6
  .rw[h6] at hb;simp[Value.ownBlock] at hb
  .rw[h6] at hb;injection hb with hb;omega
theorem AaG (h:Aq w L) (m:Aw [] w w') (hr:w'.ownsRow 0 e s v n xs) (hn:∀b,v.ownBlock=U b->w.heap.size<=b):Af w L w' (.row v e s n xs::L):=by
 have h2:=(Af.quiet h m).Ak;refine⟨⟨λo ho=>?_,?_⟩,m.nil,λb hb=>?_⟩
 .rcases Jl.1 ho with rfl|h1
  .exact hr
  .exact h2.holds o h1
 .show(v.ownBlock.toList++Er L).Nodup;cases hv:v.ownBlock with
  |none=>exact h2.Lk
  |some b=>
   exact J5.2 ⟨λhb=>by have:=h.lt b hb;have:=hn b hv;omega,h2.Lk⟩
 .have uL:b∈v.ownBlock.toList++Er L:=hb;rcases Jq.1 uL with h1|h1
  .exact .inr (hn b (by cases hv:v.ownBlock with|none=>rw[hv] at h1;cases h1|some a=>rw[hv] at h1;rw[GE.1 h1]))
  .exact .inl h1
theorem Km {P:Program} {Bh:Array Oper} {rest:List Oper} {o:Oper} {a:Act} {Q:Exit->Act->World->Prop} {c:Nat} (bytes:Nat) (s x:Operand) (t:TypeId) (i:TypeInfo) (z:Value)
  (hL:Aq w L) (hr:w.ownsRow 0 e 1 (qD p n c) n xs) (hgd:o.guard=Z) (ho:o.op=.call {callee:=.builtin .append,args:= #[s,x],argTypes:= #[t,t]})
  (ht:P.underlying t=U (.slice e)) (hi:P.info? e=U i) (hz:i.zero=U z) (Rq:i.size=1) (hby:i.bytes=bytes) (hzs:z.cells.size=1)
  (hs:a.eval s= qD Z 0 0) (hx:a.eval x= qD p n c) (h1:∀u∈xs,u.oneCell'=V) (h63:n<=maxLen) (Mo:n*bytes<=140737488355328)
  (h:∀(g:SG) w',Af w L w' (.row (qD g.p n g.c) e 1 n xs::L)->wpList P Bh Q rest (a.put o.dst (qD g.p n g.c)) w'):wpList P Bh Q (o::rest) a w:=by
 obtain⟨g,w',h2,h3,h4,h5⟩:=Aa6 (ty:=o.type) ht hi hz Rq hby hzs hr h1 h63 Mo;refine wpList_plain hgd λK hK=>?_
 unfold Oper.wp execOp;simp only[ho,resolve,invoke,builtin,Sem.run_bind,Sem.run_pure,Result.andThen_ok,List.map_toArray,Jt,QJ,hs,hx,h2];exact hK _ _ (h g w' (AaG hL h4 h3 h5))
theorem Y3 (r:RR) (x:Nd) (cs:List Int):(r.step x cs).1.1.Bq=r.Bq/\J r.Al<=(r.step x cs).1.1.Al.length/\(r.step x cs).1.2.length=J cs:=by
 unfold RR.step
 repeat' split
 all_goals first|exact⟨rfl,Jf _,rfl⟩|exact⟨rfl,EQ,EQ⟩
theorem M7.AK {cs:List Int} (h:M7 l n r cs u cu b):u.Bq=r.Bq/\J r.Al<=J u.Al/\J cu=J cs:=by
 induction h with
 |DU=>exact⟨rfl,Jf _,rfl⟩
 |CS hx hk hb hs=>
  rename_i r r' cs cs' x;have:=Y3 r x cs;rw[hs] at this;exact this
 |step hx hk hb hs _ ih=>
  rename_i r r1 r' cs cs1 cs' x b _;have h1:=Y3 r x cs;rw[hs] at h1;exact⟨ih.1.trans h1.1,Qb h1.2.1 ih.2.1,ih.2.2.trans h1.2.2⟩
theorem M7.lt {cs:List Int} (h:M7 l n r cs u cu b):r.pc<J l:=by
 cases h with
 |DU hx=>exact(Jm.1 hx).1
 |CS hx=>exact(Jm.1 hx).1
 |step hx=>exact(Jm.1 hx).1
theorem AeE {c:Nat} (h:w.ownsRow 0 e 1 (qD p n c) n xs) (hk:k<=n):w.ownsRow 0 e 1 (qD p k c) k (xs.take k):=by
 rcases h.2 with⟨hp,hn⟩|⟨b,cap,IZ,hv,_⟩
 .injection hp with q1 q2 q3
  subst q1;subst q2;subst q3;have e0:k=0:=Y
  subst e0;exact ownsRow_nil _ _ _ _
 .injection hv with q1 _ q3
  subst q1;subst q3;have:=U6 h k hk;rw[Nat.mul_one] at this;exact this
theorem gz (p:Option Addr) (n k c:Nat):(qD p n c).ownBlock=(qD p k c).ownBlock:=by
 cases p<;>rfl
theorem Af.cut {c:Nat} (h:Aq w L) (hi:L[i]?=U (.row (qD p n c) e 1 n xs)) (k:Nat) (hk:k<=n):
  Af w L w (L.set i (.row (qD p k c) e 1 k (xs.take k))):=
 h.swap hi (Aw.refl _ _) (AeE (h.get hi) hk) (by show(Option.toList _).Nodup;cases (qD p k c).ownBlock<;>simp) (λb hb=> .inl (by
   have uL:b∈(qD p k c).ownBlock.toList:=hb;rw[gz p k n c] at uL;exact uL))
theorem Af0 (a b:List Int) (i:Nat) (ha:i<J a) (hb:i<J b):(a.take i++b.drop i).set i (a.getD i 0)=a.take (i+1)++b.drop (i+1):=by
 have e1:(a.take i).length=i:=by rw[Qv];omega
 rw[JS hb,List.set_append,In Y,e1,Qy,Q3,List.take_add_one,Jb ha,Ja,Jb ha,Jj];rfl
theorem Af.tY {M:List Ob} (h:Af w L w' L') (p:L'.Perm M):Af w L w' M:=h.trans (Af.Kl h.Ak p)
theorem AfZ (h:Aq w (g.run r++E)) (k:Nat) (hk:k<=J r.Al):Af w (g.run r++E) (w.setCell ⟨g.b,3,Z⟩ (qD g.o.p k g.o.c)) (g.run {r with Al:=r.Al.take k}++E):=by
 have s1:=Af.cut h (i:=3) rfl k hk;have s:=s1.trans (s1.Ak.set (i:=0) rfl 3 (qD g.o.p k g.o.c));have e0:BZ (r.Al.take k)=(BZ r.Al).take k:=by unfold BZ;rw[List.map_take]
 unfold NG.run NG.cells at s⊢;dsimp only at s⊢;rw[e0,Qv,Nat.min_eq_left hk];exact s
theorem AeL (h:Aq w (g.run r++E)):(g.o.p=Z/\J r.Al=0/\g.o.c=0)\/∃b,g.o.p=U ⟨b,0,Z⟩/\J r.Al<=g.o.c:=by
 rcases (h.row (i:=3) rfl).2 with⟨hp,hn⟩|⟨b,cap,IZ,hv,_,_,hc,_⟩
 .injection hp with q1 q2 q3
  exact .inl ⟨q1,hn,q3⟩
 .injection hv with q1 _ q3
  exact .inr ⟨b,q1,by rw[q3];exact hc⟩
def Al0 (g:NG) (c:SG) (r:RR) (cs:List Int) (E:List Ob) (w:World) (u:RR) (cs':List Int) (e:Ending) (w':World):Prop:=e= qJ (qG #[])/\∃o:SG,Af w (g.run r++BD c cs::E) w' (NG.run {g with o:=o} u++BD c cs'::E)
def Ags (l:List Nd) (L:List Ob) (w:World) (g:NG) (m:SG) (E:List Ob) (u:RR) (cu:List Int) (b:Bool) (wr:World) (k:Nat):Prop:=∃(r':RR) (cs':List Int) (o:SG),Af w L wr (NG.run {g with o:=o} r'++BD m cs'::E)/\M7 l k r' cs' u cu b
theorem M7.Anj {cs:List Int} (h:M7 l k r cs u cu b) (hx:l[r.pc]?=U x) (hk:x.kind=41):r=u/\cs=cu/\b=V:=by
 cases h with
 |DU=>exact⟨rfl,rfl,rfl⟩
 |CS DT LS=>rw[hx] at DT;cases DT;exact Jk hk LS
 |step DT LS=>rw[hx] at DT;cases DT;exact Jk hk LS
theorem M7.next {cs:List Int} (h:M7 l k r cs u cu b) (hx:l[r.pc]?=U x) (hk:x.kind≠41):(VO x r (J cs)/\J r.Al<=60000)/\
  (((r.step x cs).2=I/\(r.step x cs).1=(u,cu)/\b=I)\/((r.step x cs).2=V/\∃m,k=m+1/\M7 l m (r.step x cs).1.1 (r.step x cs).1.2 u cu b)):=by
 cases h with
 |DU DT LS=>rw[hx] at DT;cases DT;exact Jk LS hk
 |CS DT LS hb hs=>rw[hx] at DT;cases DT;exact⟨hb,.inl (by rw[hs];exact⟨rfl,rfl,rfl⟩)⟩
 |step DT LS hb hs k=>rw[hx] at DT;cases DT;exact⟨hb,.inr (by rw[hs];exact⟨rfl,_,rfl,k⟩)⟩
theorem I2.split {cs cs':List Int} (h:I2 l r cs u cs'):∃n u1 cu b,M7 l n {r with Bq:=J r.Al,pc:=r.pc+1} cs u1 cu b/\(b=V->cs'=cu/\∃m,Fl l m {u1 with pc:=u1.pc+1} u)/\(b=I->cs'=cs/\u={u1 with Al:=u1.Al.take (J r.Al)}):=by
 cases h with
 |ok h k=>exact⟨_,_,_,V,h,λ_=>⟨rfl,_,k⟩,λh=>(by cases h)⟩
 |CS h=>exact⟨_,_,_,I,h,λh=>(by cases h),λ_=>⟨rfl,rfl⟩⟩
theorem zv (l:List Nd) (a:SG) (E:List Ob) (hN:CM a l∈E) (hl:J l<=1000000) (g:NG) (c:SG) (r u:RR) (cs cs':List Int) (Cs:J cs<=1000000) (w:World) (h:Aq w (g.run r++BD c cs::E)) (hm:I2 l r cs u cs'):
  Calls prog 28 #[iJ g.b,qD a.p (J l) a.c,qD c.p (J cs) c.c] w (Al0 g c r cs E w u cs'):=by
 obtain⟨n,u1,cu,b,LU,h1,h2⟩:=hm.split;have hk:=LU.AK;have Tm:r.pc+1<J l:=LU.lt;obtain⟨i0,hi,Kc⟩:=Ji.1 KQ;simp only[Prod.mk.injEq] at Kc;obtain⟨I6,K6,LQ⟩:=Kc;have XQ:w.cell? ⟨g.b,3,Z⟩=U (qD g.o.p (J r.Al) g.o.c):=(h.Ao (i:=0) rfl).cell 3;have hb4:w.cell? ⟨g.b,4,Z⟩=U (iI r.Bq):=(h.Ao (i:=0) rfl).cell 4;have f4:=(h.Ao (i:=0) rfl).free 4;have lt:=(h.Ao (i:=0) rfl).lt;have s0:Af w (g.run r++BD c cs::E) (w.setCell ⟨g.b,4,Z⟩ (iI (J r.Al))) (g.run {r with Bq:=J r.Al}++BD c cs::E):=h.set (i:=0) rfl 4 _;have iX:True->wrap64 ((r.pc:Int)+1)=((r.pc+1:Nat):Int):=λ_=>IntWalk.wrap64_in _ Y
 have S0:=D s0;have HN:=D hN;have Hl:=D hl;have Hin:=D LU;have H1:=D h1;have H2:=D h2;have Hk:=D hk;have oa:=D Cs;clear h hN LU h1 h2 hk hm s0 hl Tm Cs;go_enter func28,ntmps28;go_wp2_with (first|(at_builtin;refine Km 8 _ _ _ i0 _ S0.Ak (S0.Ak.row (i:=4) rfl) rfl Eq underlying31 hi I6 K6 LQ rfl Eq Eq (by simp[BZ,Value.oneCell']) (by have:=oa.out;unfold maxLen;omega) (by have:=oa.out;omega) ?_;intro m w1 Ti;have q0:w1.cell? ⟨g.b,0,Z⟩=U (iI r.pc):=(Ti.Ak.Ao (i:=1) rfl).cell 0;have q1:=(Ti.Ak.Ao (i:=1) rfl).free 0;have q2:=(Ti.Ak.Ao (i:=1) rfl).lt;have HS:=D (S0.trans Ti);clear Ti XQ hb4 f4 lt)|fail);have K8:=Af.tY HS (jI).symm;have hs3:Af w (g.run r++BD c cs::E) (w1.setCell ⟨g.b,0,Z⟩ (iI (r.pc+1:Nat))) (g.run {r with Bq:=J r.Al,pc:=r.pc+1}++BD m cs::BD c cs::E):=K8.trans (K8.Ak.set (i:=0) rfl 0 _);have S3:=D hs3;clear K8 hs3 HS S0;go_loopw [7] (λ_ wr=>∃k,Ags l (g.run r++BD c cs::E) w g m (BD c cs::E) u1 cu b wr k) (λ_ wr=>Tf (Ags l (g.run r++BD c cs::E) w g m (BD c cs::E) u1 cu b wr));case atStart=>exact⟨n,_,cs,g.o,S3,Hin⟩
 case round=>
  have hx:=hrel;have hx2:=ZH hx;generalize hmm:Tf (Ags l (g.run r++BD c cs::E) w g m (BD c cs::E) u1 cu b wr)=mm at*;obtain⟨r',d1,o,hs,hk⟩:=hx2;have Hmm:=D hmm;have HX:=D hx;have hlt:=hk.lt;have SO:=hk.AK;clear hmm hx S3 q0 q1 q2 Hin;have Fu:wr.cell? ⟨g.b,0,Z⟩=U (iI r'.pc):=(hs.Ak.Ao (i:=0) rfl).cell 0;have f0:=(hs.Ak.Ao (i:=0) rfl).free 0;obtain⟨x,hx⟩:∃x,l[r'.pc]?=U x:=⟨_,Jb hlt⟩;obtain⟨nb,en,hc⟩:=AgC (hs.Ak.holds _ (Jc _ (.tail _ (.tail _ HN)))) hx;have gT:0<=(r'.pc:Int):=Y
  have On:r'.pc<(J l:Int):=Y
  have HS:=D hs;have HK:=D hk;have HKK:=D SO;obtain⟨c0,c1,c2,c3,c4,c5,c6,c7,c8,c9,c10,c11,c12,c13⟩:=AhN hc;rw[en];clear hs hk SO hc hlt;by_cases AkK:x.kind=41
  .obtain⟨e1,e2,e3⟩:=HK.Anj hx AkK;subst e1 e2 e3;obtain⟨e4,k2,Fa⟩:=H1.out rfl;subst e4;have HM:=D Fa;have hp4:True->wrap64 (r'.pc+1)=((r'.pc+1:Nat)):=λ_=>IntWalk.wrap64_in _ (by have:=Hl.out;omega)
   have bt:Af w (g.run r++BD c cs::E) (wr.setCell ⟨g.b,0,Z⟩ (iI (r'.pc+1:Nat))) (NG.run {g with o:=o} {r' with pc:=r'.pc+1}++BD m cs'::BD c cs::E):=HS.trans (HS.Ak.set (i:=0) rfl 0 _);have S5:=D bt;have AkX:=Hk.2.2;have HCL:=D AkX;clear hx bt HS HK Fa H1 H2 HKK hrel Hmm HX AkX;go_wp2_with fail;clear Fu f0 c0 c1 c2 c3 c4 c5 c6 c7 c8 c9 c10 c11 c12 c13;go_loopw [8] (λi wr=>∃j:Nat,i= iI j/\j<=J cs/\Af w (g.run r++BD c cs::E) wr (NG.run {g with o:=o} {r' with pc:=r'.pc+1}++BD m cs'::BD c (cs'.take j++cs.drop j)::E)) (λi _=>J cs-(intOf i).toNat);case atStart=>exact⟨0,rfl,Jo _,S5⟩
   case round=>
    clear S5;obtain⟨j,rfl,hj,hs⟩:=hrel;have HS:=D hs;have hel:(cs'.take j++cs.drop j).length=J cs:=by have:=HCL.out;rw[GT,Qv,WP];omega
    by_cases hlt:j<J cs
    .have Cy:j<(J cs:Int):=Y
     have hj0:0<=(j:Int):=Y
     have inc:True->wrap64 (j+1)=(j+1):=λ_=>IntWalk.wrap64_in _ (by have:=oa.out;omega)
     have hjm:j<J cs':=by have:=HCL.out;omega
     obtain⟨cb,LA⟩:∃cb,c.p=U ⟨cb,0,Z⟩:=by
      obtain⟨cb,_,e,_⟩:=Av (hs.Ak.row (i:=5) rfl) (by rw[hel];omega);exact⟨cb,by injection e⟩
     obtain⟨mb,Py⟩:=AiV hs.Ak Y;have rd:=Ma (AiU hs.Ak Py) hjm;have hro:wr.ownsRow 0 2 1 (qD (U ⟨cb,0,Z⟩) (cs'.take j++cs.drop j).length c.c) (cs'.take j++cs.drop j).length (BZ (cs'.take j++cs.drop j)):=by rw[<-LA];exact hs.Ak.row (i:=5) rfl
     have rd2:=Ma hro (i:=j) Y;have rf:=(AZ hro).2.1 j;have s9:=hs.trans (hs.Ak.Eu (i:=5) (by rw[<-LA];rfl) j (by simp[BZ];omega) (iI (cs'.getD j 0)));have S9:=D s9;have zZ:=D LA;have Fg:=D hlt;rw[LA,Py];clear hjm hs HS hro hel s9 LA Py hj hlt;go_wp2_with fail;go_roundw;case rel=>
      refine⟨j+1,by rw[inc trivial];rfl,Fg,?_⟩;have e:=Af0 cs' cs j (by have:=HCL.out;omega) Fg.out;have e2:BZ (cs'.take (j+1)++cs.drop (j+1))=(BZ (cs'.take j++cs.drop j)).set j (iI (cs'.getD j 0)):=by rw[<-e];unfold BZ;rw[Qx]
      have e3:(cs'.take (j+1)++cs.drop (j+1)).length=(cs'.take j++cs.drop j).length:=by rw[<-e,Jp]
      have e4:BD c (cs'.take (j+1)++cs.drop (j+1))=.row (qD (U ⟨cb,0,Z⟩) (cs'.take j++cs.drop j).length c.c) 2 1 (cs'.take j++cs.drop j).length ((BZ (cs'.take j++cs.drop j)).set j (iI (cs'.getD j 0))):=by unfold BD;rw[e2,e3,zZ.out]
      rw[e4];exact S9.out
     case measure=>have:=Fg.out;rw[inc trivial];simp only[intOf];omega
    .have Cy:¬j<(J cs:Int):=Y
     have hje:j=J cs:=Y
     subst hje;have e:cs'.take (J cs)++cs.drop (J cs)=cs':=by rw[<-HCL.out,Qw,HCL.out,List.drop_length,Jr]
     rw[e] at HS;have Ue:=Wn l a (BD m cs'::BD c cs'::E) (.tail _ (.tail _ HN)) Hl _ _ u k2 wr HS.Ak HM.out;rw[en] at Ue;have Hlo:=D Ue;clear hs hel hlt hj Ue;go_wp2_with fail;refine Hlo.mono ?_;rintro e w2 ⟨rfl,o2,K8⟩;have Ic:=D (HS.trans K8);clear K8 HS;go_wp2
     go_end0
     exact⟨rfl,o2,Ic.trans (Af.drop (B:=[BD m cs']) (by rw[Jj];exact Ic.Ak))⟩
  .have hkt:((x.kind:Int) !=41)=V:=by simp;omega
   obtain⟨⟨hsf,Wv⟩,rP⟩:=HK.next hx AkK;have e5:J d1=J cs:=by have:=HKK.2.2;have:=Hk.2.2;omega
   have Hs:=D (tS hsf Wv (by have:=oa.out;omega) (by have:=Hl.out;omega) HS.Ak);have HX2:=D rP;have HE5:=D e5;rw[<-e5];clear hx hsf Wv rP HKK e5;go_wp2_with fail;rw[<-AbO];refine Hs.mono ?_;rintro e w2 ⟨rfl,o2,K8⟩;have Ic:=D (HS.trans K8);clear K8 HS Hs;rcases HX2.out with⟨q1,q2,rfl⟩|⟨q1,k2,q2,q3⟩
   .rw[q1];rw[q2] at Ic;obtain⟨e6,e7⟩:=H2.out rfl;have Akn:=Hk.1;have c3':w2.cell? ⟨g.b,3,Z⟩=U (qD o2.p (J u1.Al) o2.c):=(Ic.Ak.Ao (i:=0) rfl).cell 3;have c4':w2.cell? ⟨g.b,4,Z⟩=U (iI (J r.Al)):=by rw[<-Akn];exact(Ic.Ak.Ao (i:=0) rfl).cell 4
    have f3:=(Ic.Ak.Ao (i:=0) rfl).free 3;have s9:=Ic.trans (AfZ Ic.Ak (J r.Al) Hk.2.1);have S9:=D s9;have E6:=D e6;have E7:=D e7;have hle:J r.Al<=(J u1.Al:Int):=by have:=Hk.2.1;omega
    have hr0:0<=(J r.Al:Int):=JK _;have I7:=AeL Ic.Ak;clear s9 q1 q2 HX2 HK hrel HX Ic Akn e6 e7 H1 H2 Hmm Fu f0 c0 c1 c2 c3 c4 c5 c6 c7 c8 c9 c10 c11 c12 c13;have B0:∀w5,w5=(w2.setCell ⟨g.b,3,Z⟩ (qD o2.p (J r.Al) o2.c)).drewN 1->Al0 g c r cs E w u cs' (qJ (qG #[])) w5:=λw5 e=>by
     subst e;have e6:=E6.out;have e7:=E7.out;subst e6;subst e7;have s8:=Af.drewN S9 1;exact⟨rfl,o2,s8.trans (Af.drop (B:=[BD m cu]) (by rw[Jj];exact s8.Ak))⟩
    have zW:=D B0;clear B0;rcases I7 with⟨p1,p2,p3⟩|⟨ob,p1,p2⟩
    .dsimp only at p1 p2 p3;have p4:J r.Al=0:=by have:=Hk.2.1;omega
     rw[p1,p2,p3] at c3';rw[p4,Int.natCast_zero] at c4';rw[p1,p3,p4] at zW;clear p1 p2 p3 p4 hle hr0 S9;go_upto_region 6 with fail
     refine AU (l:=sq [] 0 12) (λW=>W.cell? ⟨g.b,3,Z⟩=U (qD Z 0 0)/\W.cell? ⟨g.b,4,Z⟩=U (iI 0)) 12 ⟨c3',c4'⟩ ?_;refine FC ?_;refine Bb rfl (λK hK=>?_);go_simp;refine hK _ _ (λh=>Jk h Do) ?_;clear hK;simp only[Ct];go_wp2
     go_end0
     exact zW.out _ rfl
    .have p4:J r.Al<=(o2.c:Int):=by have:=Hk.2.1;dsimp only at p2;omega
     dsimp only at p1 p2;rw[p1] at c3' zW;clear p1 p2 S9;go_upto_region 6 with fail
     refine AU (l:=sq [] 0 12) (λW=>W.cell? ⟨g.b,3,Z⟩=U (qD (U ⟨ob,0,Z⟩) (J u1.Al) o2.c)/\W.cell? ⟨g.b,4,Z⟩=U (iI (J r.Al))) 12 ⟨c3',c4'⟩ ?_;refine FC ?_;refine Bb rfl (λK hK=>?_);go_simp;refine hK _ _ (λh=>Jk h Do) ?_;clear hK;simp only[Ct];go_wp2
     go_end0
     exact zW.out _ rfl
   .rw[q1];have HK3:=D q3;have Hk2:=D q2;clear q1 q2 q3 HX2 HK hrel HX;go_wp2;go_roundw;case rel=>exact⟨k2,_,_,o2,Ic,HK3⟩
    case measure=>
     have h1:Tf (Ags l (g.run r++BD c cs::E) w g m (BD c cs::E) u1 cu b w2)<=k2:=me ⟨_,_,o2,Ic,HK3⟩;have:=Hk2.out;omega
theorem Aw.t0 {a b c:World} (h:Aw [] a b) (k:Aw [] b c):Aw [] a c:=h.trans k λ_ h=> .inl h
def Kw (w:World) (L:List Ob):Prop:=∀o,o∈L->o.holds w
theorem Kw.mod (h:Kw w L) (m:Aw [] w w'):Kw w' L:=λo ho=>Ob.mod (h o ho) m EQ
structure Agk (w:World) (g:NG) (r:RR):Prop where
 b:Ch w g.b (g.cells r) 74
 o:∀j,j<J r.Al->∃b,g.o.p=U ⟨b,0,Z⟩/\w.cell? ⟨b,j,Z⟩=U (iI (r.Al.getD j 0))
theorem WO {d:SG} {l:List Int} (h:(BD d l).holds w) {j:Nat} (hj:j<J l):∃b,d.p=U ⟨b,0,Z⟩/\w.cell? ⟨b,j,Z⟩=U (iI (l.getD j 0)):=by
 have h':w.ownsRow 0 _ 1 _ (J l) (BZ l):=h;obtain⟨b,_,e,_⟩:=Av h' Y;have e':d.p=U ⟨b,0,Z⟩:=by injection e
 rw[e'] at h';exact⟨b,e',Ma h' hj⟩
theorem Y2 (h:Kw w (g.run r)):Agk w g r:=by
 exact⟨h _ (.head _),λj hj=>WO (d:=g.o) (h _ (.tail _ (.tail _ (.tail _ (.head _))))) hj⟩
theorem Agk.mod (h:Agk w g r) (m:Aw [] w w'):Agk w' g r:=by
 refine⟨m.heap h.b EQ,λj hj=>?_⟩;obtain⟨b,e,hc⟩:=h.o j hj;exact⟨b,e,AH m hc⟩
def tR (d:SG) (s:Cq):List Value:=[qD d.p (J s.Al) d.c,iI s.An]
theorem Adi (g:NG) (r:RR) (d:SG) (s:Cq) (w:World) (hg:Kw w (g.run r)) (hd:(BD d s.Al).holds w) (hl:J s.Al<=1000000000):
  Calls prog 67 #[iJ g.b,qH (tR d s).toArray] w λe w'=>e= qJ (qF (r.Ul s))/\Aw [] w w':=by
 have Hg:=D (Y2 hg);have Hd:=D (λj (hj:j<J s.Al)=>WO hd hj);have XQ:w.cell? ⟨g.b,3,Z⟩=U (qD g.o.p (J r.Al) g.o.c):=Hg.b.cell 3;have hb4:w.cell? ⟨g.b,4,Z⟩=U (iI r.Bq):=Hg.b.cell 4;have lt:=Hg.b.lt;have Hl:=D hl;clear hg hd hl;show Calls _ _ #[_,qH #[qD d.p (J s.Al) d.c,iI s.An]] _ _;go_enter func67,ntmps67;by_cases h1:(r.Bq<=J s.Al/\J s.Al<=J r.Al)
 .have t1:¬J s.Al<r.Bq:=Y
  have t2:¬J r.Al<J s.Al:=Y
  have H1:=D h1;clear h1;go_wp2_with fail;have hm:Aw [] w (w.alloc (qK #[qD d.p (J s.Al) d.c,iI s.An] 41)):=(Aw.refl [] w).alloc _;have hx:Ch (w.alloc (qK #[qD d.p (J s.Al) d.c,iI s.An] 41)) w.heap.size #[qD d.p (J s.Al) d.c,iI s.An] 41:=Ch.new w _ _;generalize w.alloc (qK #[qD d.p (J s.Al) d.c,iI s.An] 41)=w1 at hm hx⊢;have HM:=D hm;have HX:=D hx;clear hm hx XQ hb4 lt;go_loopw [6] (λi wr=>∃j:Nat,i= iI j/\j<=J s.Al/\Aw [] w1 wr/\∀k,k<j->s.Al.getD k 0=r.Al.getD k 0) (λi _=>J s.Al-(intOf i).toNat);case atStart=>exact⟨0,rfl,Jo _,Aw.refl _ _,λk hk=>Jk hk (NE k)⟩
  case round=>
   obtain⟨j,rfl,hj,hm,Da⟩:=hrel;have hr:=Hg.mod (HM.t0 hm);have hx:Ch wr w.heap.size #[qD d.p (J s.Al) d.c,iI s.An] 41:=hm.heap HX EQ;have XQ:wr.cell? ⟨g.b,3,Z⟩=U (qD g.o.p (J r.Al) g.o.c):=hr.b.cell 3;have yE:wr.cell? ⟨g.b,5,Z⟩=U (iI r.An):=hr.b.cell 5;have x0:wr.cell? ⟨w.heap.size,0,Z⟩=U (qD d.p (J s.Al) d.c):=hx.cell 0;have x1:wr.cell? ⟨w.heap.size,1,Z⟩=U (iI s.An):=hx.cell 1;by_cases hlt:j<J s.Al
   .have Cy:j<(J s.Al:Int):=Y
    have hlr:j<(J r.Al:Int):=by have:=H1.out;omega
    have hj0:0<=(j:Int):=Y
    have inc:True->wrap64 (j+1)=(j+1):=λ_=>IntWalk.wrap64_in _ (by have:=Hl.out;omega)
    obtain⟨db,ed,rd⟩:=Hd.out j hlt;replace rd:=AH (HM.t0 hm) rd;obtain⟨ob,eo,ro⟩:=hr.o j Y;rw[eo] at XQ;rw[ed] at x0;have Kb:=D Da;have Fg:=D hlt;have Hm:=D hm;clear hr hx hj hlt Da hm ed eo;generalize hq:s.Al.getD j 0=q at*;generalize hz:r.Al.getD j 0=z at*;have Hq:=D hq;have Hz:=D hz;clear hq hz;go_upto_region 7 with fail
    go_quiet (fail)
    by_cases hne:q=z
    .exact maE
    .have bW:(q !=z)=V:=by simp[hne]
     have hf:=nf H1.2 Fg (by rw[Hq.out,Hz.out];exact hne);exact mbI
   .have Cy:¬j<(J s.Al:Int):=Y
    have hf:=yW H1.1 H1.2 (λk hk=>Da k Y);have Hf:=D hf;have Hm:=D hm;clear hr hx hj hlt Da hm hf;by_cases Tj:s.An=0
    .have Amv:(s.An==0)=V:=by simp[Tj]
     have Hs0:=D Tj;clear Tj;go_wp2;go_ret;exact⟨by rw[Hf.out,JC Hs0.out];rfl,HM.t0 Hm⟩
    .have Amv:(s.An==0)=I:=by simp[Tj]
     have Hs0:=D Tj;clear Tj;by_cases Ti:s.An=r.An
     .have Amu:(s.An==r.An)=V:=by simp[Ti]
      by_cases K8:J s.Al=J r.Al
      .have Amt:(J s.Al==(J r.Al:Int))=V:=by simp[K8]
       have Hs1:=D Ti;have Hs2:=D K8;clear Ti K8;go_upto_region 11 with fail
       go_quiet (fail)
       go_wp2;go_ret;exact⟨by rw[Hf.out,JC Hs1.out,JC Hs2.out,Bool.and_self,Bool.or_true];rfl,HM.t0 (Hm.drewN _)⟩
      .have Amt:(J s.Al==(J r.Al:Int))=I:=by simp;omega
       have Hs2:=D K8;clear Ti K8;go_upto_region 11 with fail
       go_quiet (fail)
       go_wp2;go_ret;exact⟨by rw[Hf.out,Ju Hs2.out,UV,Ju Hs0.out];rfl,HM.t0 (Hm.drewN _)⟩
     .have Amu:(s.An==r.An)=I:=by simp[Ti]
      have Hs1:=D Ti;clear Ti;go_upto_region 11 with fail
      go_quiet (fail)
      go_wp2;go_ret;exact⟨by rw[Hf.out,Ju Hs1.out,jT,Ju Hs0.out];rfl,HM.t0 (Hm.drewN _)⟩
 .have hf:=yV h1;have Hf:=D hf;have hx:J s.Al<r.Bq\/(¬J s.Al<r.Bq/\J r.Al<J s.Al):=Y
  clear h1 hf;rcases hx with t1|⟨t1,t2⟩
  .go_wp2;go_ret;exact⟨by rw[Hf.out];rfl,(Aw.refl _ _).alloc _⟩
  .go_wp2;go_ret;exact⟨by rw[Hf.out];rfl,(Aw.refl _ _).alloc _⟩
theorem xd (g:NG) (r:RR) (d:SG) (s:Cq) (w:World) (hg:Kw w (g.run r)) (hd:(BD d s.Al).holds w) (hl:J s.Al<=1000000000):
  Calls prog 47 #[iJ g.b,qH (tR d s).toArray] w λe w'=>e= qJ (qF (r.parts s))/\Aw [] w w':=by
 have Hg:=D (Y2 hg);have Hd:=D (λj (hj:j<J s.Al)=>WO hd hj);have hb4:w.cell? ⟨g.b,4,Z⟩=U (iI r.Bq):=Hg.b.cell 4;have lt:=Hg.b.lt;have Hl:=D hl;clear hg hd hl;show Calls _ _ #[_,qH #[qD d.p (J s.Al) d.c,iI s.An]] _ _;go_enter func47,ntmps47;have hm:Aw [] w (w.alloc (qK #[qD d.p (J s.Al) d.c,iI s.An] 41)):=(Aw.refl [] w).alloc _;have hx:Ch (w.alloc (qK #[qD d.p (J s.Al) d.c,iI s.An] 41)) w.heap.size #[qD d.p (J s.Al) d.c,iI s.An] 41:=Ch.new w _ _;go_upto_region 1 with fail
 go_quiet (fail)
 by_cases h1:J s.Al<r.Bq
 .have hf:=pM h1;have Hf:=D hf;have HM:=D hm;clear hf hm hx;go_wp2;go_ret;exact⟨by rw[Hf.out];rfl,HM.drewN _⟩
 .have H1:=D h1;go_wp2_with fail;clear h1 hb4 lt;have Fa:=hm.drewN nq;have hx2:=hx.drewN nq;clear hm hx;generalize (w.alloc (qK #[qD d.p (J s.Al) d.c,iI s.An] 41)).drewN nq=w1 at Fa hx2⊢;have HM:=D Fa;have HX:=D hx2;clear Fa hx2;go_loopw [5] (λi wr=>∃j:Nat,i= iI j/\j<=J s.Al/\Aw [] w1 wr/\∀k,k<j->s.Al.getD k 0=r.Al.getD k 0) (λi _=>J s.Al-(intOf i).toNat);case atStart=>exact⟨0,rfl,Jo _,Aw.refl _ _,λk hk=>Jk hk (NE k)⟩
  case round=>
   obtain⟨j,rfl,hj,hm,Da⟩:=hrel;have hr:=Hg.mod (HM.t0 hm);have hx:Ch wr w.heap.size #[qD d.p (J s.Al) d.c,iI s.An] 41:=hm.heap HX EQ;have XQ:wr.cell? ⟨g.b,3,Z⟩=U (qD g.o.p (J r.Al) g.o.c):=hr.b.cell 3;have x0:wr.cell? ⟨w.heap.size,0,Z⟩=U (qD d.p (J s.Al) d.c):=hx.cell 0;by_cases hlt:j<J r.Al/\j<J s.Al
   .obtain⟨hlr,hlt⟩:=hlt;have Cy:j<(J s.Al:Int):=Y
    have AkF:j<(J r.Al:Int):=Y
    have hj0:0<=(j:Int):=Y
    have inc:True->wrap64 (j+1)=(j+1):=λ_=>IntWalk.wrap64_in _ (by have:=Hl.out;omega)
    obtain⟨db,ed,rd⟩:=Hd.out j hlt;replace rd:=AH (HM.t0 hm) rd;obtain⟨ob,eo,ro⟩:=hr.o j hlr;rw[eo] at XQ;rw[ed] at x0;have Kb:=D Da;have Fg:=D hlt;have Hm:=D hm;have Hlr:=D hlr;clear hr hx hj hlt hlr Da hm ed eo;generalize hq:s.Al.getD j 0=q at*;generalize hz:r.Al.getD j 0=z at*;have Hq:=D hq;have Hz:=D hz;clear hq hz;go_upto_region 6 with fail
    go_quiet (fail)
    by_cases hne:q=z
    .exact maE
    .have bW:(q !=z)=V:=by simp[hne]
     have hf:=gy Hlr Fg (by rw[Hq.out,Hz.out];exact hne);exact mbI
   .have hf:=pN H1 (λk GZ MU=>Da k Y);have Hf:=D hf;have Hm:=D hm;clear hr hx Da hm hf;by_cases hlr:j<J r.Al
    .have Cy:¬j<(J s.Al:Int):=Y
     have AkF:j<(J r.Al:Int):=Y
     clear hlt hj hlr;go_wp2;go_ret;exact⟨by rw[Hf.out];rfl,HM.t0 Hm⟩
    .have AkF:¬j<(J r.Al:Int):=Y
     clear hlt hj hlr;go_wp2;go_ret;exact⟨by rw[Hf.out];rfl,HM.t0 Hm⟩
def NG.ptr (g:NG):Value:= iJ g.b
structure RT (E:List Ob) (q:SG) (gs:List NG) (rs:List RR):Prop where
 len:J gs=J rs
 row: .row (qD q.p (J rs) q.c) 70 1 (J rs) (gs.map NG.ptr)∈E
 run:∀(t:Nat) (g:NG),gs[t]?=U g->∀o,o∈g.run (rs.getD t .start)->o∈E
def FH (ds:List SG) (m:List Cq):List Value:=(List.zipWith tR ds m).flatten
structure Lj (E:List Ob) (a:SG) (ds:List SG) (m:List Cq):Prop where
 len:J ds=J m
 row: .row (qD a.p (J m) a.c) 41 2 (J m) (FH ds m)∈E
 Al:∀(t:Nat) (d:SG),ds[t]?=U d->BD d (m.getD t ⟨[],0⟩).Al∈E
theorem dj:∀{ds:List SG} {m:List Cq} {t:Nat} {d:SG},J ds=J m->ds[t]?=U d->(FH ds m)[t*2]?=U (qD d.p (m.getD t ⟨[],0⟩).Al.length d.c)/\(FH ds m)[t*2+1]?=U (iI (m.getD t ⟨[],0⟩).An)
 |[],_,_,_,_,h=>by simp at h
 |d::ds,[],_,_,hl,_=>by simp at hl
 |d::ds,s::m,0,d',hl,h=>by
  cases h;exact⟨rfl,rfl⟩
 |d::ds,s::m,t+1,d',hl,h=>by
  have:=dj (by simpa using hl) (by simpa using h);rw[show(t+1)*2=t*2+1+1 by omega];exact this
theorem Nf {c z:Nat} (h:w.ownsRow 0 e z (qD p n c) n xs) {i:Nat} {v:Value} (hi:xs[i]?=U v):∃b,p=U ⟨b,0,Z⟩/\w.cell? ⟨b,i,Z⟩=U v:=by
 obtain⟨hlt,hv⟩:=Jm.1 hi;have hn:0<n:=by
  rcases Q1 n with h0|h0
  .rw[Xm h,h0,Nat.zero_mul] at hlt;omega
  .exact h0
 obtain⟨b,_,e,_,_,_,_,hc,_⟩:=Av h hn;exact⟨b,by injection e,by rw[hc i hlt,hv]⟩
theorem Yg {gs:List NG} (h:RT E q gs rs) (hE:Kw w E) {t:Nat} (ht:t<J rs):∃b g,q.p=U ⟨b,0,Z⟩/\w.cell? ⟨b,t,Z⟩=U (iJ g.b)/\gs[t]?=U g/\Kw w (g.run (rs.getD t .start)):=by
 obtain⟨g,hg⟩:∃g,gs[t]?=U g:=⟨_,Jb (by rw[h.len];exact ht)⟩;obtain⟨b,e,hc⟩:=Nf (hE _ h.row) (by rw[JR,hg];rfl);exact⟨b,_,e,hc,hg,λo ho=>hE o (h.run t _ hg o ho)⟩
theorem Yf (h:Lj E a ds m) (hE:Kw w E) {t:Nat} (ht:t<J m):∃b d,a.p=U ⟨b,0,Z⟩/\w.cell? ⟨b,t*2,Z⟩=U (qD d.p (m.getD t ⟨[],0⟩).Al.length d.c)/\w.cell? ⟨b,t*2+1,Z⟩=U (iI (m.getD t ⟨[],0⟩).An)/\(BD d (m.getD t ⟨[],0⟩).Al).holds w:=by
 obtain⟨d,hd⟩:∃d,ds[t]?=U d:=⟨_,Jb (by rw[h.len];exact ht)⟩;obtain⟨c0,c1⟩:=dj h.len hd;obtain⟨b,e,hc⟩:=Nf (hE _ h.row) c0;obtain⟨b',e',hc'⟩:=Nf (hE _ h.row) c1;rw[e] at e';cases e';exact⟨b,_,e,hc,hc',hE _ (h.Al t _ hd)⟩
theorem Alm {l:List Bool} (h:(Bw a l).holds w) {t:Nat} (ht:t<J l):∃b,a.p=U ⟨b,0,Z⟩/\w.cell? ⟨b,t,Z⟩=U (qF (l.getD t I)):=
 Nf (show w.ownsRow 0 _ 1 _ (J l) (DE l) from h) (by unfold DE;rw[JR,Jb ht,Ja,Jb ht];rfl)
theorem Abw (E:List Ob) (q:SG) (gs:List NG) (rs:List RR) (h:RT E q gs rs) (a:SG) (bl:List Bool) (hb:Bw a bl∈E) (ES:J bl=J rs) (hl:J rs<=1000000) (w:World) (hE:Kw w E):
  Calls prog 48 #[qD q.p (J rs) q.c,qD a.p (J rs) a.c] w λe w'=>e= qJ (qF (U8 rs bl))/\w'=w:=by
 have HR:=D (λt (ht:t<J rs)=>Yg h hE ht);have HB:=D (λt (ht:t<J rs)=>Alm (hE _ hb) (t:=t) Y);have Hl:=D hl;clear h hb ES hE hl;go_enter func48,ntmps48;go_wp2_with fail;go_loopw [5] (λi wr=>∃j:Nat,i= iI j/\j<=J rs/\wr=w/\∀k,k<j->(!(bl.getD k I) || !decide ((rs.getD k .start).An=0))=V) (λi _=>J rs-(intOf i).toNat);case atStart=>exact⟨0,rfl,Jo _,rfl,λk hk=>Jk hk (NE k)⟩
 case round=>
  obtain⟨j,rfl,hj,rfl,Da⟩:=hrel;by_cases hlt:j<J rs
  .have Cy:j<(J rs:Int):=Y
   have hj0:0<=(j:Int):=Y
   have inc:True->wrap64 (j+1)=(j+1):=λ_=>IntWalk.wrap64_in _ (by have:=Hl.out;omega)
   obtain⟨qb,g,eq,c1,hg,IG⟩:=HR.out j hlt;obtain⟨ab,ea,c2⟩:=HB.out j hlt;have c3:wr.cell? ⟨g.b,5,Z⟩=U (iI (rs.getD j .start).An):=(Y2 IG).b.cell 5;rw[eq,ea];have Kb:=D Da;have Fg:=D hlt;clear Da hj hlt hg IG eq ea;generalize hx:bl.getD j I=x at*;generalize hs:(rs.getD j .start).An=s at*;have Hx:=D hx;have Hs:=D hs;clear hx hs;have hp:(!(bl.getD j I) || !decide ((rs.getD j .start).An=0))=(!x || !decide (s=0)):=by rw[Hx.out,Hs.out]
   have Hp:=D hp;clear hp;cases x with
   |false=>
    go_wp2_with fail;go_roundw;case rel=>
     refine⟨j+1,by rw[inc trivial];rfl,Fg,trivial,λk hk=>?_⟩;rcases J9.1 hk with h|rfl
     .exact Kb.out k h
     .exact Hp.out
    case measure=>have:=Fg.out;rw[inc trivial];simp only[intOf];omega
   |true=>
    by_cases h0:s=0
    .have Z7:(s==0)=V:=by simp[h0]
     have hf:U8 rs bl=I:=vo Fg (by rw[Hp.out,h0];rfl);have Hf:=D hf;clear h0 hf;go_wp2;go_ret;exact⟨by rw[Hf.out];rfl,rfl⟩
    .have Z7:(s==0)=I:=by simp[h0]
     have H0:=D h0;clear h0;go_wp2_with fail;go_roundw;case rel=>
      refine⟨j+1,by rw[inc trivial];rfl,Fg,trivial,λk hk=>?_⟩;rcases J9.1 hk with h|rfl
      .exact Kb.out k h
      .rw[Hp.out,Ju H0.out];rfl
     case measure=>have:=Fg.out;rw[inc trivial];simp only[intOf];omega
  .have Cy:¬j<(J rs:Int):=Y
   have hf:U8 rs bl=V:=Alr λk hk=>Da k Y
   have Hf:=D hf;clear Da hj hlt hf;go_wp2;go_ret;exact⟨by rw[Hf.out];rfl,rfl⟩
theorem wF (E:List Ob) (q:SG) (gs:List NG) (rs:List RR) (h:RT E q gs rs) (a:SG) (ds:List SG) (m:List Cq) (hs:Lj E a ds m) (hml:J m=J rs) (hl:J rs<=1000000) (Wv:∀t,(m.getD t ⟨[],0⟩).Al.length<=1000000000) (w:World) (hE:Kw w E):
  Calls prog 46 #[qD q.p (J rs) q.c,qD a.p (J rs) a.c] w λe w'=>e= qJ (qF (F4 rs m))/\Aw [] w w':=by
 have HE:=D hE;have HR:=D h;have HS:=D hs;have Hml:=D hml;have Hl:=D hl;have Hol:=D Wv;clear h hs hml hE hl Wv;go_enter func46,ntmps46;go_wp2_with fail;go_loopw [5,6] (λi _ wr=>∃j:Nat,i= iI j/\j<=J rs/\Aw [] w wr/\∀k,k<j->((rs.getD k .start).Ul (m.getD k ⟨[],0⟩))=V) (λi _ _=>J rs-(intOf i).toNat);case atStart=>exact⟨0,rfl,Jo _,Aw.refl _ _,λk hk=>Jk hk (NE k)⟩
 case round=>
  obtain⟨j,rfl,hj,hm,Da⟩:=hrel;by_cases hlt:j<J rs
  .have Cy:j<(J rs:Int):=Y
   have hj0:0<=(j:Int):=Y
   have inc:True->wrap64 (j+1)=(j+1):=λ_=>IntWalk.wrap64_in _ (by have:=Hl.out;omega)
   obtain⟨qb,g,eq,c1,hg,IG⟩:=Yg HR (HE.mod hm) hlt;obtain⟨ab,d,ea,c2,c3,hd⟩:=Yf HS (HE.mod hm) (by rw[Hml.out];exact hlt);have ho:=Hol.out j;obtain⟨x,hx⟩:∃x,x=rs.getD j .start:=⟨_,rfl⟩;obtain⟨y,hy⟩:∃y,y=m.getD j ⟨[],0⟩:=⟨_,rfl⟩;rw[<-hx] at IG;rw[<-hy] at c2 c3 hd ho;have Hxy:Hid ((rs.getD j .start).Ul (m.getD j ⟨[],0⟩)=x.Ul y):=D (by rw[hx,hy]);have Hf:=D (Adi g x d y wr.drew (IG.mod (Aw.refl _ _).drew) (Ob.mod hd ((Aw.refl [] wr).drew) EQ) ho);rw[eq,ea];have Kb:=D Da;have Fg:=D hlt;have Hm:=D hm;clear Da hj hlt hg IG eq ea hm hd ho hx hy;go_upto_region 4 with fail
   refine AU (l:=sq [8] 0 9) (λW=>W.cell? ⟨qb,j,Z⟩=U (iJ g.b)/\W.cell? ⟨ab,j*2,Z⟩=U (qD d.p (J y.Al) d.c)/\W.cell? ⟨ab,j*2+1,Z⟩=U (iI y.An)) 8 ⟨c1,c2,c3⟩ ?_;refine FC ?_;refine Bb rfl (λK hK=>?_);go_simp;refine Hf.mono ?_;rintro e w2 ⟨rfl,Fa⟩;have X8:=D (Hm.t0 ((Aw.refl _ _).drew.t0 Fa));refine hK _ w2 (λh=>Jk h Do) ?_;clear hK Fa Hm Hf;refine Bb rfl (λK hK=>?_);go_simp;refine hK _ w2 (λh=>Jk h Do) ?_;clear hK c1 c2 c3;simp only[Ct];cases hx:x.Ul y with
   |false=>
    have hf:F4 rs m=I:=vo Fg (Hxy.trans hx);have Hf:=D hf;clear hx hf;go_wp2;go_ret;exact⟨by rw[Hf.out];rfl,X8⟩
   |true=>
    have Hx:=D hx;clear hx;go_wp2_with fail;go_roundw;case rel=>
     refine⟨j+1,by rw[inc trivial];rfl,Fg,X8,λk hk=>?_⟩;rcases J9.1 hk with h|rfl
     .exact Kb.out k h
     .exact Hxy.trans Hx.out
    case measure=>have:=Fg.out;rw[inc trivial];simp only[intOf];omega
  .have Cy:¬j<(J rs:Int):=Y
   have hf:F4 rs m=V:=Alr λk hk=>Da k Y
   have Hf:=D hf;have Hm:=D hm;clear Da hj hlt hf hm;go_wp2;go_ret;exact⟨by rw[Hf.out];rfl,Hm⟩
theorem Aq.Aga (h:Aq w L) {b:Nat} {c:Array Value} {T:TypeId} (hm: .Ao b c T∈L):Ch w b c T:=h.holds _ hm
theorem Vb (l:List Int):∀u∈BZ l,u.oneCell'=V:=by simp[BZ,Value.oneCell']
theorem sD (E:List Ob) (g:NG) (r:RR) (hR:∀o,o∈g.run r->o∈E) (hl:J r.Al<=1000000) (w:World) (h:Aq w E):
  Calls prog 49 #[iJ g.b] w (Al1 E w r):=by
 have hc:=(Y2 (λo ho=>h.holds o (hR o ho))).b.cell;have c0:w.cell? ⟨g.b,0,Z⟩=U (iI r.pc):=hc 0;have c1:w.cell? ⟨g.b,1,Z⟩=U (qD g.v.p 4 g.v.c):=hc 1;have c2:w.cell? ⟨g.b,2,Z⟩=U (qD g.d.p 3 g.d.c):=hc 2;have c3:w.cell? ⟨g.b,3,Z⟩=U (qD g.o.p (J r.Al) g.o.c):=hc 3;have c4:w.cell? ⟨g.b,4,Z⟩=U (iI r.Bq):=hc 4;have c5:w.cell? ⟨g.b,5,Z⟩=U (iI r.An):=hc 5;have H:=D h;have HR:=D hR;have Hl:=D hl;obtain⟨i0,hi,Kc⟩:=Ji.1 KQ;simp only[Prod.mk.injEq] at Kc;obtain⟨I6,K6,LQ⟩:=Kc;clear h hR hl hc;go_enter func49,ntmps49;go_upto_region 2 with fail
 have s1:Af w E (w.alloc (qK (g.cells r) 74)) (.Ao w.heap.size (g.cells r) 74::E):=Af.Mg H _;unfold NG.cells at s1;generalize w.alloc _=w1 at s1⊢;have hb:=(s1.Ak.Ao (i:=0) rfl).cell;have k2:w1.cell? ⟨g.b,1,Z⟩=U (qD g.v.p 4 g.v.c):=(s1.Ak.Aga (.tail _ (HR _ (.head _)))).cell 1;have hv:w1.ownsRow 0 2 1 (qD g.v.p 4 g.v.c) 4 (BZ r.v):=s1.Ak.holds _ (.tail _ (HR _ (.tail _ (.head _))));have S1:=D s1;have Hv:=D hv;clear c0 c1 c2 c3 c4 c5 s1 hb hv;go_upto_region 3 with(first|(at_builtin;refine Km 8 _ _ _ i0 _ S1.Ak Hv rfl Eq underlying31 hi I6 K6 LQ rfl Eq Eq (Vb _) Do Do ?_;intro m w2 K8;have q0:w2.cell? ⟨w.heap.size,1,Z⟩=U (qD g.v.p 4 g.v.c):=(K8.Ak.Ao (i:=1) rfl).cell 1;have q1:=(K8.Ak.Ao (i:=1) rfl).free 1;have q2:=(K8.Ak.Ao (i:=1) rfl).lt;have HS:=D (S1.trans K8);clear K8 k2)|fail)
 have s2:=HS.trans (HS.Ak.set (i:=1) rfl 1 (qD m.p 4 m.c));generalize w2.setCell _ _=w3 at s2⊢;have hb:=(s2.Ak.Ao (i:=1) rfl).cell;have k2:w3.cell? ⟨g.b,2,Z⟩=U (qD g.d.p 3 g.d.c):=(s2.Ak.Aga (.tail _ (.tail _ (HR _ (.head _))))).cell 2;have hv:w3.ownsRow 0 3 1 (qD g.d.p 3 g.d.c) 3 (BZ r.Dz):=s2.Ak.holds _ (.tail _ (.tail _ (HR _ (.tail _ (.tail _ (.head _))))));have S2:=D s2;have Hw:=D hv;clear q0 q1 q2 s2 hb hv HS S1 Hv hi I6 K6 LQ;obtain⟨i1,hi,Kc⟩:=Ji.1 Rl;simp only[Prod.mk.injEq] at Kc;obtain⟨I6,K6,LQ⟩:=Kc;go_upto_region 4 with(first|(at_builtin;refine Km 8 _ _ _ i1 _ S2.Ak Hw rfl Eq underlying29 hi I6 K6 LQ rfl Eq Eq (Vb _) Do Do ?_;intro n w4 hs4;have q0:w4.cell? ⟨w.heap.size,2,Z⟩=U (qD g.d.p 3 g.d.c):=(hs4.Ak.Ao (i:=2) rfl).cell 2;have q1:=(hs4.Ak.Ao (i:=2) rfl).free 2;have q2:=(hs4.Ak.Ao (i:=2) rfl).lt;have HS:=D (S2.trans hs4);clear hs4 k2)|fail)
 have s4:=HS.trans (HS.Ak.set (i:=2) rfl 2 (qD n.p 3 n.c));generalize w4.setCell _ _=w5 at s4⊢;have hb:=(s4.Ak.Ao (i:=2) rfl).cell;have k2:w5.cell? ⟨g.b,3,Z⟩=U (qD g.o.p (J r.Al) g.o.c):=(s4.Ak.Aga (.tail _ (.tail _ (.tail _ (HR _ (.head _)))))).cell 3;have hv:w5.ownsRow 0 2 1 (qD g.o.p (J r.Al) g.o.c) (J r.Al) (BZ r.Al):=s4.Ak.holds _ (.tail _ (.tail _ (.tail _ (HR _ (.tail _ (.tail _ (.tail _ (.head _))))))));have S3:=D s4;have Hx:=D hv;clear q0 q1 q2 s4 hb hv HS S2 Hw hi I6 K6 LQ;obtain⟨i2,hi,Kc⟩:=Ji.1 KQ;simp only[Prod.mk.injEq] at Kc;obtain⟨I6,K6,LQ⟩:=Kc;go_upto_region 5 with(first|(at_builtin;refine Km 8 _ _ _ i2 _ S3.Ak Hx rfl Eq underlying31 hi I6 K6 LQ rfl Eq Eq (Vb _) (by have:=Hl.out;unfold maxLen;omega) (by have:=Hl.out;omega) ?_;intro o w6 hs6;have q0:w6.cell? ⟨w.heap.size,3,Z⟩=U (qD g.o.p (J r.Al) g.o.c):=(hs6.Ak.Ao (i:=3) rfl).cell 3;have q1:=(hs6.Ak.Ao (i:=3) rfl).free 3;have q2:=(hs6.Ak.Ao (i:=3) rfl).lt;have HS:=D (S3.trans hs6);clear hs6 k2)|fail)
 go_wp2;go_ret;refine⟨⟨w.heap.size,m,n,o⟩,rfl,?_⟩;have s6:=HS.trans (HS.Ak.set (i:=3) rfl 3 (qD o.p (J r.Al) o.c));refine s6.trans (Af.Kl s6.Ak ?_);show List.Perm ([_,_,_,_]++E) ([_,_,_,_]++E);refine QK E ?_;exact(List.reverse_perm _).symm
theorem Aq.hl (h:Aq w L):Kw w L:=h.holds
theorem py {α:Type} {c:Nat} {cv:List SG} {ls:List (List α)} (h:w.ownsRow 0 e 1 (qD p (J ls) c) (J ls) (A4 cv ls)) (hl:J cv=J ls) {t:Nat} (ht:t<J ls):
  ∃b a,p=U ⟨b,0,Z⟩/\w.cell? ⟨b,t,Z⟩=U (qD a.p (ls.getD t []).length a.c)/\cv[t]?=U a:=by
 have hc:t<J cv:=Y
 obtain⟨b,e1,h1⟩:=Nf h (V8 cv ls t hc ht);exact⟨b,cv[t],e1,by rw[h1,Ja,Jb ht];rfl,Jb hc⟩
theorem eg:(prog.info? 70).map (λi=>(i.zero,i.size,i.bytes))=U (U (qI Z),1,8):=Fd
theorem AhF (gs:List NG):∀u∈gs.map NG.ptr,u.oneCell'=V:=λu hu=>by
 obtain⟨g,_,rfl⟩:=Qe.1 hu;rfl
structure cD where
 pb:Nat
 tp:SG
 cv:List SG
 x1:Value
 x2:Value
 x3:Value
 ap:SG
 av:List SG
 mb:Nat
 mc:Nat
 mv:List SG
 md:List (List SG)
structure sX (E:List Ob) (L:cD) (P:List (List Nd)):Prop where
 pg: .Ao L.pb #[qD L.tp.p (J P) L.tp.c,L.x1,L.x2,L.x3] 53∈E
 pt: .row (qD L.tp.p (J P) L.tp.c) 72 1 (J P) (A4 L.cv P)∈E
 pl:J L.cv=J P
 th:∀(t:Nat) (a:SG),L.cv[t]?=U a->CM a (P.getD t [])∈E
 nl:∀t,(P.getD t []).length<=1000000
structure iK (E:List Ob) (L:cD) (P:List (List Nd)) (ah:List (List Bool)) (ms:List (List Cq)) (T:Nat):Prop where
 p:sX E L P
 tl:J P=T
 ar: .row (qD L.ap.p (J ah) L.ap.c) 51 1 (J ah) (A4 L.av ah)∈E
 al:J L.av=J ah
 al2:J ah=T
 ab:∀(t:Nat) (a:SG),L.av[t]?=U a->Bw a (ah.getD t [])∈E
 abl:∀t,t<T->(ah.getD t []).length=T
 mr: .row (qD (U ⟨L.mb,0,Z⟩) (J ms) L.mc) 36 1 (J ms) (A4 L.mv ms)∈E
 ml:J L.mv=J ms
 sn:∀(i:Nat) (a:SG),L.mv[i]?=U a->Lj E a (L.md.getD i []) (ms.getD i [])
 mt:∀i,i<J ms->(ms.getD i []).length=T
 mo:∀i t,((ms.getD i []).getD t ⟨[],0⟩).Al.length<=1000000000
 mn:J ms<=1000000000
theorem sX.mono {L:cD} {P:List (List Nd)} (h:sX E L P) (s:∀o,o∈E->o∈E'):sX E' L P:=⟨s _ h.pg,s _ h.pt,h.pl,λt a e=>s _ (h.th t a e),h.nl⟩
theorem Lj.mono (h:Lj E a ds m) (s:∀o,o∈E->o∈E'):Lj E' a ds m:=⟨h.len,s _ h.row,λt d e=>s _ (h.Al t d e)⟩
theorem RT.next {E9:List Ob} {gs:List NG} (h:RT E q gs rs) {j:Nat} (hj:j<J rs) {g3:NG} {u:RR} {rb c:Nat} (h1:∀o,o∈E->o∈E9) (h2:∀o,o∈g3.run u->o∈E9)
  (h3: .row (qD (U ⟨rb,0,Z⟩) (J rs) c) 70 1 (J rs) ((gs.map NG.ptr).set j g3.ptr)∈E9):RT E9 ⟨U ⟨rb,0,Z⟩,c⟩ (gs.set j g3) (rs.set j u):=by
 refine⟨by rw[Jp,Jp];exact h.len,by rw[Jp,Qx];exact h3,λt g hg o ho=>?_⟩;by_cases e:t=j
 .subst e;rw[Qs,Jd rfl,Jd (by rw[h.len];exact hj)] at hg;cases hg;rw[B4 _ _ _ _ _ hj,Jd rfl] at ho;exact h2 o ho
 .rw[Qs,In (λh=>e h.symm)] at hg;rw[B4 _ _ _ _ _ hj,In e] at ho;exact h1 o (h.run t g hg o ho)
theorem iK.mono {L:cD} {P:List (List Nd)} (h:iK E L P ah ms T) (s:∀o,o∈E->o∈E'):iK E' L P ah ms T:=
 ⟨h.p.mono s,h.tl,s _ h.ar,h.al,h.al2,λt a e=>s _ (h.ab t a e),h.abl,s _ h.mr,h.ml,λi a e=>(h.sn i a e).mono s,h.mt,h.mo,h.mn⟩
section
variable {w:World} {E:List Ob} {L:cD} {P:List (List Nd)} (hE:Kw w E)
include hE
theorem sX.at (h:sX E L P) (ht:t<J P):w.cell? ⟨L.pb,0,Z⟩=U (qD L.tp.p (J P) L.tp.c)/\L.pb<w.heap.size/\∃b a,L.tp.p=U ⟨b,0,Z⟩/\w.cell? ⟨b,t,Z⟩=U (qD a.p (P.getD t []).length a.c)/\CM a (P.getD t [])∈E:=by
 have hb:Ch w L.pb _ _:=hE _ h.pg;obtain⟨b,a,e1,e2,e3⟩:=py (hE _ h.pt) h.pl ht;exact⟨hb.cell 0,hb.lt,b,a,e1,e2,h.th t a e3⟩
variable {ah:List (List Bool)} {ms:List (List Cq)} {T:Nat} (h:iK E L P ah ms T)
include h
theorem iK.Als (ht:t<T):∃b a,L.ap.p=U ⟨b,0,Z⟩/\w.cell? ⟨b,t,Z⟩=U (qD a.p T a.c)/\Bw a (ah.getD t [])∈E:=by
 obtain⟨b,a,e1,e2,e3⟩:=py (hE _ h.ar) h.al (t:=t) (by rw[h.al2];exact ht);rw[h.abl t ht] at e2;exact⟨b,a,e1,e2,h.ab t a e3⟩
theorem iK.mom (hi:i<J ms):∃a ds,w.cell? ⟨L.mb,i,Z⟩=U (qD a.p T a.c)/\Lj E a ds (ms.getD i []):=by
 obtain⟨b,a,e1,e2,e3⟩:=py (hE _ h.mr) h.ml hi;rw[h.mt i hi] at e2;cases e1;exact⟨a,_,e2,h.sn i a e3⟩
end
def Ad5 (L:cD) (P:List (List Nd)) (ah:List (List Bool)) (ms:List (List Cq)) (T n F:Nat):Prop:=
 ∀(E:List Ob) (w:World) (q:SG) (gs:List NG) (rs:List RR) (c:SG) (cs:List Int) (mp:Option Addr) (mk k m:Nat),iK E L P ah ms T->RT E q gs rs->J rs=T->BD c cs∈E->J cs=n->(∀t,(rs.getD t .start).Al.length<=60000)->
  k+m=J ms->(0<m->mp=U ⟨L.mb,k,Z⟩)->m<=mk->SrT P n F rs->Aq w E->
  Calls prog 32 #[iJ L.pb,qD q.p T q.c,qD c.p n c.c,qD mp m mk,qD L.ap.p T L.ap.c] w λe w'=>e= qJ (qF (DL P ah F rs cs (ms.drop k)))/\Af w E w' E
theorem lf (L:cD) (P:List (List Nd)) (ah:List (List Bool)) (ms:List (List Cq)) (T n F:Nat) (hT:T<=1000) (hn:n<=1000000) (ih:Ad5 L P ah ms T n F):Ad5 L P ah ms T n (F+1):=by
 intro E w q gs rs c cs mp mk k m hS hR FQ hC Cs ho hk hmp gV hF h;have HE:=D h.hl;have H:=D h;have HS:=D hS;have HR:=D hR;have SB:=D FQ;have HC:=D hC;have oa:=D Cs;have Ho:=D ho;have Hk:=D hk;have Hmp:=D hmp;have Hmk:=D gV;have HF:=D hF;have Ih:=D ih;have HT:=D hT;have Hn:=D hn;clear ih hT hn hS hR FQ hC Cs ho hk hmp gV hF h;go_enter func32,ntmps32;go_wp2_with fail;go_loopw [3,11] (λv _ wr=>∃(k' m' mk':Nat) (p':Option Addr),v= qD p' m' mk'/\k'+m'=J ms/\(0<m'->p'=U ⟨L.mb,k',Z⟩)/\m'<=mk'/\Aw [] w wr/\(ms.drop k).dropWhile (F4 rs)=(ms.drop k').dropWhile (F4 rs)) (λv _ _=>match v with|.slice _ m' _=>m'|_=>0);case atStart=>exact⟨k,m,mk,mp,rfl,Hk,Hmp,Hmk,Aw.refl _ _,rfl⟩
 case round=>
  obtain⟨k',m',mk',p',rfl,LS,XI,eA,hm,hd⟩:=hrel;by_cases h0:0<m'
  .have Z7:0<(m':Int):=Y
   have Ak7:((m':Int)==0)=I:=by simp;omega
   obtain⟨a,ds,c1,hsn⟩:=HS.mom (HE.mod hm) (i:=k') Y;have IK:=wF E q gs rs HR a ds (ms.getD k' []) hsn (by rw[HS.out.mt _ Y,SB.out]) (by have:=HT.out;have:=SB.out;omega) (HS.mo k') wr (HE.mod hm);rw[SB.out] at IK;have Hsh:=D IK;rw[XI h0];have Hk':=D LS;have Hm':=D eA;have Hm:=D hm;have Hd:=D hd;have H0:=D h0;have h1':1<=(m':Int):=Y
   have h2':m'<=(mk':Int):=Y
   have Hs9:=D hsn;clear IK LS eA hm hd hsn XI h0;go_wp2_with fail;refine Hsh.mono ?_;rintro e w2 ⟨rfl,Fa⟩;have X8:=D (Hm.t0 Fa);have hdc:=eS Hk' H0.out;cases hx:F4 rs (ms.getD k' []) with
   |true=>
    have Hd2:=D (show(ms.drop k).dropWhile (F4 rs)=(ms.drop (k'+1)).dropWhile (F4 rs) by rw[Hd.out,hdc,QA,Jd hx]);clear Fa hdc hx Hsh Hm c1 Hd;go_wp2_with fail;refine⟨⟨k'+1,m'-1,mk'-1,_,rfl,by have:=Hk'.out;omega,λh1=>by rw[In Y],by have:=Hm'.out;omega,X8,Hd2⟩,?_⟩;show m'-1<m';omega
   |false=>
    have Hd2:=D (show(ms.drop k).dropWhile (F4 rs)=ms.getD k' []::ms.drop (k'+1) by rw[Hd.out,hdc,QA,In (by rw[hx];exact i5)]);obtain⟨z,hz⟩:∃z,z+1=m':=⟨m'-1,by have:=H0.out;omega⟩;have bS:True->wrap64 (m'-1)=z:=λ_=>by rw[show m'-1=(z:Int) by omega];exact IntWalk.wrap64_in _ (by have:=HS.mn;have:=Hk'.out;omega)
    have LP:0<=(z:Int):=Y
    have KZ:z<(m':Int):=Y
    replace c1:=AH Fa c1;obtain⟨a2,ds2,c2,Ako⟩:=HS.mom (HE.mod X8) (i:=k'+z) (by have:=Hk'.out;omega);have Hdc:=D hdc;have Hz:=D hz;have Hs2:=D Ako;clear Fa hdc hx Hsh Hm Hd hz Ako;have kr:=D (zg (ms:=ms) (k:=k') (z:=z) (by have:=Hk'.out;have:=Hz.out;omega));have Hsn:=D (show∃ds,Lj E a ds (ms.getD k' []) from⟨_,Hs9⟩);have Hyl:=D (show(ms.getD k' []).length=T from HS.mt _ (by have:=Hk'.out;omega));have Hzl:=D (show(ms.getD (k'+z) []).length=T from HS.mt _ (by have:=Hk'.out;have:=Hz.out;omega));have Hyo:=D (HS.mo k');have Hzo:=D (HS.mo (k'+z));obtain⟨Du,Afy⟩:∃y,y=ms.getD k' []:=⟨_,rfl⟩;obtain⟨CF,FR⟩:∃y,y=ms.getD (k'+z) []:=⟨_,rfl⟩;rw[<-Afy] at Hd2 kr Hsn Hyl Hyo Hdc;rw[<-FR] at kr Hs2 Hzl Hzo;clear Afy FR Hs9;go_wp2_with fail;clear c1 c2 bS LP KZ Z7 Ak7 h1' h2';go_loopw [14,15] (λi _ wr=>∃j:Nat,i= iI j/\j<=T/\Aw [] w wr/\∀u,u<j->((rs.getD u .start).parts (CF.getD u ⟨[],0⟩) || decide ((Du.getD u ⟨[],0⟩).Al.length<(rs.getD u .start).Bq))=I) (λi _ _=>T-(intOf i).toNat);case atStart=>exact⟨0,rfl,Jo _,X8,λu hu=>Jk hu (NE u)⟩
    case round=>
     obtain⟨j,rfl,hj,hm,Da⟩:=hrel;by_cases hlt:j<T
     .have Cy:j<(T:Int):=Y
      have hj0:0<=(j:Int):=Y
      have inc:True->wrap64 (j+1)=(j+1):=λ_=>IntWalk.wrap64_in _ (by have:=HT.out;omega)
      obtain⟨qb,g,eq,c1,hg,IG⟩:=Yg HR (HE.mod hm) (by rw[SB.out];exact hlt);obtain⟨ds,hsn⟩:=Hsn.out;obtain⟨ab,d,ea,c2,_,_⟩:=Yf hsn (HE.mod hm) (by rw[Hyl.out];exact hlt);obtain⟨lb,d2,el,c4,c5,kb⟩:=Yf Hs2 (HE.mod hm) (by rw[Hzl.out];exact hlt);have ho:=Hzo.out j;obtain⟨x,hx⟩:∃x,x=rs.getD j .start:=⟨_,rfl⟩;obtain⟨y,hy⟩:∃y,y=Du.getD j ⟨[],0⟩:=⟨_,rfl⟩;obtain⟨v,hv⟩:∃y,y=CF.getD j ⟨[],0⟩:=⟨_,rfl⟩;rw[<-hx] at IG;rw[<-hy] at c2;rw[<-hv] at c4 c5 kb ho;have Hxy:Hid (((rs.getD j .start).parts (CF.getD j ⟨[],0⟩) || decide ((Du.getD j ⟨[],0⟩).Al.length<(rs.getD j .start).Bq))=(x.parts v || decide (J y.Al<x.Bq))):=D (by rw[hx,hy,hv]);have Hf:=D (xd g x d2 v wr.drew (IG.mod (Aw.refl _ _).drew) (Ob.mod kb ((Aw.refl [] wr).drew) EQ) ho);rw[eq,ea,el];have Kb:=D Da;have Fg:=D hlt;have Hm:=D hm;have Agq:=D (Y2 IG);clear Da hj hlt hg IG eq ea el hm kb ho hx hy hv hsn;go_upto_region 12 with fail
      refine AU (l:=sq [8] 0 9) (λW=>W.cell? ⟨qb,j,Z⟩=U (iJ g.b)/\W.cell? ⟨lb,j*2,Z⟩=U (qD d2.p (J v.Al) d2.c)/\W.cell? ⟨lb,j*2+1,Z⟩=U (iI v.An)) 8 ⟨c1,c4,c5⟩ ?_;refine FC ?_;refine Bb rfl (λK hK=>?_);go_simp;refine Hf.mono ?_;rintro e w3 ⟨rfl,iY⟩;have XM:=(Aw.refl _ _).drew.t0 iY;refine hK _ w3 (λh=>Jk h Do) ?_;clear hK Hf;refine Bb rfl (λK hK=>?_);go_simp;refine hK _ w3 (λh=>Jk h Do) ?_;clear hK c4 c5;simp only[Ct];replace c1:=AH XM c1;replace c2:=AH XM c2;have c3:w3.cell? ⟨g.b,4,Z⟩=U (iI x.Bq):=(Agq.mod XM).b.cell 4;have vB:=D (Hm.t0 XM);clear iY XM Hm Agq;cases hb:x.parts v with
      |true=>
       have NL:iA rs Du CF=V:=Ai7 (by rw[SB.out];exact Fg.out) (Hxy.trans (by rw[hb];rfl));exact ma1
      |false=>
       by_cases hs:J y.Al<x.Bq
       .have NL:iA rs Du CF=V:=Ai7 (by rw[SB.out];exact Fg.out) (Hxy.trans (by rw[JC hs,Bool.or_true]));exact ma1
       .have Hb:=D hb;have Hs:=D hs;clear hb;go_upto_region 13 with fail
        go_quiet (fail)
        go_wp2_with fail;go_roundw;case rel=>
         refine⟨j+1,by rw[inc trivial];rfl,Fg,vB.drewN _,λk hk=>?_⟩;rcases J9.1 hk with h|rfl
         .exact Kb.out k h
         .rw[Hxy.out,Hb.out,Ju Hs.out];rfl
        case measure=>have:=Fg.out;rw[inc trivial];simp only[intOf];omega
     .have Cy:¬j<(T:Int):=Y
      have NL:iA rs Du CF=I:=vm λu hu=>Da u (by have:=SB.out;omega)
      have Hgo:=D (wJ (P:=P) (ah:=ah) (F:=F) (cs:=cs) Hd2 kr NL);have Hm:=D hm;clear Da hj hlt NL hm X8 Hs2 Hzl Hzo kr Hd2;go_wp2_with fail;clear Cy;go_loopw [16,17,18,19,20,21] (λi _ _ _ _ _ wr=>∃j:Nat,i= iI j/\j<=T/\Af w E wr E/\∀u,u<j->aK P ah F rs cs Du (ms.drop (k'+1)) u=I) (λi _ _ _ _ _ _=>T-(intOf i).toNat);case atStart=>exact⟨0,rfl,Jo _,Af.quiet H Hm,λu hu=>Jk hu (NE u)⟩
      case round=>
       clear Hm;obtain⟨j,rfl,hj,hs,Da⟩:=hrel;by_cases hlt:j<T
       .have Cy:j<(T:Int):=Y
        have hj0:0<=(j:Int):=Y
        have inc:True->wrap64 (j+1)=(j+1):=λ_=>IntWalk.wrap64_in _ (by have:=HT.out;omega)
        have hE:=hs.Ak.hl;obtain⟨qb,g,eq,c1,hg,IG⟩:=Yg HR hE (by rw[SB.out];exact hlt);obtain⟨ds,hsn⟩:=Hsn.out;obtain⟨ab,d,ea,c2,_,_⟩:=Yf hsn hE (by rw[Hyl.out];exact hlt);obtain⟨hb,aa,eh,c3,UG⟩:=HS.Als hE hlt;have hov:=Abw E q gs rs HR aa (ah.getD j []) UG (by rw[HS.out.abl j hlt,SB.out]) (by have:=HT.out;have:=SB.out;omega) _ hE;rw[SB.out] at hov;have Hov:=D hov;have vA:=D (HR.run j g hg);obtain⟨x,hx⟩:∃x,x=rs.getD j .start:=⟨_,rfl⟩;obtain⟨y,hy⟩:∃y,y=Du.getD j ⟨[],0⟩:=⟨_,rfl⟩;rw[<-hx] at IG vA;rw[<-hy] at c2;have c4:=(Y2 IG).b.cell 5;have c5:=(Y2 IG).b.cell 3;replace c4:World.cell? _ ⟨g.b,5,Z⟩=U (iI x.An):=c4;replace c5:World.cell? _ ⟨g.b,3,Z⟩=U (qD g.o.p (J x.Al) g.o.c):=c5;rw[eq,ea,eh];rw[eq] at Hov;have Kb:=D Da;have Fg:=D hlt;have FZ:=D hs;have Hx:=D hx;have Hy:=D hy;have Hg:=D hg;have Heq:=D eq;have Heh:=D eh;clear Da hj hlt hg eq ea eh hx hy hsn hs hov UG hE IG;go_wp2_with fail;refine Hov.mono ?_;rintro e w3 ⟨rfl,rfl⟩;clear Hov c3;cases ho:U8 rs (ah.getD j []) with
        |false=>
         have Hn:=D (iy (P:=P) (F:=F) (cs:=cs) (Du:=Du) (rest:=ms.drop (k'+1)) (.inl ho));clear ho;exact mat
        |true=>
         have HO:=D ho;clear ho;by_cases h0:x.An=0
         .have Z7:(x.An !=0)=I:=by simp[h0]
          have H0:=D h0;clear h0;by_cases hl:J y.Al<J x.Al
          .have Hn:=D (iy (P:=P) (ah:=ah) (F:=F) (cs:=cs) (rest:=ms.drop (k'+1)) (.inr (.inr (by rw[<-Hx.out,<-Hy.out];exact hl))));exact mat
          .have Hle:=D hl;go_upto_region 19 with fail
           go_quiet (fail)
           have s4:=FZ.drewN nq;obtain⟨u,cs',Ak2,AkU,huo,oz⟩:=HF.out j (by rw[SB.out];exact Fg.out) (by rw[<-Hx.out];exact H0.out) cs oa.out;have Hcp:=D (sD E g x vA (by have:=Ho.out j;rw[<-Hx.out] at this;omega) _ s4.Ak);have Hbk:=D Ak2;have Hcs:=D AkU;have Huo:=D huo;have HF2:=D oz;rw[<-Hx.out] at Hbk;have S4:=D s4;clear s4 Ak2 AkU huo oz FZ c2 c4 c5 hl Z7;go_upto_region 21 with(go_at_call 49;refine Hcp.mono ?_;rintro e w5 ⟨g2,rfl,bt⟩)
           have hv:=bt.Ak.holds _ (Jc _ HC);replace hv:w5.ownsRow 0 2 1 (qD c.p n c.c) n (BZ cs):=by rw[<-oa.out];exact hv
           have S5:=D (S4.trans bt);have HV:=D hv;obtain⟨i0,hi,Kc⟩:=Ji.1 KQ;simp only[Prod.mk.injEq] at Kc;obtain⟨I6,K6,LQ⟩:=Kc;clear bt Hcp c1 S4 hv;go_upto_region 22 with(first|(at_builtin;refine Km 8 _ _ _ i0 _ S5.Ak HV rfl Eq underlying31 hi I6 K6 LQ rfl Eq Eq (Vb _) (by have:=Hn.out;unfold maxLen;omega) (by have:=Hn.out;omega) ?_;intro mm w6 hs6)|fail)
           have s6:=(S5.trans hs6).tY (jI).symm;have e6:Ob.row (qD mm.p n mm.c) 2 1 n (BZ cs)=BD mm cs:=by unfold BD;rw[oa.out]
           rw[e6] at s6;have LU:∀o,o∈E->o∈g2.run x++BD mm cs::E:=λo ho=>Jc _ (.tail _ ho)
           obtain⟨p1,p2,tb,ta,p3,p4,Vw⟩:=HS.p.at (λo ho=>s6.Ak.hl o (LU o ho)) (by rw[HS.out.tl];exact Fg.out);have ES:=zv (P.getD j []) ta E Vw (HS.p.nl j) g2 mm x u cs cs' (by have:=oa.out;have:=Hn.out;omega) w6 s6.Ak Hbk.out;rw[oa.out] at ES;rw[HS.out.tl,p3] at p1;have S6:=D s6;have Hbl:=D ES;clear hs6 s6 ES Vw LU S5 HV e6 p3 hi I6 K6 LQ;go_upto_region 23 with(go_at_call 28;refine Hbl.mono ?_;rintro e w7 ⟨rfl,o2,hs7⟩)
           have LU:∀o,o∈E->o∈NG.run {g2 with o:=o2} u++BD mm cs'::E:=λo ho=>Jc _ (.tail _ ho)
           have hv:=hs7.Ak.holds _ (LU _ HR.row);replace hv:w7.ownsRow 0 70 1 (qD (U ⟨qb,0,Z⟩) T q.c) T (gs.map NG.ptr):=by rw[<-SB.out,<-Heq.out];exact hv
           have S7:=D (S6.trans hs7);have HV:=D hv;obtain⟨i0,hi,Kc⟩:=Ji.1 eg;simp only[Prod.mk.injEq] at Kc;obtain⟨I6,K6,LQ⟩:=Kc;clear hs7 LU S6 hv p1 p2 p4 Hbl;go_upto_region 24 with(first|(at_builtin;refine Km 8 _ _ _ i0 _ S7.Ak HV rfl Eq underlying80 hi I6 K6 LQ rfl Eq Eq (AhF _) (by have:=HT.out;unfold maxLen;omega) (by have:=HT.out;omega) ?_;intro m2 w8 hs8)|fail)
           have DH:w8.ownsRow 0 70 1 (qD m2.p T m2.c) T (gs.map NG.ptr):=hs8.Ak.holds _ (.head _);have hgl:J gs=T:=by rw[HR.out.len,SB.out]
           obtain⟨rb,er,r1⟩:=Nf DH (by rw[JR,Hg.out];rfl);rw[er] at DH;have r2:=(AZ DH).2.1 j;have s8:=hs8.trans (hs8.Ak.Eu (i:=0) (by rw[er];rfl) j (by rw[JY,hgl];exact Fg.out) (iJ g2.b));have S8:=D (S7.trans s8);rw[er];clear hs8 s8 DH hgl er HV hi I6 K6 LQ;go_upto_region 25 with fail
           clear r1 r2;obtain⟨g3,hg3⟩:∃z,z=NG.mk g2.b g2.v g2.d o2:=⟨_,rfl⟩;obtain⟨E9,hE9⟩:∃z,z=Ob.row (qD (U ⟨rb,0,Z⟩) T m2.c) 70 1 T ((gs.map NG.ptr).set j (iJ g2.b))::(g3.run u++BD mm cs'::E):=⟨_,rfl⟩;have s9:Af w E (w8.setCell ⟨rb,j,Z⟩ (iJ g2.b)) E9:=by rw[hE9,hg3];exact S8.out
           generalize w8.setCell _ _=w9 at s9⊢;have LU:∀o,o∈E->o∈E9:=λo ho=>by rw[hE9];exact .tail _ (Jc _ (.tail _ ho))
           have hrn:=HR.next (by rw[SB.out];exact Fg.out) LU (λo ho=>by rw[hE9];exact .tail _ (IR _ ho)) (by rw[hE9,SB.out,show g3.ptr= iJ g2.b by rw[hg3];rfl];exact .head _);have hih:=Ih.out E9 w9 ⟨U ⟨rb,0,Z⟩,m2.c⟩ (gs.set j g3) (rs.set j u) mm cs' (U ⟨L.mb,k',Z⟩) mk' k' m' (HS.mono LU) hrn (by rw[Jp];exact SB.out) (by rw[hE9];exact .tail _ (Jc _ (.head _))) Hcs (λt=>by
             rw[B4 _ _ _ _ _ (by rw[SB.out];exact Fg.out)];split
             · exact Huo.out
             · exact Ho.out t) Hk' (λ_=>rfl) Hm' HF2 s9.Ak
           rw[Heh.out,Hdc.out] at hih;have hcg:=Af7 (F:=F) (rest:=ms.drop (k'+1)) HO (by rw[<-Hx.out];exact H0.out) (by rw[<-Hx.out,<-Hy.out];exact Hle.out) (by rw[<-Hx.out];exact Hbk.out);obtain⟨bb,hbb⟩:∃b,b=DL P ah F (rs.set j u) cs' (Du::ms.drop (k'+1)):=⟨_,rfl⟩;rw[<-hbb] at hih hcg;have S9:=D s9;have Hih:=D hih;have Hcg:=D hcg;have HE9:=D hE9;clear s9 hih hcg hE9 LU hrn S8 Hdc hg3 hbb;go_upto_region 26 with(go_at_call 32;refine Hih.mono ?_;rintro e w10 ⟨rfl,my⟩)
           have Aks:Af w E w10 E:=(S9.trans my).trans (by
             have e:E9=[]++(Ob.row (qD (U ⟨rb,0,Z⟩) T m2.c) 70 1 T ((gs.map NG.ptr).set j (iJ g2.b))::(g3.run u++[BD mm cs']))++E:=by rw[HE9.out];simp
             have:=my.Ak;rw[e] at this⊢;exact Af.drop this)
           have S11:=D Aks;clear my Aks S9 Hih HE9;cases bb with
           |true=>
            have Hf:=D (Hgo.trans (Ai7 (by rw[SB.out];exact Fg.out) Hcg));go_wp2;go_ret;exact⟨by rw[Hf.out];rfl,S11⟩
           |false=>
            have Hn:=Hcg;go_wp2_with fail;go_roundw;case rel=>exact⟨j+1,by rw[inc trivial];rfl,Fg,S11,λk hk=>(J9.1 hk).elim (Kb k) (λe=>e▸Hn.out)⟩
            case measure=>have:=Fg.out;rw[inc trivial];simp only[intOf];omega
         .have Z7:(x.An !=0)=V:=by simp[h0]
          have Hn:=D (iy (P:=P) (ah:=ah) (F:=F) (cs:=cs) (Du:=Du) (rest:=ms.drop (k'+1)) (.inr (.inl (by rw[<-Hx.out];exact h0))));clear h0;exact mat
       .have Cy:¬j<(T:Int):=Y
        have SN:(List.range (J rs)).any (aK P ah F rs cs Du (ms.drop (k'+1)))=I:=vm λu hu=>Da u (by have:=SB.out;omega)
        have Hf:=D (Hgo.trans SN);have FZ:=D hs;clear Da hj hlt SN hs;go_wp2;go_ret;exact⟨by rw[Hf.out];rfl,FZ⟩
  .have Z7:¬0<(m':Int):=Y
   have Ak7:((m':Int)==0)=V:=by simp;omega
   have B0:DL P ah (F+1) rs cs (ms.drop k)=V:=by
    have e:ms.drop k'=[]:=List.drop_eq_nil_of_le Y;rw[e] at hd;exact pC hd
   have zW:=D B0;have Hm:=D hm;clear B0 LS eA hm hd XI h0;go_wp2_with fail;go_ret;exact⟨by rw[zW.out];rfl,Af.quiet H Hm⟩
theorem Y1 (L:cD) (P:List (List Nd)) (ah:List (List Bool)) (ms:List (List Cq)) (T n:Nat) (hT:T<=1000) (hn:n<=1000000):∀F,Ad5 L P ah ms T n F
 |0=>λ_ _ _ _ _ _ _ _ _ _ _ _ _ _ _ _ _ _ _ _ hF _=>hF.elim
 |F+1=>lf L P ah ms T n F hT hn (Y1 L P ah ms T n hT hn F)
theorem Ae9 {t:TypeId} {by_:Nat} (ht:prog.underlying t=U (.slice e)) (hi:(prog.info? e).map (λi=>(i.zero,i.size,i.bytes))=U (U z,1,by_)) (hz:z.cells= #[z]) (n:Nat) (hb:by_*n<=1000000000) (hn:n<=1000000000) (W:World):
  (Instr.makeSlice t (iI (n:Int)) (iI (n:Int))).run prog W=.ok (qD (U ⟨W.heap.size,0,Z⟩) n n) (W.alloc (qK (Array.replicate n z) e)):=by
 rw[run_make_row' t e z by_ ht hi hz .i64 .i64 n (Qb hb Y) Y W];exact mbO
theorem Yh (h:Aq w L) {n:Nat} {z:Value} {T:TypeId} (hn:n<=1000000000):Af w L (w.alloc (qK (Array.replicate n z) T)) (.row (qD (U ⟨w.heap.size,0,Z⟩) n n) T 1 n (List.replicate n z)::L):=by
 have:=newRow h (n:=n) (c:=Array.replicate n z) (T:=T) EQ (by unfold maxLen;omega);simpa using this
theorem cg (L:cD) (P:List (List Nd)) (ah:List (List Bool)) (ms:List (List Cq)) (T n F:Nat) (hT:T<=1000) (hn:n<=1000000) (E:List Ob) (hS:iK E L P ah ms T) (hx:L.x1= iI n) (rs:List RR) (FQ:J rs=T) (Ue:∀t,t<T->∃m,Fl (P.getD t []) m .start (rs.getD t .start)) (ho:∀t,(rs.getD t .start).Al.length<=60000) (hF:SrT P n F rs) (hmc:J ms<=L.mc) (w:World) (h:Aq w E):
  Calls prog 17 #[iJ L.pb,qD (U ⟨L.mb,0,Z⟩) (J ms) L.mc,qD L.ap.p T L.ap.c] w λe w'=>e= qJ (qF (DL P ah F rs (List.replicate n 0) ms))/\Af w E w' E:=by
 have H:=D h;have HS:=D hS;have Hx:=D hx;have SB:=D FQ;have Hlo:=D Ue;have Ho:=D ho;have HF:=D hF;have Hmc:=D hmc;have HT:=D hT;have Hn:=D hn;clear h hS hx FQ Ue ho hF hmc hT hn;go_enter func17,ntmps17;go_wp2_with fail;go_loopw [7,8,9] (λv i _ wr=>∃(j:Nat) (q:SG) (gs:List NG) (X:List Ob),i= iI j/\v= qD q.p j q.c/\j<=T/\J gs=j/\Af w E wr (.row (qD q.p j q.c) 70 1 j (gs.map NG.ptr)::(X++E))/\∀(t:Nat) (g:NG),gs[t]?=U g->∀o,o∈g.run (rs.getD t .start)->o∈X) (λ_ i _ _=>T-(intOf i).toNat);case atStart=>exact⟨0,⟨Z,0⟩,[],[],rfl,rfl,Jo _,rfl,Af.Ig (A:=[]) H _ _,λt g h=>by simp at h⟩
 case round=>
  obtain⟨j,q,gs,X,rfl,rfl,hj,hgl,hs,IG⟩:=hrel;have LU:∀o,o∈E->o∈Ob.row (qD q.p j q.c) 70 1 j (gs.map NG.ptr)::(X++E):=λo ho=> .tail _ (Jc _ ho)
  have hpg:=(hs.Ak.Aga (LU _ HS.p.pg));have p0:wr.cell? ⟨L.pb,0,Z⟩=U (qD L.tp.p T L.tp.c):=by rw[<-HS.out.tl];exact hpg.cell 0
  have p1:wr.cell? ⟨L.pb,1,Z⟩=U (iI n):=by rw[<-Hx.out];exact hpg.cell 1
  by_cases hlt:j<T
  .have Cy:j<(T:Int):=Y
   have hj0:0<=(j:Int):=Y
   have inc:True->wrap64 (j+1)=(j+1):=λ_=>IntWalk.wrap64_in _ (by have:=HT.out;omega)
   obtain⟨d0,d1,tb,ta,e3,c1,Vw⟩:=(HS.p.mono LU).at hs.Ak.hl (by rw[HS.out.tl];exact hlt);obtain⟨m,hm⟩:=Hlo.out j hlt;have hbg:=zy (P.getD j []) ta _ Vw (HS.p.nl j) (rs.getD j .start) m wr hs.Ak hm;rw[e3] at p0;have Hbg:=D hbg;have Hs:=D hs;have Fg:=D hlt;have Hgl:=D hgl;have Agq:=D IG;obtain⟨i0,hi,Kc⟩:=Ji.1 eg;simp only[Prod.mk.injEq] at Kc;obtain⟨I6,K6,LQ⟩:=Kc;have mG:j+1<=maxLen:=by have:=HT.out;unfold maxLen;omega
   have MT:(j+1)*8<=140737488355328:=by have:=HT.out;omega
   clear hbg hs hlt hgl IG hj LU hpg Vw e3 hm d0 d1;go_upto_region 6 with(go_at_call 27;refine Hbg.mono ?_;rintro e w5 ⟨g2,rfl,bt⟩)
   have S5:=D (Hs.trans bt);clear bt Hs Hbg p0 p1 c1;go_wp2_with (first|(at_builtin;refine A6 8 _ _ _ i0 _ #[iJ g2.b] _ S5.Ak (k:=4) rfl Eq Eq underlying80 hi I6 K6 LQ rfl Y Eq Eq rfl (by simp[Value.oneCell']) mG MT ?_;intro g6 AI w6 Ay _;have S6:=D (S5.trans Ay);clear Ay)|fail);go_roundw;case rel=>
    refine⟨j+1,⟨U ⟨g6,0,Z⟩,AI⟩,gs++[g2],g2.run (rs.getD j .start)++X,Eq,rfl,Fg,by rw[GT,Hgl.out];rfl,?_,λt g hg o ho=>?_⟩
    .have:=S6.out;refine this.tY ?_;rw[JH];exact(jI (l₁:=g2.run (rs.getD j .start))).trans (by rw[Jj];exact List.Perm.refl _)
    .rcases jA t j with h1|h1|h1
     .rw[JT (by rw[Hgl.out];exact h1)] at hg;exact Jc _ (Agq t g hg o ho)
     .subst h1;rw[JL (by rw[Hgl.out];exact Jf _),Hgl.out,Qy] at hg;cases hg;exact IR _ ho
     .rw[QC (by rw[GT,Hgl.out];show _<=t;simp;omega)] at hg;cases hg
   case measure=>have:=Fg.out;simp only[intOf];omega
  .have Cy:¬j<(T:Int):=Y
   have hjT:j=T:=Y
   subst hjT;have gV:=Ae9 underlying31 KQ rfl n (by have:=Hn.out;omega) (by have:=Hn.out;omega) wr;have hnz:=Yh (n:=n) (z:= iI 0) (T:=2) hs.Ak (by have:=Hn.out;omega);have hs9:=hs.trans hnz;have AkL:∀o,o∈E->o∈Ob.row (qD (U ⟨wr.heap.size,0,Z⟩) n n) 2 1 n (List.replicate n (iI 0))::Ob.row (qD q.p j q.c) 70 1 j (gs.map NG.ptr)::(X++E):=λo ho=> .tail _ (LU o ho)
   have hrn:RT (Ob.row (qD (U ⟨wr.heap.size,0,Z⟩) n n) 2 1 n (List.replicate n (iI 0))::Ob.row (qD q.p j q.c) 70 1 j (gs.map NG.ptr)::(X++E)) q gs rs:=⟨by rw[hgl,SB.out],by rw[SB.out];exact .tail _ (.head _),λt g hg o ho=> .tail _ (.tail _ (IR _ (IG t g hg o ho)))⟩;have KT:BD ⟨U ⟨wr.heap.size,0,Z⟩,n⟩ (List.replicate n 0)∈Ob.row (qD (U ⟨wr.heap.size,0,Z⟩) n n) 2 1 n (List.replicate n (iI 0))::Ob.row (qD q.p j q.c) 70 1 j (gs.map NG.ptr)::(X++E):=by
    unfold BD BZ;rw[J1,jX];exact .head _
   have hse:=Y1 L P ah ms j n HT Hn F _ _ q gs rs ⟨U ⟨wr.heap.size,0,Z⟩,n⟩ (List.replicate n 0) (U ⟨L.mb,0,Z⟩) L.mc 0 (J ms) (HS.mono AkL) hrn SB KT J1 Ho (JU _) (λ_=>rfl) Hmc HF hs9.Ak;have Hse:=D hse;have S9:=D hs9;clear hse hs9 hnz AkL hrn KT hs IG hgl LU hpg hlt hj;go_upto_region 8 with fail
   clear gV;go_wp2_with (go_at_call 32;refine Hse.mono ?_;rintro e w10 ⟨rfl,my⟩);go_ret;have e:Ob.row (qD (U ⟨wr.heap.size,0,Z⟩) n n) 2 1 n (List.replicate n (iI 0))::Ob.row (qD q.p j q.c) 70 1 j (gs.map NG.ptr)::(X++E)=[]++(Ob.row (qD (U ⟨wr.heap.size,0,Z⟩) n n) 2 1 n (List.replicate n (iI 0))::Ob.row (qD q.p j q.c) 70 1 j (gs.map NG.ptr)::X)++E:=rfl;have h10:=S9.trans my;refine⟨rfl,h10.trans ?_⟩;have:=h10.Ak;rw[e] at this⊢;exact Af.drop this

theorem P8 (h:Aq w (MO F gs M E)) (ho:cF gs M):w.cell? ⟨F.mb,1,Z⟩=U (qD F.t.p (J M.ts) F.t.c)/\F.mb<w.heap.size:=by
 have hb:=h.Ao (i:=0) rfl;refine⟨?_,hb.lt⟩;have:=hb.cell 1;rw[show(gs.map H9.ptr).length=J M.ts by rw[JY,ho.gl]] at this;exact this
theorem lP (h:Aq w (MO F gs M E)) (ho:cF gs M) {k:Nat} (hk:k<J M.ts):
  ∃(x:H9) (b:Nat),F.t.p=U ⟨b,0,Z⟩/\w.cell? ⟨b,k,Z⟩=U (iJ x.tb)/\w.cell? ⟨x.tb,4,Z⟩=U (qD x.o.p (M.th k).out.length x.o.c)/\w.cell? ⟨x.tb,5,Z⟩=U (iI (M.th k).An)/\x.tb<w.heap.size/\BD x.o (M.th k).out∈MO F gs M E:=by
 obtain⟨x,hx,ht⟩:=Agf ho hk;have hp:=Sj (F:=F) (E:=E) hx ht;have h1:=(Af.Kl h hp).Ak;have hb:=h1.Ao (i:=0) (b:=x.tb) rfl;obtain⟨b,e,hc⟩:=Nf (p:=F.t.p) (h1.row (i:=7) rfl) (by rw[JR,hx];rfl);exact⟨x,b,e,hc,hb.cell 4,hb.cell 5,hb.lt,hp.mem_iff.2 (IR _ (.tail _ (.tail _ (.tail _ (.tail _ (.head _))))))⟩
theorem YZ (d:SG) (s:Cq) (h:J ds=J m):FH (ds++[d]) (m++[s])=FH ds m++tR d s:=by
 unfold FH;rw[Qz h];simp
theorem yq:(prog.info? 41).map (λi=>(i.zero,i.size,i.bytes))=U (U (qH #[qD Z 0 0,iI 0]),2,32):=Fd
theorem pA (j:Nat) (M:Am):DX (j+1) M=DX j M++[⟨(M.th j).out,(M.th j).An⟩]:=by
 unfold DX;rw[m7,JH];rfl
theorem It (j:Nat) (M:Am):(DX j M).length=j:=by unfold DX;simp
def Alz (L:List Ob) (m:List Cq) (w:World) (e:Ending) (w':World):Prop:=∃(a:SG) (ds:List SG) (X:List Ob),e= qJ (qD a.p (J m) a.c)/\Af w L w' (X++L)/\Lj X a ds m
theorem kY (F:VG) (gs:List H9) (M:Am) (E:List Ob) (ho:cF gs M) (Wv:∀t,(M.th t).out.length<=1000000000) (w:World) (h:Aq w (MO F gs M E)):
  Calls prog 14 #[iJ F.mb] w (Alz (MO F gs M E) (DX (J M.ts) M) w):=by
 have H:=D h;have HO:=D ho;have Hol:=D Wv;clear h ho Wv;go_enter func14,ntmps14;go_wp2_with fail;go_loopw [3,4,5] (λv i _ wr=>∃(j:Nat) (q:SG) (ds:List SG) (X:List Ob),i= iI j/\v= qD q.p j q.c/\j<=J M.ts/\J ds=j/\Af w (MO F gs M E) wr (.row (qD q.p j q.c) 41 2 j (FH ds (DX j M))::(X++MO F gs M E))/\∀(t:Nat) (d:SG),ds[t]?=U d->BD d (M.th t).out∈X) (λ_ i _ _=>J M.ts-(intOf i).toNat);case atStart=>exact⟨0,⟨Z,0⟩,[],[],rfl,rfl,Jo _,rfl,Af.Ig (A:=[]) H _ _,λt d h=>by simp at h⟩
 case round=>
  obtain⟨j,q,ds,X,rfl,rfl,hj,hdl,hs,hX⟩:=hrel;have hE:Aq wr (MO F gs M E):=(hs.trans (Af.drop (A:=[]) (B:=.row (qD q.p j q.c) 41 2 j (FH ds (DX j M))::X) hs.Ak)).Ak;obtain⟨p1,p2⟩:=P8 hE HO.out;have hT3:=HO.tl;by_cases hlt:j<J M.ts
  .have Cy:j<(J M.ts:Int):=Y
   have hj0:0<=(j:Int):=Y
   have inc:True->wrap64 (j+1)=(j+1):=λ_=>IntWalk.wrap64_in _ Y
   obtain⟨x,tb,et,c1,c4,c5,lt5,DH⟩:=lP hE HO hlt;rw[et] at p1;have hv:wr.ownsRow 0 2 1 (qD x.o.p (M.th j).out.length x.o.c) (M.th j).out.length (BZ (M.th j).out):=hE.holds _ DH;have hl9:=Hol.out j;have Hs:=D hs;have HV:=D hv;have Fg:=D hlt;have kr:=D hdl;have HX:=D hX;have Hl9:=D hl9;obtain⟨i0,hi,Kc⟩:=Ji.1 KQ;simp only[Prod.mk.injEq] at Kc;obtain⟨I6,K6,LQ⟩:=Kc;obtain⟨s0,Tj⟩:∃z,z=M.th j:=⟨_,rfl⟩;rw[<-Tj] at c4 c5 HV Hl9;have HS0:=D Tj;clear hs hv hlt hdl hX hj hE DH hT3 hl9 Tj;go_upto_region 6 with(first|(at_builtin;refine Km 8 _ _ _ i0 _ Hs.Ak HV rfl Eq underlying31 hi I6 K6 LQ rfl Eq Eq (Vb _) (by have:=Hl9.out;unfold maxLen;omega) (by have:=Hl9.out;omega) ?_;intro m w2 K8)|fail)
   have S2:=D (Hs.trans K8);have hE2:Aq w2 (MO F gs M E):=(K8.trans (Af.drop (A:=[]) (B:=Ob.row (qD m.p (J s0.out) m.c) 2 1 (J s0.out) (BZ s0.out):: .row (qD q.p j q.c) 41 2 j (FH ds (DX j M))::X) K8.Ak)).Ak;clear p1 p2 c1 c4 c5 lt5 hi I6 K6 LQ K8;obtain⟨p1,p2⟩:=P8 hE2 HO.out;obtain⟨x,tb,et,c1,c4,c5,lt5,DH⟩:=lP hE2 HO Fg.out;rw[et] at p1;rw[<-HS0.out] at c4 c5;obtain⟨i0,hi,Kc⟩:=Ji.1 yq;simp only[Prod.mk.injEq] at Kc;obtain⟨I6,K6,LQ⟩:=Kc;have mG:j+1<=maxLen:=by have:=HO.tl;unfold maxLen;omega
   have MT:(j+1)*32<=140737488355328:=by have:=HO.tl;omega
   clear hE2 DH c4;go_wp2_with (first|(at_builtin;refine A6 32 _ _ _ i0 _ #[.slice m.p (J s0.out) m.c,iI s0.An] _ S2.Ak (k:=1) rfl Eq Eq underlying36 hi I6 K6 LQ rfl Y Eq Eq rfl (by simp[Value.oneCell']) mG MT ?_;intro g6 AI w6 Ay _;have S6:=D (S2.trans Ay);clear Ay)|fail);go_roundw;case rel=>
    refine⟨j+1,⟨U ⟨g6,0,Z⟩,AI⟩,ds++[m],BD m s0.out::X,Eq,rfl,Fg,by rw[GT,kr.out];rfl,?_,λt d hd=>?_⟩
    .rw[pA,<-HS0.out,YZ _ _ (kr.out.trans (It _ _).symm)];exact S6.tY (List.Perm.swap _ _ _)
    .rcases jA t j with h1|h1|h1
     .rw[JT (by rw[kr.out];exact h1)] at hd;exact .tail _ (HX t d hd)
     .subst h1;rw[JL (by rw[kr.out];exact Jf _),kr.out,Qy] at hd;cases hd;rw[<-HS0.out];exact .head _
     .rw[QC (by rw[GT,kr.out];simp;omega)] at hd;cases hd
   case measure=>have:=Fg.out;simp only[intOf];omega
  .have Cy:¬j<(J M.ts:Int):=Y
   have hjT:j=J M.ts:=Y
   subst hjT;have Hs:=D hs;have HX:=D hX;have kr:=D hdl;clear hs hX hdl hlt hj hE;go_wp2;go_ret;refine⟨q,ds,.row (qD q.p (J M.ts) q.c) 41 2 (J M.ts) (FH ds (DX (J M.ts) M))::X,by rw[It];rfl,Hs,⟨by rw[It];exact kr.out,by rw[It];exact .head _,λt d hd=> .tail _ ?_⟩⟩;have ht:t<J M.ts:=by have:=(Jm.1 hd).1;rw[kr.out] at this;exact this
   have e:(DX (J M.ts) M).getD t ⟨[],0⟩=⟨(M.th t).out,(M.th t).An⟩:=by unfold DX;rw[Ja,JR,List.getElem?_range ht];rfl
   rw[e];exact HX.out t d hd
theorem RC (j:Nat) (M:Am):Gg (j+1) M=Gg j M++[!decide ((M.th j).An=0) && decide ((M.th j).waits.length=0)]:=by
 unfold Gg;rw[m7,JH];rfl
theorem Up (j:Nat) (M:Am):(Gg j M).length=j:=by unfold Gg;simp
theorem vU (h:Aq w (MO F gs M E)) (ho:cF gs M) {k:Nat} (hk:k<J M.ts):
  Calls prog 45 #[iJ F.mb,iI k] w λe w'=>e= qJ (iI (M.th k).waits.length)/\w'=w:=by
 obtain⟨x,hx,ht⟩:=Agf ho hk;exact kD w (x.on F) (M.th k) M.mem (gs.map H9.ptr) _ k (Af.Kl h (Sj hx ht)).Ak (ho.fok hx ht)
def AnL (L:List Ob) (l:List Bool) (w:World) (e:Ending) (w':World):Prop:=∃a:SG,e= qJ (qD a.p (J l) a.c)/\Af w L w' (Bw a l::L)
theorem za (F:VG) (gs:List H9) (M:Am) (E:List Ob) (ho:cF gs M) (w:World) (h:Aq w (MO F gs M E)):
  Calls prog 30 #[iJ F.mb] w (AnL (MO F gs M E) (Gg (J M.ts) M) w):=by
 have H:=D h;have HO:=D ho;clear h ho;go_enter func30,ntmps30;go_wp2_with fail;go_loopw [3,4,5] (λv i _ wr=>∃(j:Nat) (q:SG),i= iI j/\v= qD q.p j q.c/\j<=J M.ts/\Af w (MO F gs M E) wr (.row (qD q.p j q.c) 4 1 j (DE (Gg j M))::MO F gs M E)) (λ_ i _ _=>J M.ts-(intOf i).toNat);case atStart=>exact⟨0,⟨Z,0⟩,rfl,rfl,Jo _,Af.Ig (A:=[]) H _ _⟩
 case round=>
  obtain⟨j,q,rfl,rfl,hj,hs⟩:=hrel;have hE:Aq wr (MO F gs M E):=(hs.trans (Af.drop (A:=[]) (B:=[.row (qD q.p j q.c) 4 1 j (DE (Gg j M))]) hs.Ak)).Ak;obtain⟨p1,p2⟩:=P8 hE HO.out;have hT3:=HO.tl;by_cases hlt:j<J M.ts
  .have Cy:j<(J M.ts:Int):=Y
   have hj0:0<=(j:Int):=Y
   obtain⟨x,tb,et,c1,c4,c5,lt5,DH⟩:=lP hE HO hlt;have Hwt:=D (vU hE HO hlt);rw[et] at p1;obtain⟨s0,Tj⟩:∃z,z=M.th j:=⟨_,rfl⟩;rw[<-Tj] at c5 Hwt;have HS0:=D Tj;have Hs:=D hs;have Fg:=D hlt;obtain⟨i0,hi,Kc⟩:=Ji.1 Ok;simp only[Prod.mk.injEq] at Kc;obtain⟨I6,K6,LQ⟩:=Kc;have mG:j+1<=maxLen:=by unfold maxLen;omega
   have MT:(j+1)*1<=140737488355328:=Y
   clear hs hlt hj hE DH hT3 Tj c4;go_upto_region 6 with(go_at_call 45;refine Hwt.mono ?_;rintro e w2 ⟨rfl,rfl⟩)
   clear Hwt;by_cases h0:s0.An=0
   .have Z7:(s0.An !=0)=I:=by simp[h0]
    have He:=D (show(!decide (s0.An=0) && decide (J s0.waits=0))=I by rw[JC h0];rfl);clear h0;go_wp2_with (first|(at_builtin;refine A6 1 _ _ _ i0 _ _ _ Hs.Ak (k:=0) rfl Eq Eq underlying51 hi I6 K6 LQ rfl Y Eq Eq rfl (by simp[Value.oneCell']) mG MT ?_;intro g6 AI w6 Ay _;have S6:=D (Hs.trans Ay);clear Ay)|fail);go_roundw;case rel=>
     exact maY
    case measure=>have:=Fg.out;simp only[intOf];omega
   .have Z7:(s0.An !=0)=V:=by simp[h0]
    by_cases h1:J s0.waits=0
    .have h1':((J s0.waits:Int)==0)=V:=by simp;exact List.length_eq_zero_iff.1 h1
     have He:=D (show(!decide (s0.An=0) && decide (J s0.waits=0))=V by rw[Ju h0,JC h1];rfl);clear h0 h1;go_wp2_with (first|(at_builtin;refine A6 1 _ _ _ i0 _ _ _ Hs.Ak (k:=0) rfl Eq Eq underlying51 hi I6 K6 LQ rfl Y Eq Eq rfl (by simp[Value.oneCell']) mG MT ?_;intro g6 AI w6 Ay _;have S6:=D (Hs.trans Ay);clear Ay)|fail);go_roundw;case rel=>
      refine⟨j+1,⟨U ⟨g6,0,Z⟩,AI⟩,Eq,rfl,Fg,?_⟩;rw[RC,<-HS0.out,He.out,show DE (Gg j M++[V])=DE (Gg j M)++[qF V] by unfold DE;rw[JH];rfl];exact S6.out
     case measure=>have:=Fg.out;simp only[intOf];omega
    .have h1':((J s0.waits:Int)==0)=I:=by simp;exact λh=>h1 (by rw[h];rfl)
     have He:=D (show(!decide (s0.An=0) && decide (J s0.waits=0))=I by rw[Ju h1,UV]);clear h0 h1;go_wp2_with (first|(at_builtin;refine A6 1 _ _ _ i0 _ _ _ Hs.Ak (k:=0) rfl Eq Eq underlying51 hi I6 K6 LQ rfl Y Eq Eq rfl (by simp[Value.oneCell']) mG MT ?_;intro g6 AI w6 Ay _;have S6:=D (Hs.trans Ay);clear Ay)|fail);go_roundw;case rel=>
      exact maY
     case measure=>have:=Fg.out;simp only[intOf];omega
  .have Cy:¬j<(J M.ts:Int):=Y
   have hjT:j=J M.ts:=Y
   subst hjT;have Hs:=D hs;clear hs hlt hj hE;go_wp2;go_ret;exact⟨q,by rw[Up];rfl,by unfold Bw;rw[Up];exact Hs.out⟩

theorem EY (Y:List Ob) (F:VG) (gs:List H9) (M:Am) (E:List Ob):(Y++MO F gs M E).Perm (MO F gs M (Y++E)):=by
 unfold MO;generalize F.Mj M.mem (gs.map H9.ptr)=A;generalize SE F gs M.ts=B;rw[show Y++(A++(B++E))=(Y++(A++B))++E by simp,show A++(B++(Y++E))=((A++B)++Y)++E by simp];exact QK E Qh
theorem AjG {g:RG} {R:RS} {p:RP} (hl:C5 g R) (hp:PS y p) (hR:R.p=p) {L:cD} (h1:L.pb=g.pb) (h2:L.tp=g.t) (h3:L.cv=g.cv) (h4:L.x1= iI R.p.cells) (h5:L.x2= qD g.u.p (J R.p.Ap) g.u.c) (h6:L.x3= qD g.q.p (J R.p.BX) g.q.c):sX (g.Az R).tail L p.Aa:=by
 subst hR;refine⟨?_,?_,by rw[h3];exact hl.cl,λt a ha=>?_,λt=>?_⟩
 .rw[h1,h2,h4,h5,h6];unfold RG.Az;simp
 .rw[h2,h3];unfold RG.Az;simp
 .rw[h3] at ha;obtain⟨hlt,hv⟩:=Jm.1 ha;have ht:t<J R.p.Aa:=by rw[<-hl.cl];exact hlt
  have:CM a (R.p.Aa.getD t [])∈List.zipWith CM g.cv R.p.Aa:=by
   rw[List.mem_iff_getElem?];exact⟨t,by rw[jE,ha,Jb ht,Ja,Jb ht];rfl⟩
  exact Jc [_,_,_,_,_,_,_,_,_] (IR _ this)
 .rw[hp.Aa,Ja,JR];cases hx:y.Aa[t]? with
  |none=>exact Jo _
  |some s=>
   show(Ca s 0 0).length<=_;rw[CX];have hm:=JZ hx;obtain⟨⟨c1,_⟩,c2⟩:=Sx hp s hm;have:=Mh s c1;omega
theorem Abq {p:RP} (h:PS y p):J p.Aa=J y.Aa:=by rw[h.Aa,JY]
theorem Ag4:∀o,o∈E->o∈MO F gs M E:=λo ho=>by unfold MO;exact Jc _ (Jc _ ho)
theorem TH {α:Type}:∀{g:List SG} {l:List (List α)} {t:Nat} (a:SG) (x:List α),J g=J l->A4 (g.set t a) (l.set t x)=(A4 g l).set t (qD a.p (J x) a.c)
 |[],[],_,_,_,_=>rfl
 |[],_::_,_,_,_,h=>by simp at h
 |_::_,[],_,_,_,h=>by simp at h
 |b::g,y::l,0,a,x,h=>rfl
 |b::g,y::l,t+1,a,x,h=>by
  have:=TH (t:=t) a x (by simpa using h);show qD b.p (J y) b.c::A4 (g.set t a) (l.set t x)=_;rw[this];rfl
theorem vz (p:E.Perm E'):(MO F gs M E).Perm (MO F gs M E'):=by
 unfold MO;exact Qi _ (Qi _ p)
structure iR (X:List Ob) (av:List SG) (ah:List (List Bool)) (T:Nat):Prop where
 al:J av=T
 hl:J ah=T
 ab:∀(t:Nat) (a:SG),av[t]?=U a->Bw a (ah.getD t [])∈X
theorem iR.mono (h:iR X av ah T) (s:∀o,o∈X->o∈X'):iR X' av ah T:=⟨h.al,h.hl,λt a e=>s _ (h.ab t a e)⟩
theorem iR.set (h:iR X av ah T) (ht:t<T) {a:SG} {x:List Bool} (hx:Bw a x∈X):iR X (av.set t a) (ah.set t x) T:=by
 refine⟨by rw[Jp];exact h.al,by rw[Jp];exact h.hl,λs b e=>?_⟩;rw[B4 _ _ _ _ _ (by rw[h.hl];exact ht)];by_cases hs:s=t
 .subst hs;rw[Qs,Jd rfl,Jd (by rw[h.al];exact ht)] at e;cases e;rw[Jd rfl];exact hx
 .rw[Qs,In (λh=>hs h.symm)] at e;rw[In hs];exact h.ab s b e
structure tj (X:List Ob) (mg:List SG) (md:List (List SG)) (ms:List (List Cq)):Prop where
 gl:J mg=J ms
 dl:J md=J ms
 sn:∀(i:Nat) (a:SG),mg[i]?=U a->Lj X a (md.getD i []) (ms.getD i [])
theorem tj.mono (h:tj X mg md ms) (s:∀o,o∈X->o∈X'):tj X' mg md ms:=⟨h.gl,h.dl,λi a e=>(h.sn i a e).mono s⟩
theorem LX {α:Type} {l:List α} {x d:α}:(l++[x]).getD i d=if i<J l then l.getD i d else if i=J l then x else d:=by
 rw[Ja,Ja];split
 .rename_i h;rw[JT h]
 .rename_i h;rw[JL Y];split
  .rename_i e;rw[e,Qy];rfl
  .rw[QC (by simp;omega)];rfl
theorem tj.kS (h:tj X mg md ms) {a:SG} {ds:List SG} {m:List Cq} (hs:Lj X a ds m):tj X (mg++[a]) (md++[ds]) (ms++[m]):=by
 refine⟨by simp[h.gl],by simp[h.dl],λi b e=>?_⟩;rw[LX,LX,h.dl];have hi:=(Jm.1 e).1;rw[GT,h.gl] at hi;have eC:i<J ms+1:=hi;by_cases hl:i<J ms
 .rw[Jd hl,Jd hl];rw[JT (by rw[h.gl];exact hl)] at e;exact h.sn i b e
 .have hie:i=J ms:=Y
  subst hie;rw[JL (by rw[h.gl];exact Jf _),h.gl,Qy] at e;cases e;rw[In hl,In hl,Jd rfl,Jd rfl];exact hs
theorem pO {Ab:Nat->List GI} {N:Nat} (h:IB Ab M N) (hN:N<=1000000000) (t:Nat):(M.th t).out.length<=1000000000:=by
 by_cases ht:t<J M.ts
 .exact Qb (h t ht).2 hN
 .unfold Am.th;exact mbR
theorem dk (h:∀t,(M.th t).out.length<=1000000000):((DX T M).getD t ⟨[],0⟩).Al.length<=1000000000:=by
 rw[Ja];cases hx:(DX T M)[t]? with
 |none=>exact Jo _
 |some z=>
  unfold DX at hx;rw[JR] at hx;cases hy:(List.range T)[t]? with
  |none=>rw[hy] at hx;cases hx
  |some u=>rw[hy] at hx;cases hx;exact h u
def Mx (ab bb T:Nat) (q:SG) (av mg:List SG) (s:fB):List Ob:=
 [.row (qD q.p (J s.ms) q.c) 36 1 (J s.ms) (A4 mg s.ms),.row (qD (U ⟨ab,0,Z⟩) T T) 51 1 T (A4 av s.ah),Zy bb T s.bg]
structure cC (F:VG) (T ab bb:Nat) (E0:List Ob) (Ab:Nat->List GI) (w0:World) (N K:Nat) (q:SG) (s:fB) (gs:List H9) (av mg:List SG) (md:List (List SG)) (X:List Ob) (wr:World):Prop where
 fr:VS w0 wr (Mx ab bb T q av mg s++MO F gs s.R (X++E0))
 ok:cF gs s.R
 tl:J s.R.ts=T
 run:IB Ab s.R N
 bl:J s.bg=T
 ah:iR X av s.ah T
 mm:tj X mg md s.ms
 abl:∀t,t<T->(s.ah.getD t []).length=T
 ml:∀i,i<J s.ms->(s.ms.getD i []).length=T
 mo:∀i t,((s.ms.getD i []).getD t ⟨[],0⟩).Al.length<=1000000000
 mn:J s.ms<=K
section
variable {F:VG} {T ab bb:Nat} {E0:List Ob} {Ab:Nat->List GI} {w0:World} {N K:Nat} {q:SG} {s:fB} {gs:List H9} {av mg:List SG} {md:List (List SG)} {X:List Ob} {wr:World} (h:cC F T ab bb E0 Ab w0 N K q s gs av mg md X wr)
include h
theorem cC.Mj:Aq wr (MO F gs s.R (Mx ab bb T q av mg s++(X++E0))):=(Af.Kl h.fr.Ak (EY _ F gs s.R _)).Ak
theorem cC.move {gs':List H9} {R':Am} (S:Af wr (MO F gs s.R (Mx ab bb T q av mg s++(X++E0))) w' (MO F gs' R' (Mx ab bb T q av mg s++(X++E0)))) (ok:cF gs' R') (tl:J R'.ts=T) (run:IB Ab R' N'):
  cC F T ab bb E0 Ab w0 N' K q {s with R:=R'} gs' av mg md X w':=
 ⟨((h.fr.step (Af.Kl h.fr.Ak (EY _ F gs s.R _))).step S).step (Af.Kl S.Ak (EY _ F gs' R' _).symm),ok,tl,run,h.bl,h.ah,h.mm,h.abl,h.ml,h.mo,h.mn⟩
theorem cC.lO {Y:List Ob} (S:Af wr (MO F gs s.R (Mx ab bb T q av mg s++(X++E0))) w' (Y++MO F gs s.R (Mx ab bb T q av mg s++(X++E0)))):cC F T ab bb E0 Ab w0 N K q s gs av mg md (Y++X) w':=by
 refine⟨((h.fr.step (Af.Kl h.fr.Ak (EY _ F gs s.R _))).step S).step (Af.Kl S.Ak ?_),h.ok,h.tl,h.run,h.bl,h.ah.mono λo ho=>Jc _ ho,h.mm.mono λo ho=>Jc _ ho,h.abl,h.ml,h.mo,h.mn⟩;refine(EY Y F gs s.R _).trans ((vz ?_).trans (EY _ F gs s.R _).symm);rw[Jj];refine(List.perm_append_comm_assoc ..)
theorem cC.beg (ht:t<T):cC F T ab bb E0 Ab w0 N K q {s with bg:=s.bg.set t V} gs av mg md X (wr.setCell ⟨bb,t,Z⟩ (qF V)):=by
 have st:=h.fr.Ak.Eu (i:=2) rfl t (by rw[JY,h.bl];exact ht) (qF V);refine⟨?_,h.ok,h.tl,h.run,by show(s.bg.set t V).length=T;rw[Jp];exact h.bl,h.ah,h.mm,h.abl,h.ml,h.mo,h.mn⟩;have:=h.fr.step st;unfold Mx Zy at this⊢;dsimp only;rw[Qx];exact this
theorem cC.ahd (ht:t<T) {a:SG} {l:List Bool} (hl:J l=T) (hx:Bw a l∈X):cC F T ab bb E0 Ab w0 N K q {s with ah:=s.ah.set t l} gs (av.set t a) mg md X (wr.setCell ⟨ab,t,Z⟩ (qD a.p T a.c)):=by
 have st:=h.fr.Ak.Eu (i:=1) rfl t (by rw[BT _ _ (h.ah.al.trans h.ah.hl.symm),h.ah.hl];exact ht) (qD a.p T a.c);refine⟨?_,h.ok,h.tl,h.run,h.bl,h.ah.set ht hx,h.mm,λu hu=>?_,h.ml,h.mo,h.mn⟩
 .have:=h.fr.step st;unfold Mx at this⊢;dsimp only;rw[TH _ _ (h.ah.al.trans h.ah.hl.symm),hl];exact this
 .show((s.ah.set t l).getD u []).length=T;rw[B4 _ _ _ _ _ (by rw[h.ah.hl];exact ht)];split
  .exact hl
  .exact h.abl u hu
theorem cC.kS {g c:Nat} (S:Af wr (Mx ab bb T q av mg s++MO F gs s.R (X++E0)) w' ((Mx ab bb T q av mg s++MO F gs s.R (X++E0)).set 0 (.row (qD (U ⟨g,0,Z⟩) (J s.ms+1) c) 36 1 (J s.ms+1) (A4 mg s.ms++[qD a.p T a.c])))) (hs:Lj X a ds m) (hm:J m=T) (ho:∀t,(m.getD t ⟨[],0⟩).Al.length<=1000000000):
  cC F T ab bb E0 Ab w0 N (K+1) ⟨U ⟨g,0,Z⟩,c⟩ {s with ms:=s.ms++[m]} gs av (mg++[a]) (md++[ds]) X w':=by
 refine⟨?_,h.ok,h.tl,h.run,h.bl,h.ah,h.mm.kS hs,h.abl,λi hi=>?_,λi t=>?_,by have:=h.mn;show(s.ms++[m]).length<=_;rw[GT];show _+1<=_;omega⟩
 .have:=h.fr.step S;unfold Mx at this⊢;dsimp only;rw[Bm _ _ _ _ h.mm.gl,hm,GT];exact this
 .show((s.ms++[m]).getD i []).length=T;rw[LX];have eC:=hi;rw[GT] at eC;have hi2:i<J s.ms+1:=eC;split
  .rename_i h1;exact h.ml i h1
  .rename_i h1;rw[Jd Y];exact hm
 .show(((s.ms++[m]).getD i []).getD t ⟨[],0⟩).Al.length<=_;rw[LX];split
  .exact h.mo i t
  .split
   .exact ho t
   .exact Jo _
theorem cC.le {K':Nat} (hN:N<=N') (hK:K<=K'):cC F T ab bb E0 Ab w0 N' K' q s gs av mg md X wr:=⟨h.fr,h.ok,h.tl,λk hk=>⟨(h.run k hk).1,Qb (h.run k hk).2 hN⟩,h.bl,h.ah,h.mm,h.abl,h.ml,h.mo,Qb h.mn hK⟩
end
