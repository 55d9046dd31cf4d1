/- Part 16 of the proof. -/
import Derived.Test.YtpdfifdlhpmofaaGreatDoorC15
import Derived.Test.YtpdfifdlhpmofaaGreatDoorC09
import Derived.Test.YtpdfifdlhpmofaaGreatDoorC05
set_option linter.unusedVariables false
set_option linter.unusedSimpArgs false
set_option maxHeartbeats 0
set_option maxRecDepth 99999
namespace Go.Proofs.YtpdfifdlhpmofaaGreatDoor
open Go.RowKit
open Value renaming slice->m9,string->qA,bool->qB,tuple->qC,agg->qD,pointer->qE
open Ending renaming returned->qF
open Obj renaming cells->qG
open Option renaming none->Z,some->U
open Bool renaming true->V,false->I
open Go.Lib renaming hid->D
open List renaming length->J
theorem mbw {p:Prop} (h:p:=by
 refine((Dx.FQ (a:=0) (b:=0) ?_ (VW hl hb 2 Y)).FQ (b:=0) ?_)
 .exact .GP hl nV
 .exact .GP hl nV):p:=h
theorem mbE {p:Prop} (h:p:=by
 simp only[Jl,not_or] at h;rw[Jx,HU _ _ _ AC,ih h.2];rfl):p:=h
variable {w:World} {A:List Ob} {k v B5 cells:Int} {a:Ag} {l:List LI} {b:Nat} {p:RP} {y:qH}
theorem GS.cZ (i:Nat) (g:GS):(GS.P5 i g).Ab.length=J g.Ab+16:=by unfold GS.P5 GS.NC;simp only[Pw]
theorem GS.cY (i:Nat) (g:GS):(GS.P4 i g).Ab.length=J g.Ab+14:=by unfold GS.P4 GS.NC;simp only[Pw]
theorem GS.kh (i:Nat) (g:GS):(GS.YM i g).Ab.length=J g.Ab+4:=by unfold GS.YM GS.NC;simp only[Pw]
theorem GS.dD (i:Nat) (g:GS):(GS.Rx i g).Ab.length=J g.Ab+3:=by unfold GS.Rx GS.NC;simp only[Pw]
theorem Aq.left {B:List Ob} (h:Aq w (A++B)):Aq w A:=(Ai.AJ h).Ak
theorem YS {o:Ob} (h:Aq w A) (ho:o.holds w) (hf:o.fp=[]):Ai w A w (A++[o]):=by
 have e:Et (A++[o])=Et A:=by rw[Bo,GV,hf];simp[Et]
 refine⟨⟨λp hp=>?_,by rw[e];exact h.K7⟩,Az.refl _ _,λb hb=> .inl (by rw[e] at hb;exact hb)⟩<;>grind [Aq]
def Ce:Bj->Nat
 |.nil=>0
 |.set _ _ _ _ r=>4+Ce r
 |.get _ _ _ _ r=>28+Ce r
 |.put _ _ _ _ r=>12+Ce r
 |.out _ r=>6+Ce r
 |.atomic b r=>296+Ce b+Ce r
 |.Es _ b r=>2+Ce b+Ce r
 |.loop _ b r=>6+Ce b+Ce r
theorem LD (l:List Ii) (g:GS):(l.foldl GS.Ba g).Ab.length=J g.Ab:=by
 induction l generalizing g<;>grind [GS.Eh]
theorem GS.F7 (g:GS):J g.Ei.Ab=J g.Ab+g.cells.toNat*37+3:=by
 grind [GS.Ei,Li GS.dD,Li GS.kh,Li GS.cY,GS.Lm,GS.BQ,Li GS.cZ]
theorem GS.PK (g:GS):J g.Gf.Ab=J g.Ab+8:=by
 grind [GS.Gf,GS.Eh,GS.BQ,GS.Lm,GS.Zc,GS.Lv,GS.P6]
theorem GS.RH (g:GS) (C5:Nat):(g.Gb C5).Ab.length=J g.Ab+g.cells.toNat*4+9:=by
 unfold GS.Gb;simp only[];rw[GS.BQ,Li GS.dj,Li GS.ej]
theorem GS.cq (c:Nat) (g:GS):(GS.O6 c g).Ab.length=J g.Ab+2:=by grind [GS.O6,GS.LQ,GS.P6]
theorem GS.ZU (c:Nat) (g:GS):(GS.Kj c g).Ab.length=J g.Ab+3:=by grind [GS.Kj,GS.LQ]
theorem RY (cells:Int) (t:Bj) (hc:0<=cells/\cells<=6):∀(d:Nat) (BY:Bool) (G:GS),WF cells t d BY->G.block=BY->G.cells=cells->
  Ar (GS.Dh t G) G/\J G.Ab<=(GS.Dh t G).Ab.length/\(GS.Dh t G).Ab.length<=J G.Ab+Ce t:=by
 induction t with
 |nil=>grind [Ar.refl,GS.Dh]
 |set v op a b r ih=>
  intro d BY G hw hb B8;have v1:=GS.Dz G a 1;have v1':=GS.D6 G a 1;have v2:=GS.Dz (G.Co a 1) b 2;have v2':=GS.D6 (G.Co a 1) b 2;by_cases IV:op.size=0
  .have e:GS.Dh (.set v op a b r) G=GS.Dh r ((G.Co a 1).st v (GS.BD a 1)):=by simp[GS.Dh,IV]
   have hs:Ar ((G.Co a 1).st v (GS.BD a 1)) G:=((Ar.refl G).Co a 1).AQ _;obtain⟨i1,i2,i3⟩:=ih d BY _ hw.2.2.2.2 (hs.block.trans hb) (hs.cells.trans B8)<;>grind [GS.LQ,Ce,Ar]
  .have e:GS.Dh (.set v op a b r) G=GS.Dh r ((((G.Co a 1).Co b 2).IB op 1 (GS.BD a 1) (GS.BD b 2)).st v (.r 1)):=by simp[GS.Dh,IV]
   have hs:Ar ((((G.Co a 1).Co b 2).IB op 1 (GS.BD a 1) (GS.BD b 2)).st v (.r 1)) G:=((((Ar.refl G).Co a 1).Co b 2).AQ _).AQ _;obtain⟨i1,i2,i3⟩:=ih d BY _ hw.2.2.2.2 (hs.block.trans hb) (hs.cells.trans B8)<;>grind [GS.LQ,GS.Lm,Ce,Ar]
 |get v f s a r ih=>
  intro d BY G hw hb B8;have v1:=GS.Oj G f s a;have v0:=GS.Dz G a 0;have v0':=GS.D6 G a 0;have hs:Ar (((G.EN f s a).SL).st v (.r 1)) G:=(((Ar.refl G).EN f s a).SL).AQ _;obtain⟨i1,i2,i3⟩:=ih d BY _ hw.2.2.2.2 (hs.block.trans hb) (hs.cells.trans B8)<;>grind [GS.LQ,GS.lK,GS.Dh,Ce,Ar]
 |put f s i a r ih=>
  intro d BY G hw hb B8;have v1:=GS.Oj G f s i;have v0:=GS.Dz G i 0;have v0':=GS.D6 G i 0;have v2:=GS.Dz (G.EN f s i) a 1;have v2':=GS.D6 (G.EN f s i) a 1;have hs:Ar (((((G.EN f s i).Co a 1).IW 14 0 (GS.BD a 1)).IW 8 0 (.n 1))) G:=((((Ar.refl G).EN f s i).Co a 1).AQ _).AQ _;obtain⟨i1,i2,i3⟩:=ih d BY _ hw.2.2.2.2 (hs.block.trans hb) (hs.cells.trans B8)<;>grind [GS.Us,GS.Dh,Ce,Ar]
 |out a r ih=>
  intro d BY G hw hb B8;have v1:=GS.Dz G a 1;have v1':=GS.D6 G a 1;cases Fb:G.block with
  |false=>
   have e:GS.Dh (.out a r) G=GS.Dh r ((G.Co a 1).AQ (.out (GS.BD a 1))):=by simp[GS.Dh,Fb]
   have hs:Ar ((G.Co a 1).AQ (.out (GS.BD a 1))) G:=((Ar.refl G).Co a 1).AQ _;obtain⟨i1,i2,i3⟩:=ih d BY _ hw.2 (hs.block.trans hb) (hs.cells.trans B8)<;>grind [GS.BQ,Ce,Ar]
  |true=>
   have e:GS.Dh (.out a r) G=GS.Dh r (((((G.Co a 1).lo 2 39).IW 40 2 (GS.BD a 1)).IB KG 2 (.r 2) (.n 1)).st 39 (.r 2)):=by simp[GS.Dh,Fb]
   have hs:Ar (((((G.Co a 1).lo 2 39).IW 40 2 (GS.BD a 1)).IB KG 2 (.r 2) (.n 1)).st 39 (.r 2)) G:=(((((Ar.refl G).Co a 1).AQ _).AQ _).AQ _).AQ _;obtain⟨i1,i2,i3⟩:=ih d BY _ hw.2 (hs.block.trans hb) (hs.cells.trans B8)<;>grind [GS.LQ,GS.Lm,GS.Us,GS.P6,Ce,Ar]
 |Es a b r ib ih=>
  intro d BY G hw hb B8;have v1:=GS.Dz G a 1;have v1':=GS.D6 G a 1;have h1:Ar ((G.Co a 1).CG (GS.BD a 1)) G:=((Ar.refl G).Co a 1).AQ _;obtain⟨j1,j2,j3⟩:=ib (d+1) BY _ hw.2.2.1 (h1.block.trans hb) (h1.cells.trans B8);rw[GS.Lv] at j2 j3;have hs:Ar ((GS.Dh b ((G.Co a 1).CG (GS.BD a 1))).Ba ((G.Co a 1).EL (GS.BD a 1))) G:=(j1.trans h1).Ba _;obtain⟨i1,i2,i3⟩:=ih d BY _ hw.2.2.2 (hs.block.trans hb) (hs.cells.trans B8)<;>grind [GS.Eh,GS.Dh,Ce,Ar]
 |loop n b r ib ih=>
  intro d BY G hw hb B8;have h1:Ar (G.st (48+G.Af) (.n n)) G:=(Ar.refl G).AQ _;obtain⟨j1,j2,j3⟩:=ib (d+1) BY {(G.st (48+G.Af) (.n n)) with Af:=(G.st (48+G.Af) (.n n)).Af+1} hw.2.2.1 hb B8;have j2':(G.st (48+G.Af) (.n n)).Ab.length<=_:=j2;have j3':_<=(G.st (48+G.Af) (.n n)).Ab.length+Ce b:=j3;rw[GS.LQ] at j2' j3';generalize hg2:GS.Dh b {(G.st (48+G.Af) (.n n)) with Af:=(G.st (48+G.Af) (.n n)).Af+1}=g2 at j1 j2' j3';have h3:Ar {g2 with Af:=g2.Af-1} G:=⟨j1.Ac,j1.cells,j1.block,by grind [Ar]⟩;have e:GS.Dh (.loop n b r) G=GS.Dh r ((((((({g2 with Af:=g2.Af-1}:GS).lo 1 (48+G.Af)).IB KF 1 (.r 1) (.n 1)).st (48+G.Af) (.r 1)).CG (.r 1)).AQ (.GF (G.st (48+G.Af) (.n n)).Ab.length)).Ba (((({g2 with Af:=g2.Af-1}:GS).lo 1 (48+G.Af)).IB KF 1 (.r 1) (.n 1)).st (48+G.Af) (.r 1) |>.EL (.r 1))):=by
   rw[<-hg2];rfl
  have hs:Ar ((((((({g2 with Af:=g2.Af-1}:GS).lo 1 (48+G.Af)).IB KF 1 (.r 1) (.n 1)).st (48+G.Af) (.r 1)).CG (.r 1)).AQ (.GF (G.st (48+G.Af) (.n n)).Ab.length)).Ba (((({g2 with Af:=g2.Af-1}:GS).lo 1 (48+G.Af)).IB KF 1 (.r 1) (.n 1)).st (48+G.Af) (.r 1) |>.EL (.r 1))) G:=(((((h3.AQ _).AQ _).AQ _).AQ _).AQ _).Ba _;obtain⟨i1,i2,i3⟩:=ih d BY _ hw.2.2.2 (hs.block.trans hb) (hs.cells.trans B8)<;>grind [GS.Eh,GS.BQ,GS.Lv,GS.LQ,GS.Lm,GS.P6,Ce,Ar]
 |atomic b r ib ih=>
  intro d BY G hw hb B8;have hi:BY=I:=hw.1;have h1:Ar G.BT G:=Ar.Oo Ar.O6 4 (Ar.refl G);have l1:J G.BT.Ab=J G.Ab+8:=Li GS.cq 4 G;have t1:(G.BT.T7).Ab.length=J G.BT.Ab+G.BT.cells.toNat*3+3:=by
   unfold GS.T7;simp only[];rw[GS.LQ,GS.kR,GS.LQ,Li GS.ZU]
  have t2:G.BT.T7.Ac=G.BT.Ac/\G.BT.T7.cells=G.BT.cells/\G.BT.T7.Af=G.BT.Af:=by
   have:=((((Ar.Oo Ar.Kj G.BT.cells.toNat (Ar.refl G.BT)).AQ (.store (.n ((GS.Oo GS.Kj G.BT.cells.toNat G.BT).Ac+39)) 0 (.n 0))).AQ (.load 1 (.n 16) 0)));exact⟨this.Ac,this.cells,this.Af⟩
  obtain⟨j1,j2,j3⟩:=ib (d+1) V G.BT.T7 hw.2.2.1 rfl (t2.2.1.trans (h1.cells.trans B8));generalize hg2:GS.Dh b G.BT.T7=g2 at j1 j2 j3;have hcn:G.BT.cells.toNat<=6:=by rw[h1.cells,B8];omega
  have An0:g2.cells.toNat<=6:=by rw[j1.cells,t2.2.1];exact hcn
  have hh:∀p:Bool,Ar (g2.Pz (J G.BT.Ab) p) {g2 with block:=I}/\J g2.Ab<=(g2.Pz (J G.BT.Ab) p).Ab.length/\(g2.Pz (J G.BT.Ab) p).Ab.length<=J g2.Ab+g2.cells.toNat*41+21:=by
   intro p;have q:Ar (if p then ({g2 with block:=I}:GS).Ei else {g2 with block:=I}) {g2 with block:=I}:=by
    cases p
    .exact Ar.refl _
    .exact(Ar.refl _).Ei
   have ql:J g2.Ab<=(if p then ({g2 with block:=I}:GS).Ei else {g2 with block:=I}).Ab.length/\(if p then ({g2 with block:=I}:GS).Ei else {g2 with block:=I}).Ab.length<=J g2.Ab+g2.cells.toNat*37+3:=by
    grind [GS.F7]
   unfold GS.Pz;simp only[];generalize (if p then ({g2 with block:=I}:GS).Ei else {g2 with block:=I})=g3 at q ql;have u:=(((q.Gf.AQ (.GF 0)).tF g3.Gf.CW.BM).Gb (J G.BT.Ab)).Ba g3.Gf.V5;refine⟨u,?_,?_⟩;grind [GS.Eh,GS.RH,LD,GS.FC,GS.PK]
   .rw[GS.Eh,GS.RH,LD,GS.FC,GS.PK];have:(g3.Gf.CW.BM.foldl GS.Ba g3.Gf.CW).cells=g2.cells:=((q.Gf.AQ (.GF 0)).tF g3.Gf.CW.BM).cells;rw[this];omega
  obtain⟨k1,k2,k3⟩:=hh (BU b);have hs:Ar (g2.Pz (J G.BT.Ab) (BU b)) G:=⟨k1.Ac.trans (j1.Ac.trans (t2.1.trans h1.Ac)),k1.cells.trans (j1.cells.trans (t2.2.1.trans h1.cells)),k1.block.trans (by rw[hb,hi]),k1.Af.trans (j1.Af.trans (t2.2.2.trans h1.Af))⟩;obtain⟨i1,i2,i3⟩:=ih d BY _ hw.2.2.2 (hs.block.trans hb) (hs.cells.trans B8)<;>grind [GS.Dh,Ce,Ar]
def Lj (k:Int):By:=114::Lib.itoa k
def Kl (a:Ag):By:=if a.Dd then Lj a.v else Lib.itoa a.v
def GI.ws:GI->List By
 |.Y4 d a=>[[109,111,118],Lj d,Kl a]
 |.op n d a b=>[bs n,Lj d,Kl a,Kl b]
 |.load d a k=>[[108,111,97,100],Lj d,Kl a,Lib.itoa k]
 |.store a k b=>[[115,116,111,114,101],Kl a,Lib.itoa k,Kl b]
 |.KL d a k b c=>[[99,97,115],Lj d,Kl a,Lib.itoa k,Kl b,Kl c]
 |.Em d a k b=>[[120,97,100,100],Lj d,Kl a,Lib.itoa k,Kl b]
 |.Ma=>[[102,101,110,99,101]]
 |.out a=>[[111,117,116],Kl a]
 |.GF q=>[[106,109,112],Lib.itoa q]
 |.jz a q=>[[106,122],Kl a,Lib.itoa q]
 |.CR k=>[[116,114,97,112],Lib.itoa k]
 |.halt=>[[104,97,108,116]]
def DF:List By->By
 |[]=>[]
 |[a]=>a
 |a::b::r=>a++32::DF (b::r)
def GI.Ae (i:GI):By:=DF i.ws
def XM (t:List GI):By:=AE++10::t.flatMap λi=>i.Ae++[10]
def DM (ts:List (List GI)):By:=ts.flatMap XM
def Oq (k:Int):Prop:=0<=k/\k<=7
def i64 (v:Int):Prop:= -9223372036854775808<=v/\v<=9223372036854775807
def D7 (a:Ag):Prop:=if a.Dd then Oq a.v else i64 a.v
def Sd (B5:Int):GI->Prop
 |.Y4 d a=>Oq d/\D7 a
 |.op n d a b=>n∈B4/\Oq d/\D7 a/\D7 b
 |.load d a k=>Oq d/\D7 a/\i64 k
 |.store a k b=>D7 a/\i64 k/\D7 b
 |.KL d a k b c=>Oq d/\D7 a/\i64 k/\D7 b/\D7 c
 |.Em d a k b=>Oq d/\D7 a/\i64 k/\D7 b
 |.Ma=>False
 |.out a=>D7 a
 |.GF q=>0<=q/\q<=B5
 |.jz a q=>D7 a/\0<=q/\q<=B5
 |.CR k=>1<=k/\k<=9
 |.halt=>True
def Ag.rv (a:Ag):SO:=⟨a.Dd,a.v⟩
def GI.DI:GI->Bh
 |.Y4 d a=>{Bh.of ⟨#[109,111,118]⟩ with d:=d,a:=a.rv}
 |.op n d a b=>{Bh.of n with d:=d,a:=a.rv,b:=b.rv}
 |.load d a k=>{Bh.of ⟨#[108,111,97,100]⟩ with d:=d,a:=a.rv,k:=k}
 |.store a k b=>{Bh.of ⟨#[115,116,111,114,101]⟩ with a:=a.rv,k:=k,b:=b.rv}
 |.KL d a k b c=>{Bh.of ⟨#[99,97,115]⟩ with d:=d,a:=a.rv,k:=k,b:=b.rv,c:=c.rv}
 |.Em d a k b=>{Bh.of ⟨#[120,97,100,100]⟩ with d:=d,a:=a.rv,k:=k,b:=b.rv}
 |.Ma=>Bh.of ⟨#[102,101,110,99,101]⟩
 |.out a=>{Bh.of ⟨#[111,117,116]⟩ with a:=a.rv}
 |.GF q=>{Bh.of ⟨#[106,109,112]⟩ with k:=q}
 |.jz a q=>{Bh.of ⟨#[106,122]⟩ with a:=a.rv,k:=q}
 |.CR k=>{Bh.of ⟨#[116,114,97,112]⟩ with k:=k}
 |.halt=>Bh.of ⟨#[104,97,108,116]⟩
theorem TL (v:Int):∀c,c∈Lib.itoa v->Ep c\/c=45:=by
 grind [Lib.itoa,GW]
theorem iX (h:Oq k):∃c:UInt8,Lib.itoa k=[c]/\(c.toNat:Int)=48+k:=by
 obtain⟨h1,h2⟩:=h;refine⟨UInt8.ofNat (48+k.toNat),?_,?_⟩<;>grind [Lib.itoa,Lib.decDigits,UInt8.toNat_ofNat']
theorem YG (h:Oq k):NH (Lj k)=U k.toNat:=by
 obtain⟨c,hc,hv⟩:=iX h;obtain⟨h1,h2⟩:=h;unfold Lj NH;rw[hc];simp only[Jg,Jw,jH,jI];rw[Jb ⟨trivial,rfl,Y,Y⟩];grind
theorem ot (v:Int):NH (Lib.itoa v)=Z:=by
 unfold NH;rw[In];intro h;have h2:=h.2.1;cases hl:Lib.itoa v with
 |nil=>grind
 |cons c r=>
  rw[hl] at h2;simp only[jH] at h2;rcases TL v c (by rw[hl];grind) with h3|rfl
  .have:=h3.2;omega
  grind
theorem VL (h:D7 a):Nw (Kl a)=U a.rv:=by
 unfold D7 at h;unfold Kl Nw Ag.rv;cases hr:a.Dd with
 |true=>
  rw[hr] at h;simp only[Qh] at h⊢;rw[YG h];have:=h.1;grind
 |false=>
  rw[hr] at h;simp only[Qb,J1] at h⊢;rw[ot,KE a.v h.1 h.2]
theorem r8 (a:ByteArray) (l:List ByteArray):wd (a::l) 0=a:=rfl
theorem Zn (h:Oq k) (i:Bh):Gn 100 (bs (AU (Lj k))) i=({i with d:=k},V):=by
 unfold Gn;rw[Jb Do,Dk,YG h];have:=h.1;simp only[Qr,QK];rw[show((k.toNat:Nat):Int)=k by omega]
theorem Rb (h:D7 a) (i:Bh):Gn 97 (bs (AU (Kl a))) i=({i with a:=a.rv},V):=by
 grind [Gn,Dk,VL]
theorem fR (h:D7 a) (i:Bh):Gn 98 (bs (AU (Kl a))) i=({i with b:=a.rv},V):=by
 grind [Gn,Dk,VL]
theorem AhK (h:D7 a) (i:Bh):Gn 99 (bs (AU (Kl a))) i=({i with c:=a.rv},V):=by
 grind [Gn,Dk,VL]
theorem fQ (h:i64 v) (i:Bh):Gn 107 (bs (AU (Lib.itoa v))) i=({i with k:=v},V):=by
 grind [Gn,Dk,KE v h.1 h.2]
theorem AbV (h0:0<=v) (h1:v<=4000) (i:Bh):Gn 116 (bs (AU (Lib.itoa v))) i=({i with k:=v},V):=by
 grind [Gn,Dk,KE]
theorem AhJ (h0:1<=v) (h1:v<=9) (i:Bh):Gn 110 (bs (AU (Lib.itoa v))) i=({i with k:=v},V):=by
 grind [Gn,Dk,KE]
theorem DG (x:ByteArray) (r:List ByteArray) (f:By) (hf:bs (Ib x)=f) (h63:f≠[63]) (hl:J r=J f):Er (x::r)=SY f r (.of x):=by
 grind [Er,r8,Br]
theorem BH (f:UInt8) (fs:By) (a:ByteArray) (l:List ByteArray) (i j:Bh) (h:Gn f (bs a) i=(j,V)):SY (f::fs) (a::l) i=SY fs l j:=by
 rw[SY,r8,h];rfl
theorem xM (n:ByteArray) (h:n∈B4):bs (Ib n)=[100,97,98]:=by
 have h1:0<=Be B4 n:=by
  simp only[B4,Jl,Qm,or_false] at h;rcases h with rfl|rfl|rfl|rfl|rfl|rfl|rfl|rfl|rfl|rfl|rfl|rfl<;>decide+kernel
 unfold Ib;rw[Jb h1]
theorem AbU (Eo:B5<=4000) (i:GI) (h:Sd B5 i):Er (i.ws.map AU)=U i.DI:=by
 cases i with
 |Y4 d a=>
  show Er (⟨#[109,111,118]⟩::[AU (Lj d),AU (Kl a)])=_;rw[DG _ _ [100,97] (by decide+kernel) Do rfl,BH _ _ _ _ _ _ (Zn h.1 _),BH _ _ _ _ _ _ (Rb h.2 _)];rfl
 |op n d a b=>
  show Er (AU (bs n)::[AU (Lj d),AU (Kl a),AU (Kl b)])=_;rw[XL,DG _ _ [100,97,98] (xM n h.1) Do rfl,BH _ _ _ _ _ _ (Zn h.2.1 _),BH _ _ _ _ _ _ (Rb h.2.2.1 _),BH _ _ _ _ _ _ (fR h.2.2.2 _)];rfl
 |load d a k=>
  show Er (⟨#[108,111,97,100]⟩::[AU (Lj d),AU (Kl a),AU (Lib.itoa k)])=_;rw[DG _ _ [100,97,107] (by decide+kernel) Do rfl,BH _ _ _ _ _ _ (Zn h.1 _),BH _ _ _ _ _ _ (Rb h.2.1 _),BH _ _ _ _ _ _ (fQ h.2.2 _)];rfl
 |store a k b=>
  show Er (⟨#[115,116,111,114,101]⟩::[AU (Kl a),AU (Lib.itoa k),AU (Kl b)])=_;rw[DG _ _ [97,107,98] (by decide+kernel) Do rfl,BH _ _ _ _ _ _ (Rb h.1 _),BH _ _ _ _ _ _ (fQ h.2.1 _),BH _ _ _ _ _ _ (fR h.2.2 _)];rfl
 |KL d a k b c=>
  show Er (⟨#[99,97,115]⟩::[AU (Lj d),AU (Kl a),AU (Lib.itoa k),AU (Kl b),AU (Kl c)])=_;rw[DG _ _ [100,97,107,98,99] (by decide+kernel) Do rfl,BH _ _ _ _ _ _ (Zn h.1 _),BH _ _ _ _ _ _ (Rb h.2.1 _),BH _ _ _ _ _ _ (fQ h.2.2.1 _),BH _ _ _ _ _ _ (fR h.2.2.2.1 _),BH _ _ _ _ _ _ (AhK h.2.2.2.2 _)];rfl
 |Em d a k b=>
  show Er (⟨#[120,97,100,100]⟩::[AU (Lj d),AU (Kl a),AU (Lib.itoa k),AU (Kl b)])=_;rw[DG _ _ [100,97,107,98] (by decide+kernel) Do rfl,BH _ _ _ _ _ _ (Zn h.1 _),BH _ _ _ _ _ _ (Rb h.2.1 _),BH _ _ _ _ _ _ (fQ h.2.2.1 _),BH _ _ _ _ _ _ (fR h.2.2.2 _)];rfl
 |Ma=>
  show Er (⟨#[102,101,110,99,101]⟩::[])=_;rw[DG _ _ [] (by decide+kernel) Do rfl];rfl
 |out a=>
  show Er (⟨#[111,117,116]⟩::[AU (Kl a)])=_;rw[DG _ _ [97] (by decide+kernel) Do rfl,BH _ _ _ _ _ _ (Rb h _)];rfl
 |GF q=>
  show Er (⟨#[106,109,112]⟩::[AU (Lib.itoa q)])=_;rw[DG _ _ [116] (by decide+kernel) Do rfl,BH _ _ _ _ _ _ (AbV h.1 (by have:=h.2;omega) _)];rfl
 |jz a q=>
  show Er (⟨#[106,122]⟩::[AU (Kl a),AU (Lib.itoa q)])=_;rw[DG _ _ [97,116] (by decide+kernel) Do rfl,BH _ _ _ _ _ _ (Rb h.1 _),BH _ _ _ _ _ _ (AbV h.2.1 (by have:=h.2.2;omega) _)];rfl
 |CR k=>
  show Er (⟨#[116,114,97,112]⟩::[AU (Lib.itoa k)])=_;rw[DG _ _ [110] (by decide+kernel) Do rfl,BH _ _ _ _ _ _ (AhJ h.1 h.2 _)];rfl
 |halt=>
  show Er (⟨#[104,97,108,116]⟩::[])=_;rw[DG _ _ [] (by decide+kernel) Do rfl];rfl
theorem fe (s:UInt8):∀(l:List By),l≠[]->(∀p,p∈l->s∉p)->AD s (List.intercalate [s] l)=l:=by
 have Po:∀(p:By),s∉p->AD s p=[p]:=by
  intro p;induction p with
  |nil=>intro _;rfl
  |cons c r ih=>
   intro h;simp only[Jl,not_or] at h;rw[HU _ _ _ AC,ih h.2];rfl
 have Abv:∀(p:By) (r:By),s∉p->AD s (p++s::r)=p::AD s r:=by
  intro p r;induction p with
  |nil=>grind [X0 s [] r,N8,Cc]
  |cons c q ih=>
   intro h;exact mbE
 intro l;induction l with
 |nil=>grind
 |cons p r ih=>
  intro _ h;cases r with
  |nil=>grind [List.intercalate_singleton]
  |cons q r=>
   have e:List.intercalate [s] (p::q::r)=p++s::List.intercalate [s] (q::r):=by simp[List.intercalate,List.intersperse]
   rw[e,Abv p _ AC,ih EQ AC]
theorem Uu (s:UInt8) (p r:By) (h:s∉p):AD s (p++s::r)=p::AD s r:=by
 induction p with
 |nil=>rw[JF];have:=X0 s [] r;rw[N8 _ (Cc _ _)] at this;exact this
 |cons c q ih=>
  exact mbE
theorem AbQ (l:List By):DF l=List.intercalate [32] l:=by
 induction l with
 |nil=>rfl
 |cons a r ih=>
  cases r<;>grind [DF,List.intercalate,List.intersperse]
def Og (p:By):Prop:=(32:UInt8)∉p/\(10:UInt8)∉p
theorem Ih (v:Int):Og (Lib.itoa v):=by
 constructor
 .intro h;rcases TL v _ h with h|h
  .exact Jk h Do
  grind
 .intro h;rcases TL v _ h with h|h
  .exact Jk h Do
  grind
theorem Ig (v:Int):Og (Lj v):=by
 obtain⟨h1,h2⟩:=Ih v;exact⟨λh=>by grind [List.mem_cons.1 h],λh=>by grind [List.mem_cons.1 h]⟩
theorem LG (a:Ag):Og (Kl a):=by
 grind [Kl,Ig,Ih]
instance AkT (p:By):Decidable (Og p):=inferInstanceAs (Decidable (_/\_))
theorem mf (i:GI) (h:Sd B5 i):i.ws≠[]/\∀p,p∈i.ws->Og p:=by
 have hv:∀n,n∈B4->Og (bs n):=by decide+kernel
 constructor
 .cases i<;>simp[GI.ws]
 .intro p hp;cases i<;>simp only[GI.ws,Jl,Qm,or_false] at hp;case op n d a b=>
   grind [hv n h.1,Ig,LG]
  all_goals
   first
    |(rcases hp with rfl|rfl|rfl|rfl|rfl|rfl<;>first|exact Ih _|exact Ig _|exact LG _|decide+kernel)
    |(rcases hp with rfl|rfl|rfl|rfl|rfl<;>first|exact Ih _|exact Ig _|exact LG _|decide+kernel)
    |(rcases hp with rfl|rfl|rfl|rfl<;>first|exact Ih _|exact Ig _|exact LG _|decide+kernel)
    |(rcases hp with rfl|rfl|rfl<;>first|exact Ih _|exact Ig _|exact LG _|decide+kernel)
    |(rcases hp with rfl|rfl<;>first|exact Ih _|exact Ig _|exact LG _|decide+kernel)
    |(subst hp;decide+kernel)
theorem nw (i:GI) (h:Sd B5 i):Bt i.Ae=i.ws.map AU:=by
 obtain⟨h1,h2⟩:=mf i h;unfold Bt GI.Ae;rw[AbQ,fe 32 _ h1 λp hp=>(h2 p hp).1]
theorem AbR (l:List By) (h:∀p,p∈l->(10:UInt8)∉p):(10:UInt8)∉DF l:=by
 induction l with
 |nil=>simp[DF]
 |cons a r ih=>
  cases r<;>grind [DF]
theorem AeX (i:GI) (h:Sd B5 i):(10:UInt8)∉i.Ae:=AbR _ λp hp=>((mf i h).2 p hp).2
def Zd (t:List GI):List By:=AE::t.map GI.Ae
theorem wR (t:List GI) (h:∀i,i∈t->Sd B5 i) (r:By):AD 10 (t.flatMap (λi=>i.Ae++[10])++r)=t.map GI.Ae++AD 10 r:=by
 induction t<;>grind [Uu,AeX,List.mem_cons_self]
theorem o5 (ts:List (List GI)) (h:∀t,t∈ts->∀i,i∈t->Sd B5 i):AD 10 (DM ts)=ts.flatMap Zd++[[]]:=by
 induction ts with
 |nil=>rfl
 |cons t ts ih=>
  unfold DM at ih⊢;simp only[JV,XM,Zd,Ji,Jx];rw[Uu 10 AE _ Do,wR t (h t (Jd ..)),ih AC]
theorem AaO (Eo:B5<=4000) (M:Al) (ts:List CH) (t:CH) (ht:M.ts=ts++[t]) (i:GI) (h:Sd B5 i) (hl:J t.Ab<4000):UA M (Bt i.Ae)=.ok {M with ts:=ts++[{t with Ab:=t.Ab++[i.DI]}]}:=by
 have hi:=AbU Eo i h;have hn:¬((i.ws.map AU).length=1/\bs (wd (i.ws.map AU) 0)=AE):=by
  rintro⟨h1,h2⟩;cases i<;>simp[GI.ws] at h1<;>(revert h2;decide+kernel)
 rw[nw i h];unfold UA;rw[In hn,hi];simp only[ht,Qj,NE,QJ,PP];rw[In Y]
theorem AaN (M:Al) (h:J M.ts<3):UA M (Bt AE)=.ok {M with ts:=M.ts++[.new]}:=by
 have e:Bt AE=[AU AE]:=by decide+kernel
 rw[e];unfold UA;rw[Jb ⟨rfl,by decide+kernel⟩,In Y]
theorem oZ (Eo:B5<=4000) (t:List GI) (h:∀i,i∈t->Sd B5 i):∀(q:By) (r:List By) (n:Nat) (M:Al) (ts:List CH) (x:CH),M.ts=ts++[x]->J x.Ab+J t<=4000->
  EJ (t.map GI.Ae++q::r) n M=EJ (q::r) (n+J t) {M with ts:=ts++[{x with Ab:=x.Ab++t.map GI.DI}]}:=by
 induction t with
 |nil=>
  intro q r n M ts x hx _;simp only[Qu,JF,Jw,JX,Jo];obtain⟨m,s⟩:=M;obtain rfl:s=ts++[x]:=hx;rfl
 |cons i t ih=>
  intro q r n M ts x hx hl;simp only[Jg] at hl;have h1:=AaO Eo M ts x hx i AC Y;have h2:=ih AC q r (n+1) {M with ts:=ts++[{x with Ab:=x.Ab++[i.DI]}]} ts _ rfl (by simp;omega);have e:∀(a b:By) (l:List By),EJ (a::b::l) n M=match UA M (Bt a) with|.error c=> .error (c,n+1)|.ok M'=>EJ (b::l) (n+1) M':=λ_ _ _=>rfl
  obtain⟨b,l,Fb⟩:∃b l,t.map GI.Ae++q::r=b::l:=by
   cases t<;>grind
  simp only[Js,Jx];rw[Fb] at h2⊢;rw[e,h1];simp only[];rw[h2];simp only[Ji,Jx,JF,Jg];rw[show n+1+J t=n+(J t+1) by omega]
def uU (c:List Bh):CH:={CH.new with Ab:=c}
theorem kP (Eo:B5<=4000) (ts:List (List GI)) (h:∀t,t∈ts->J t<=4000/\∀i,i∈t->Sd B5 i):∀(n:Nat) (M:Al),(ts=[]->0<n)->J M.ts+J ts<=3->
  EJ (ts.flatMap Zd++[[]]) n M=.ok {M with ts:=M.ts++ts.map λt=>uU (t.map GI.DI)}:=by
 induction ts with
 |nil=>
  intro n M hn _;have:=hn rfl;show EJ [[]] n M=_;unfold EJ;rw[Jb ⟨rfl,this⟩];simp
 |cons t ts ih=>
  intro n M _ hl;simp only[Jg] at hl;have ht:=h t (Jd ..);have h1:=AaN M Y;obtain⟨q,r,hqr⟩:∃q r,ts.flatMap Zd++[[]]=q::r:=by
   cases ts with
   |nil=>exact⟨_,_,rfl⟩
   |cons u us=>exact⟨_,_,rfl⟩
  have h2:=oZ Eo t ht.2 q r (n+1) {M with ts:=M.ts++[.new]} M.ts .new rfl (by show 0+J t<=4000;omega);have e:∀(a b:By) (l:List By),EJ (a::b::l) n M=match UA M (Bt a) with|.error c=> .error (c,n+1)|.ok M'=>EJ (b::l) (n+1) M':=λ_ _ _=>rfl
  obtain⟨b,l,Fb⟩:∃b l,t.map GI.Ae++q::r=b::l:=by
   cases t with
   |nil=>exact⟨q,r,rfl⟩
   |cons j t=>exact⟨_,_,rfl⟩
  simp only[JV,Zd,Jx,Ji];rw[hqr,Fb,e,h1];simp only[];rw[<-Fb,h2,<-hqr,ih (λu hu=>h u (Id _ hu)) _ _ (λ_=>Y) (by simp;omega)];simp[uU,CH.new]
theorem wN (Eo:B5<=4000) (ts:List (List GI)) (hne:ts≠[]) (h3:J ts<=3) (h:∀t,t∈ts->J t<=4000/\∀i,i∈t->Sd B5 i) (hl:(DM ts).length<=131072):
  MQ (DM ts)=.ok ⟨List.replicate 256 0,ts.map λt=>uU (t.map GI.DI)⟩:=by
 unfold MQ;rw[In Y,o5 ts λt ht=>(h t ht).2,kP Eo ts h 0 _ AC AC];grind
def MS (i:GI):Nat:=J i.Ae+1
def okL (B5:Int):LI->Prop
 |.i i=>Sd B5 i
 |.f r=>Oq r
def sN (v:Int):Prop:=0<=v/\v<=9999
def ak (a:Ag):Prop:=if a.Dd then Oq a.v else sN a.v
def yK (B5:Int):GI->Prop
 |.Y4 d a=>Oq d/\ak a
 |.op n d a b=>(n∈B4)/\Oq d/\ak a/\ak b
 |.load d a k=>Oq d/\ak a/\sN k
 |.store a k b=>ak a/\sN k/\ak b
 |.KL d a k b c=>Oq d/\ak a/\sN k/\ak b/\ak c
 |.Em d a k b=>Oq d/\ak a/\sN k/\ak b
 |.Ma=>False
 |.out a=>ak a
 |.GF q=>0<=q/\q<=B5
 |.jz a q=>ak a/\0<=q/\q<=B5
 |.CR k=>1<=k/\k<=9
 |.halt=>True
def smL (B5:Int):LI->Prop
 |.i i=>yK B5 i
 |.f r=>Oq r
def SX:LI->Prop
 |.i (.KL ..)=>False
 |.i (.Em ..)=>False
 |_=>True
theorem Na (h:ak a):D7 a:=by
 unfold ak at h;unfold D7;split<;>rename_i hr<;>simp only[hr,Qh,J1,Qb] at h
 .exact h
 .obtain⟨h1,h2⟩:=h;exact⟨Y,Y⟩
theorem Ag9 (h:sN v):i64 v:=⟨by have:=h.1;omega,by have:=h.2;omega⟩
theorem Ag1 {i:GI} (h:yK B5 i):Sd B5 i:=by
 cases i<;>grind [yK,Sd,Na,Ag9]
theorem vP {u:Nat} (h:u<=9999):Lib.nDigits u<=4:=by
 rw[Lib.nDigits];grind [Lib.nDigits]
theorem Zi (h:sN v):(Lib.itoa v).length<=4:=by
 obtain⟨h1,h2⟩:=h<;>grind [Lib.itoa,Lib.decDigits_length,vP]
theorem Zj (h:i64 v):(Lib.itoa v).length<=21:=Lib.itoa_length_le v h.1 h.2
theorem PQ (h:Oq k):(Lj k).length=2:=by
 grind [iX,Lj]
theorem yr (h:ak a):(Kl a).length<=4:=by
 grind [ak,Kl,PQ,Zi]
theorem gG (h:D7 a):(Kl a).length<=21:=by
 grind [D7,Kl,PQ,Zj]
theorem Yh {n:ByteArray} (h:n∈B4):(bs n).length<=3:=by
 revert h;revert n
 have:∀n,n∈B4->(bs n).length<=3:=by decide+kernel
 exact this
theorem dh (hl:B5<=4000) {i:GI} (h:yK B5 i):MS i<=27:=by
 cases i<;>simp only[MS,GI.Ae,GI.ws,DF,GT,Jg,Jw]<;>grind [yK,sN,PQ,yr,Zi,Yh]
theorem AeZ (hl:B5<=4000) {i:GI} (h:Sd B5 i) (hc:SX (.i i)):MS i<=73:=by
 cases i<;>simp only[MS,GI.Ae,GI.ws,DF,GT,Jg,Jw]<;>grind [Sd,SX,i64,PQ,gG,Zj,Yh]
def bytesOf (l:List GI):Nat:=(l.map MS).sum
structure Dx (B5:Int) (l:List LI) (a:Nat):Prop where
 ok:∀x,x∈l->okL B5 x
 len:∀q:Int,0<=q->q<=B5->bytesOf (rz q l)<=27*J l+46*a
theorem Aa8 {q:Int} {x:LI} (h:okL B5 x) (h0:0<=q) (h1:q<=B5):Sd B5 (x.AN q):=by
 cases x with
 |i x=>exact h
 |f r=>exact⟨h,h0,h1⟩
theorem Dx.rz {a:Nat} (h:Dx B5 l a) {q:Int} (h0:0<=q) (h1:q<=B5):∀i,i∈rz q l->Sd B5 i:=by
 intro i hi;grind [List.mem_map.1 hi,Aa8,Dx]
theorem Dx.nil (B5:Int):Dx B5 [] 0:=⟨AC,λq _ _=>by simp[bytesOf,_root_.Go.Proofs.YtpdfifdlhpmofaaGreatDoor.rz]⟩
theorem Xi (l m:List GI):bytesOf (l++m)=bytesOf l+bytesOf m:=by simp[bytesOf]
theorem Dx.FQ {m:List LI} {a:Nat} (h:Dx B5 l a) (k:Dx B5 m b):Dx B5 (l++m) (a+b):=
 ⟨λx hx=>(Jp.1 hx).elim (h.ok x) (k.ok x),λq h0 h1=>by
   have:=h.len q h0 h1;have:=k.len q h0 h1;rw[CC,Xi,GT];omega⟩
theorem Dx.mono {a:Nat} (h:Dx B5 l a) (Vj:a<=b):Dx B5 l b:=
 ⟨h.ok,λq h0 h1=>by have:=h.len q h0 h1;omega⟩
theorem Dx.GP (hl:B5<=4000) {l:List LI} (h:∀x,x∈l->smL B5 x):Dx B5 l 0:=by
 induction l with
 |nil=>exact Dx.nil B5
 |cons x l ih=>
  have h1:=h x (Jd ..);have ih:=ih λy hy=>h y (Id _ hy)
  have hx:okL B5 x:=by
   cases x with
   |i x=>exact Ag1 h1
   |f r=>exact h1
  refine⟨λy hy=>(Jl.1 hy).elim AC (ih.ok y),λq h0 hq=>?_⟩;have:=ih.len q h0 hq;have hx2:MS (x.AN q)<=27:=by
   cases x with
   |i x=>exact dh hl h1
   |f r=>exact dh hl (B5:=B5) ⟨by unfold ak;exact h1,h0,hq⟩
  grind [bytesOf,_root_.Go.Proofs.YtpdfifdlhpmofaaGreatDoor.rz]
theorem Dx.any (hl:B5<=4000) {l:List LI} (h:∀x,x∈l->okL B5 x/\SX x):Dx B5 l (J l):=by
 induction l with
 |nil=>exact Dx.nil B5
 |cons x l ih=>
  obtain⟨hx,hc⟩:=h x AC;have ih:=ih λy hy=>h y (Id _ hy)
  refine⟨AC,λq h0 hq=>?_⟩;have:=ih.len q h0 hq;have hx2:MS (x.AN q)<=73:=AeZ hl (Aa8 hx h0 hq) (by cases x with|i x=>exact hc|f r=>trivial);grind [bytesOf,_root_.Go.Proofs.YtpdfifdlhpmofaaGreatDoor.rz]
theorem Dx.AlI {a:Nat} (h:Dx B5 l a) {q:Int} (h0:0<=q) (h1:q<=B5):Dx B5 ((_root_.Go.Proofs.YtpdfifdlhpmofaaGreatDoor.rz q l).map LI.i) a:=by
 refine⟨λx hx=>?_,λr _ _=>?_⟩
 .obtain⟨i,hi,rfl⟩:=Qf.1 hx;exact h.rz h0 h1 i hi
 grind [AaC,CM,Dx]
theorem OT (P:LI->Prop):(∀x,x∈([]:List LI)->P x)<->True:=EQ
theorem Ls (P:LI->Prop) (a:LI) (l:List LI):(∀x,x∈a::l->P x)<->P a/\∀x,x∈l->P x:=EQ
section
variable {Ac:Int} {B5:Int}
theorem Up:KG∈B4/\KF∈B4/\aS∈B4/\nOr∈B4/\US∈B4/\Y1∈B4/\cR∈B4/\cS∈B4:=
 ⟨JL (i:=0) rfl,JL (i:=1) rfl,JL (i:=5) rfl,JL (i:=6) rfl,JL (i:=8) rfl,JL (i:=9) rfl,JL (i:=10) rfl,JL (i:=11) rfl⟩
theorem nW (k:Int) (h:0<=k/\k<=7):ak (.r k):=by unfold ak Ag.r;exact h
theorem aJ (k:Int) (h:0<=k/\k<=9999):ak (.n k):=by unfold ak Ag.n;exact h
theorem nV {p:Prop} (h:p:=by
  have ⟨_,_,_,_,_,_,_,_⟩:=Up;simp only[Ls,OT,smL,yK,and_true]
  repeat' with_reducible apply And.intro
  all_goals first|assumption|exact nW _ Y|exact aJ _ Y|(unfold Oq;omega)|(unfold sN;omega)|omega):p:=h
theorem VW (hl:B5<=4000) (hb:0<=Ac/\Ac<=1000) (r:Int) (hr:0<=r/\r<=7):Dx B5 (KD Ac r) 0:=
 .GP hl (by unfold KD;exact nV)
theorem RV {a:At} (h:DO a) (r:Int) (hr:Oq r):_root_.Go.Proofs.YtpdfifdlhpmofaaGreatDoor.D7 (GS.BD a r):=by
 unfold DO at h;unfold GS.BD;split<;>rename_i hl<;>simp only[hl,Qh,J1,Qb] at h
 .exact hr
 .exact h
theorem Nv (hl:B5<=4000) (hb:0<=Ac/\Ac<=1000) (a:At) (ha:DO a) (r:Int) (hr:Oq r):Dx B5 (DL Ac a r) 0:=by
 refine .GP hl ?_<;>grind [DL,DO,smL,yK,aJ,sN]
theorem dY (hl:B5<=4000) (hb:0<=Ac/\Ac<=1000) (p:Nat) (f s:Int) (hf:0<=f/\f<=100/\0<=s/\s<=100) (a:At) (ha:DO a) (hp:(p+(GY Ac p f s a).length:Int)<=B5):Dx B5 (GY Ac p f s a) 8:=by
 obtain⟨v1,v2,v3,v4,v5,v6,v7,v8⟩:=Up;unfold GY at hp⊢;rw[GT] at hp;have h8:(Vp (p+(DL Ac a 0).length) f s (GS.BD a 0)).length=8:=rfl;rw[h8] at hp;have h0:=Nv hl hb a ha 0 ⟨Y,Y⟩;have hA:=RV ha 0 ⟨Y,Y⟩;refine(h0.FQ (b:=8) ?_).mono Y;refine .any hl ?_;unfold Vp;simp only[Ls,OT,okL,Sd,SX,and_true];refine⟨⟨v7,?_,hA,?_⟩,⟨?_,?_,?_⟩,?_,⟨v7,?_,hA,?_⟩,⟨v8,?_,?_,?_⟩,⟨?_,?_,?_⟩,?_,⟨v1,?_,hA,?_⟩⟩<;>first|exact Na (nW _ Y)|exact Na (aJ _ Y)|(unfold Oq;omega)|omega
theorem AcE (hl:B5<=4000) (hb:0<=Ac/\Ac<=1000) (p:Nat) (hp:(p+18:Int)<=B5):Dx B5 (TW Ac p) 0:=by
 unfold TW;exact mbw
theorem wL (hl:B5<=4000) (hb:0<=Ac/\Ac<=1000) (c p:Nat) (hc:c<6) (hp:(p+16:Int)<=B5):Dx B5 (MP Ac c p) 0:=by
 unfold MP;exact mbw
theorem wI (hl:B5<=4000) (hb:0<=Ac/\Ac<=1000) (c p:Nat) (hc:c<6) (hp:(p+14:Int)<=B5):Dx B5 (O7 Ac c p) 0:=by
 unfold O7;refine(Dx.FQ (a:=0) (b:=0) ?_ (VW hl hb 2 Y));refine .GP hl ?_;exact nV
theorem AaW (hl:B5<=4000) (hb:0<=Ac/\Ac<=1000) (c p:Nat) (hc:c<6) (hp:(p+4:Int)<=B5):Dx B5 (YL Ac c p) 0:=
 .GP hl (by unfold YL;exact nV)
theorem xK (hl:B5<=4000) (hb:0<=Ac/\Ac<=1000) (c p:Nat) (hc:c<6) (hp:(p+3:Int)<=B5):Dx B5 (Rw Ac c p) 0:=
 .GP hl (by unfold Rw;exact nV)
theorem ye (hl:B5<=4000) (hb:0<=Ac/\Ac<=1000) (c p:Nat) (hc:c<6) (hp:(p+4:Int)<=B5):Dx B5 (Pd Ac c p) 0:=
 .GP hl (by unfold Pd;exact nV)
theorem wW (hl:B5<=4000) (hb:0<=Ac/\Ac<=1000) (c p:Nat) (hc:c<6):Dx B5 (P8 Ac c p) 0:=
 .GP hl (by unfold P8;exact nV)
theorem vh (hl:B5<=4000) (hb:0<=Ac/\Ac<=1000) (c p:Nat) (hc:c<6):Dx B5 (O5 Ac c p) 0:=
 .GP hl (by unfold O5;exact nV)
theorem rA (hl:B5<=4000) (hb:0<=Ac/\Ac<=1000) (c p:Nat) (hc:c<6):Dx B5 (KY Ac c p) 0:=
 .GP hl (by unfold KY;exact nV)
theorem bR (hl:B5<=4000) (hb:0<=Ac/\Ac<=1000) (p:Nat) (hp:(p+8:Int)<=B5):Dx B5 (LM Ac p) 0:=
 .GP hl (by unfold LM;exact nV)
theorem OH (f:Nat->Nat->List LI) (m:Nat) (hf:∀c p,(f c p).length=m):∀n p,(Fj f n p).length=n*m:=by
 intro n;induction n<;>grind [Fj]
theorem KA (f:Nat->Nat->List LI) (m:Nat) (hlen:∀c p,(f c p).length=m) (n:Nat) (h:∀c p:Nat,c<n->((p+m:Nat):Int)<=B5->Dx B5 (f c p) 0):∀p:Nat,((p+n*m:Nat):Int)<=B5->Dx B5 (Fj f n p) 0/\(Fj f n p).length=n*m:=by
 induction n with
 |zero=>intro p _;exact⟨.nil B5,by simp[Fj]⟩
 |succ n ih=>
  intro p hp;rw[m8,Nat.one_mul] at hp⊢;obtain⟨i1,i2⟩:=ih AC p Y;grind [Fj,i1.FQ]
theorem ma (hl:B5<=4000) (hb:0<=Ac/\Ac<=1000) (n p:Nat) (hn:n<=6) (hp:((p+n*37+3:Nat):Int)<=B5):Dx B5 (FO Ac n p) 0/\(FO Ac n p).length=n*37+3:=by
 obtain⟨a1,a2⟩:=KA (MP Ac) 16 (λ_ _=>rfl) n (λc p hc hp=>wL hl hb c p Y Y) p Y;have Akz:Dx B5 bz 0:=by
  refine .GP hl ?_;unfold bz;exact nV
 have b1:=a1.FQ Akz;have l1:(Fj (MP Ac) n p++bz).length=n*16+3:=by rw[GT,a2];rfl
 obtain⟨c1,c2⟩:=KA (O7 Ac) 14 (λ_ _=>rfl) n (λc p hc hp=>wI hl hb c p Y Y) (p+(n*16+3)) Y;obtain⟨d1,d2⟩:=KA (YL Ac) 4 (λ_ _=>rfl) n (λc p hc hp=>AaW hl hb c p Y Y) (p+(n*16+3+n*14)) Y;obtain⟨e1,e2⟩:=KA (Rw Ac) 3 (λ_ _=>rfl) n (λc p hc hp=>xK hl hb c p Y Y) (p+(n*16+3+n*14+n*4)) Y;unfold FO;simp only[GT,l1,c2,d2];grind [((b1.FQ c1).FQ d1).FQ e1]
theorem Ac1 (hl:B5<=4000) (hb:0<=Ac/\Ac<=1000) (n p:Nat) (hn:n<=6) (BX:Bool) (hp:((p+(RD Ac n BX p).length:Nat):Int)<=B5):Dx B5 (RD Ac n BX p) 0:=by
 unfold RD at hp⊢;cases BX with
 |true=>
  simp only[Qh] at hp⊢;rw[GT] at hp;have Le:(FO Ac n p).length=n*37+3:=by
   unfold FO;simp only[GT,OH (MP Ac) 16 (λ_ _=>rfl),OH (O7 Ac) 14 (λ_ _=>rfl),OH (YL Ac) 4 (λ_ _=>rfl),OH (Rw Ac) 3 (λ_ _=>rfl)];show n*16+3+_+_+_=_;omega
  have h8:∀q,(LM Ac q).length=8:=λ_=>rfl
  rw[Le,h8] at hp;obtain⟨a1,a2⟩:=ma hl hb n p hn Y;rw[a2];grind [a1.FQ,bR]
 |false=>
  simp only[Qb,J1,JF,Jw,JX] at hp⊢;have h8:(LM Ac p).length=8:=rfl;rw[h8] at hp;grind [bR]
theorem zG (hl:B5<=4000) (hb:0<=Ac/\Ac<=1000) (n p:Nat) (hn:n<=6) (hp:((p+n*3:Nat):Int)<=B5):Dx B5 (KW Ac n p) 0:=by
 obtain⟨a1,a2⟩:=KA (KY Ac) 3 (λ_ _=>rfl) n (λc p hc hp=>rA hl hb c p Y) p hp;refine a1.FQ (b:=0) (.GP hl ?_);exact nV
theorem gB (hl:B5<=4000) (hb:0<=Ac/\Ac<=1000) (n C5 p:Nat) (hn:n<=6) (ht:(C5:Int)<=B5) (hp:((p+n*4+8:Nat):Int)<=B5):Dx B5 (Fq Ac n C5 p) 0:=by
 obtain⟨a1,a2⟩:=KA (Pd Ac) 4 (λ_ _=>rfl) n (λc p hc hp=>ye hl hb c p Y Y) p Y;obtain⟨b1,b2⟩:=KA (P8 Ac) 2 (λ_ _=>rfl) 4 (λc p hc hp=>wW hl hb c p Y) (p+n*4) Y;unfold Fq;rw[a2];refine(a1.FQ b1).FQ (b:=0) (.GP hl ?_)<;>grind [smL,yK]
end
theorem mq (Ac:Int) (n C5 p:Nat):(Fq Ac n C5 p).length=n*4+9:=by
 unfold Fq;simp only[GT,OH (Pd Ac) 4 (λ_ _=>rfl),OH (P8 Ac) 2 (λ_ _=>rfl),Jg,Jw]
theorem zL (Ac:Int) (n p:Nat):(KW Ac n p).length=n*3+3:=by
 unfold KW;simp only[GT,OH (KY Ac) 3 (λ_ _=>rfl),Jg,Jw]
def af:Bj->Nat
 |.nil=>0
 |.set _ _ _ _ r=>1+af r
 |.get _ _ _ _ r=>1+af r
 |.put _ _ _ _ r=>1+af r
 |.out _ r=>1+af r
 |.atomic b r=>1+af b+af r
 |.Es _ b r=>1+af b+af r
 |.loop _ b r=>1+af b+af r
def bB:Bj->Nat
 |.nil=>0
 |.set _ _ _ _ r=>bB r
 |.get _ _ _ _ r=>bB r
 |.put _ _ _ _ r=>bB r
 |.out _ r=>bB r
 |.atomic b r=>1+bB b+bB r
 |.Es _ b r=>bB b+bB r
 |.loop _ b r=>bB b+bB r
theorem Aae (t:Bj):(af t:Int)=IE t:=by
 induction t<;>simp only[af,IE]<;>omega
theorem l9 (t:Bj):Ce t<=28*af t+268*bB t:=by
 induction t<;>simp only[Ce,af,bB]<;>omega
theorem AiG (t:Bj):∀d,WF cells t d V->bB t=0:=by
 induction t with
 |nil=>intro d _;rfl
 |set v op a b r ih=>intro d h;exact ih d h.2.2.2.2
 |get v f s a r ih=>intro d h;exact ih d h.2.2.2.2
 |put f s a b r ih=>intro d h;exact ih d h.2.2.2.2
 |out a r ih=>intro d h;exact ih d h.2
 |atomic b r ib ih=>intro d h;exact Jk h.1 Do
 |Es a b r ib ih=>intro d h;simp only[bB,ib _ h.2.2.1,ih d h.2.2.2]
 |loop k b r ib ih=>intro d h;simp only[bB,ib _ h.2.2.1,ih d h.2.2.2]
theorem mw (t:Bj):∀(d:Nat) (n:Int) (b o:Int),WF cells t d I->1<=n->As t n=U (b,o)->(bB t:Int)<=b:=by
 induction t with
 |nil=>grind [As,bB]
 |set v op a c r ih=>intro d n b o hw hn h;exact ih d n b o hw.2.2.2.2 hn h
 |get v f s a r ih=>intro d n b o hw hn h;exact ih d n b o hw.2.2.2.2 hn h
 |put f s a c r ih=>intro d n b o hw hn h;exact ih d n b o hw.2.2.2.2 hn h
 |out a r ih=>
  intro d n b o hw hn h;simp only[As] at h;cases hc:As r n with
  |none=>rw[hc] at h;cases h
  |some q=>
   rw[hc] at h;grind [ih d n q.1 q.2 hw.2 hn hc,bB]
 |atomic c r ib ih=>
  intro d n b o hw hn h;simp only[As] at h;cases hc:As c 1 with
  |none=>rw[hc] at h;cases h
  |some q=>
   rw[hc] at h;simp only[] at h;split at h
   .cases h
   .cases hr:As r n with
    |none=>rw[hr] at h;cases h
    |some q'=>
     rw[hr] at h;simp only[Option.some.injEq,Prod.mk.injEq] at h;have:=ih d n q'.1 q'.2 hw.2.2.2 hn hr;have h0:=AiG c _ hw.2.2.1;grind [bB]
 |Es a c r ib ih=>
  intro d n b o hw hn h;simp only[As] at h;cases hc:As c n with
  |none=>rw[hc] at h;cases h
  |some q=>
   rw[hc] at h;cases hr:As r n with
   |none=>rw[hr] at h;cases h
   |some q'=>
    rw[hr] at h;simp only[Option.some.injEq,Prod.mk.injEq] at h;have:=ih d n q'.1 q'.2 hw.2.2.2 hn hr;have:=ib (d+1) n q.1 q.2 hw.2.2.1 hn hc;grind [bB]
 |loop k c r ib ih=>
  intro d n b o hw hn h;simp only[As] at h;cases hc:As c (n*k) with
  |none=>rw[hc] at h;cases h
  |some q=>
   rw[hc] at h;cases hr:As r n with
   |none=>rw[hr] at h;cases h
   |some q'=>
    rw[hr] at h;simp only[Option.some.injEq,Prod.mk.injEq] at h;have:=ih d n q'.1 q'.2 hw.2.2.2 hn hr;have hk:1<=n*k:=by
     have h1:=hw.1.1;have:1*1<=n*k:=d9 hn h1 Y Y;omega
    have:=ib (d+1) (n*k) q.1 q.2 hw.2.2.1 hk hc;grind [bB]
theorem SP.of (t:Bj):∀(d:Nat) (i:Bool),WF cells t d i->SP t i:=by
 induction t with
 |nil=>intro d i _;trivial
 |set v op a b r ih=>intro d i h;exact ih d i h.2.2.2.2
 |get v f s a r ih=>intro d i h;exact ih d i h.2.2.2.2
 |put f s a b r ih=>intro d i h;exact ih d i h.2.2.2.2
 |out a r ih=>intro d i h;exact ih d i h.2
 |atomic b r ib ih=>intro d i h;exact⟨h.1,ib _ _ h.2.2.1,ih d i h.2.2.2⟩
 |Es a b r ib ih=>intro d i h;exact⟨ib _ _ h.2.2.1,ih d i h.2.2.2⟩
 |loop k b r ib ih=>intro d i h;exact⟨ib _ _ h.2.2.1,ih d i h.2.2.2⟩
theorem Ac7 (Ac B5:Int) (hl:B5<=4000) (hb:0<=Ac/\Ac<=1000) (cells:Int) (n:Nat) (hn:n<=6) (B8:cells<=6) (t:Bj):∀(d:Nat) (Ao:Bool) (Af p:Nat),WF cells t d Ao->Af<=d->d<=3->
  ((p+(Gu Ac n Ao Af p t).length:Nat):Int)<=B5->Dx B5 (Gu Ac n Ao Af p t) (12*af t):=by
 induction t with
 |nil=>intro d Ao Af p _ _ _ _;exact .nil B5
 |set v op a b r ih=>
  intro d Ao Af p hw hd h3 hp;obtain⟨hv,IV,ha,tK,hr⟩:=hw;simp only[Gu,GT] at hp⊢;have h2:=ih d Ao Af _ hr hd h3 (by rw[Jq];exact hp);have h1:Dx B5 (aM Ac v op a b) 12:=by
   unfold aM;have A1:=RV ha 1 ⟨Y,Y⟩;have B2:=RV tK 2 ⟨Y,Y⟩;have c1:=Nv (B5:=B5) (Ac:=Ac) hl hb a ha 1 ⟨Y,Y⟩;have c2:=Nv (B5:=B5) (Ac:=Ac) hl hb b tK 2 ⟨Y,Y⟩;split<;>rename_i ho
   .refine(c1.FQ (b:=1) (.any hl ?_)).mono Y;simp only[Ls,OT,okL,Sd,SX,and_true];refine⟨?_,?_,A1⟩<;>first|exact Na (aJ _ Y)|(unfold i64;omega)
   .refine((c1.FQ c2).FQ (b:=2) (.any hl ?_)).mono Y;simp only[Ls,OT,okL,Sd,SX,and_true];refine⟨⟨AC,?_,A1,B2⟩,?_,?_,?_⟩<;>first|exact Na (aJ _ Y)|exact Na (nW _ Y)|(unfold i64;omega)|(unfold Oq;omega)
  exact(h1.FQ h2).mono (by simp only[af];omega)
 |get v f s a r ih=>
  intro d Ao Af p hw hd h3 hp;obtain⟨hv,hf,ha,hi,hr⟩:=hw;simp only[Gu,GT] at hp⊢;have hg:∀q,(TW Ac q).length=18:=λ_=>rfl
  simp only[hg,Jg,Jw] at hp⊢;have h2:=ih d Ao Af (p+((GY Ac p f s a).length+18+(0+1))) hr hd h3 (by simp only[Jq] at hp⊢;exact hp);have h1:=dY (B5:=B5) (Ac:=Ac) hl hb p f s ⟨Y,Y,Y,Y⟩ a ha Y;have h4:=AcE (B5:=B5) (Ac:=Ac) hl hb (p+(GY Ac p f s a).length) Y;have h5:Dx B5 [LI.i (.store (.n (Ac+v)) 0 (.r 1))] 0:=by
   refine .GP hl ?_;simp only[Ls,OT,smL,yK,and_true];refine⟨?_,?_,?_⟩<;>first|exact nW _ Y|exact aJ _ Y|(unfold sN;omega)
  exact(((h1.FQ h4).FQ h5).FQ h2).mono (by simp only[af];omega)
 |put f s i a r ih=>
  intro d Ao Af p hw hd h3 hp;obtain⟨hf,hi,ha,Pv,hr⟩:=hw;simp only[Gu,GT,Jg,Jw] at hp⊢;have h2:=ih d Ao Af (p+((GY Ac p f s i).length+(DL Ac a 1).length+(0+1+1))) hr hd h3 (by simp only[Jq] at hp⊢;exact hp);have h1:=dY (B5:=B5) (Ac:=Ac) hl hb p f s ⟨Y,Y,Y,Y⟩ i hi Y;have c1:=Nv (B5:=B5) (Ac:=Ac) hl hb a ha 1 ⟨Y,Y⟩;have A1:=RV ha 1 ⟨Y,Y⟩;have h5:Dx B5 [LI.i (.store (.r 0) (Ac+14) (GS.BD a 1)),LI.i (.store (.r 0) (Ac+8) (.n 1))] 2:=by
   refine .any hl ?_;simp only[Ls,OT,okL,Sd,SX,and_true];refine⟨⟨?_,?_,A1⟩,?_,?_,?_⟩<;>first|exact Na (nW _ Y)|exact Na (aJ _ Y)|(unfold i64;omega)
  exact(((h1.FQ c1).FQ h5).FQ h2).mono (by simp only[af];omega)
 |out a r ih=>
  intro d Ao Af p hw hd h3 hp;obtain⟨ha,hr⟩:=hw;simp only[Gu,GT] at hp⊢;have h2:=ih d Ao Af _ hr hd h3 (by rw[Jq];exact hp);have h1:Dx B5 (kr Ac Ao a) 12:=by
   obtain⟨v1,v2,v3,v4,v5,v6,v7,v8⟩:=Up;unfold kr;have A1:=RV ha 1 ⟨Y,Y⟩;have c1:=Nv (B5:=B5) (Ac:=Ac) hl hb a ha 1 ⟨Y,Y⟩;split
   .refine(c1.FQ (b:=4) (.any hl ?_)).mono Y;simp only[Ls,OT,okL,Sd,SX,and_true];refine⟨⟨?_,?_,?_⟩,⟨?_,?_,A1⟩,⟨v1,?_,?_,?_⟩,?_,?_,?_⟩<;>first|exact Na (aJ _ Y)|exact Na (nW _ Y)|(unfold i64;omega)|(unfold Oq;omega)
   .refine(c1.FQ (b:=1) (.any hl ?_)).mono Y<;>grind [okL,Sd,SX]
  exact(h1.FQ h2).mono (by simp only[af];omega)
 |Es a b r ib ih=>
  intro d Ao Af p hw hd h3 hp;obtain⟨ha,yT,Vb,hr⟩:=hw;simp only[Gu,GT,Jg] at hp⊢;have hB:=ib (d+1) Ao Af (p+(DL Ac a 1).length+1) Vb Y Y Y;generalize hBe:Gu Ac n Ao Af (p+(DL Ac a 1).length+1) b=B at hp hB⊢;have h2:=ih d Ao Af (p+((DL Ac a 1).length+(J B+1))) hr hd h3 (by simp only[Jq] at hp⊢;exact hp);have A1:=RV ha 1 ⟨Y,Y⟩;have c1:=Nv (B5:=B5) (Ac:=Ac) hl hb a ha 1 ⟨Y,Y⟩;have hj:Dx B5 [LI.i (.jz (GS.BD a 1) (p+(DL Ac a 1).length+1+J B:Nat))] 1:=by
   refine .any hl ?_<;>grind [okL,Sd,SX]
  exact((c1.FQ (hj.FQ hB)).FQ h2).mono (by simp only[af];omega)
 |loop k b r ib ih=>
  intro d Ao Af p hw hd h3 hp;obtain⟨hk,yT,Vb,hr⟩:=hw;simp only[Gu,GT,Jg,Jw,Jx] at hp⊢;have hB:=ib (d+1) Ao (Af+1) (p+1) Vb Y Y Y;generalize hBe:Gu Ac n Ao (Af+1) (p+1) b=B at hp hB⊢;have h2:=ih d Ao Af (p+(J B+(0+1+1+1+1+1)+1)) hr hd h3 Y;obtain⟨v1,v2,v3,v4,v5,v6,v7,v8⟩:=Up;have h0:Dx B5 [LI.i (.store (.n (Ac+(48+Af))) 0 (.n k))] 0:=by
   refine .GP hl ?_;simp only[Ls,OT,smL,yK,and_true];refine⟨?_,?_,?_⟩<;>first|exact aJ _ Y|(unfold sN;omega)
  have h5:Dx B5 [LI.i (.load 1 (.n (Ac+(48+Af))) 0),LI.i (.op KF 1 (.r 1) (.n 1)),LI.i (.store (.n (Ac+(48+Af))) 0 (.r 1)),LI.i (.jz (.r 1) (p+1+J B+5:Nat)),LI.i (.GF (p+1:Nat))] 0:=by
   refine .GP hl ?_;simp only[Ls,OT,smL,yK,and_true];refine⟨⟨?_,?_,?_⟩,⟨v2,?_,?_,?_⟩,⟨?_,?_,?_⟩,⟨?_,?_,?_⟩,?_,?_⟩<;>first|exact aJ _ Y|exact nW _ Y|(unfold sN;omega)|(unfold Oq;omega)|omega
  exact((h0.FQ (hB.FQ h5)).FQ h2).mono (by simp only[af];omega)
 |atomic b r ib ih=>
  intro d Ao Af p hw hd h3 hp;obtain⟨hi,yT,Vb,hr⟩:=hw;have hs4:(Fj (O5 Ac) 4 p).length=8:=rfl;simp only[Gu,GT,Jg,JZ,CM,hs4,mq,zL] at hp⊢;have hB:=ib (d+1) V Af (p+8+(n*3+3)) Vb Y Y Y;generalize hBe:Gu Ac n V Af (p+8+(n*3+3)) b=B at hp hB⊢;have hE:=Ac1 (B5:=B5) (Ac:=Ac) hl hb n (p+8+(n*3+3)+J B) hn (BU b) Y;generalize hEe:RD Ac n (BU b) (p+8+(n*3+3)+J B)=E at hp hE⊢;have h2:=ih d Ao Af (p+(8+(n*3+3+J B+J E)+(n*4+9+1))) hr hd h3 (by simp only[Jq] at hp⊢;exact hp);obtain⟨s1,s2⟩:=KA (B5:=B5) (O5 Ac) 2 (λ_ _=>rfl) 4 (λc p hc _=>vh hl hb c p Y) p Y;have hT:=zG (B5:=B5) (Ac:=Ac) hl hb n (p+8) hn Y;have hK:=gB (B5:=B5) (Ac:=Ac) hl hb n (p+8) (p+8+(n*3+3+J B+J E)+1) hn Y Y;have hm:=((hT.FQ hB).FQ hE).AlI (q:=(p+8+(n*3+3+J B+J E)+1:Nat)) Y Y;have hj:Dx B5 [LI.i (.GF (p+8+(n*3+3+J B+J E)+1+(n*4+9):Nat))] 0:=by
   refine .GP hl ?_<;>grind [smL,yK]
  exact(((s1.FQ hm).FQ (hj.FQ hK)).FQ h2).mono (by simp only[af];omega)
theorem lQ (t:List GI):(t.flatMap λi=>i.Ae++[10]).length=bytesOf t:=by
 induction t<;>grind [bytesOf,MS]
theorem x6 (cells:Int) (k:Nat) (t:Bj) (hk:k<3) (B8:0<=cells/\cells<=6) (hw:WF cells t 0 I) (Aw:IE t<=14) {b o:Int} (hc:As t 1=U (b,o)) (hb:b<=3):
  (Ga cells k t).length<=1197/\(∀i,i∈Ga cells k t->Sd 4000 i)/\bytesOf (Ga cells k t)<=40052:=by
 have h1:=(RY cells t B8 0 I (.start k cells) hw rfl rfl).2.2;have h2:=l9 t;have h3:=mw t 0 1 b o hw Y hc;have h4:=Aae t;have e:=ZT cells k t (SP.of t 0 I hw);have hlen:(Ga cells k t).length=(Gu (32+64*k) cells.toNat I 0 0 t).length+1:=by rw[e];simp[rz]
 have Ans:(Ga cells k t).length<=Ce t+1:=by
  unfold Ga;show((GS.Dh t (GS.start k cells)).Ab++[GI.halt]).length<=_;rw[GT];have e0:(GS.start k cells).Ab.length=0:=rfl;grind
 have hl:(Ga cells k t).length<=1197:=Y
 have tH:=Ac7 (32+64*k) 4000 Y Y cells cells.toNat Y B8.2 t 0 I 0 0 hw Y Y Y;refine⟨hl,?_,?_⟩
 .rw[e];intro i hi;rcases Jp.1 hi with hi|hi
  .exact tH.rz Y Y i hi
  .rw[GE] at hi;subst hi;trivial
 .rw[e,Xi];have:=tH.len 0 Y Y;have h5:bytesOf [GI.halt]=5:=by decide+kernel
  rw[h5];omega
theorem IT (h:PS y p):(∀t,t∈CE y.cells y.Aa (J y.Aa)->J t<=1197/\(∀i,i∈t->Sd 4000 i)/\bytesOf t<=40052)/\(∀t,t∈y.Aa->WF y.cells t 0 I/\Ce t<=5000)/\y.cells<=6/\J y.Aa<=3:=by
 have Eo:=h.B5;unfold Ej at Eo;simp only[JD,JB,Nm] at Eo;obtain⟨lF,h3,DT⟩:=Eo;have AmA:∀u,u∈y.Aa->∃b o,As u 1=U (b,o)/\b<=3:=AC;refine⟨λt ht=>?_,λt ht=>⟨h.fw.th _ ht,?_⟩,lF,h3⟩;grind [List.mem_map.1 ht,List.getElem_mem,x6,h.fw.c0,h.fw.th,h.fn.all]
 .obtain⟨b,o,h1,h2⟩:=AmA _ ht;have a1:=l9 t;have a2:=mw t 0 1 b o (h.fw.th _ ht) Y h1;have a3:=Aae t;have a4:=h.fn.all _ ht;omega
theorem XN (h:PS y p):(DM (CE y.cells y.Aa (J y.Aa))).length<=131072:=by
 obtain⟨Ex,_,_,h3⟩:=IT h;have hb:∀l:List (List GI),(∀t,t∈l->bytesOf t<=40052)->(DM l).length<=J l*40059:=by
  intro l;induction l with
  |nil=>intro _;simp[DM]
  |cons t l ih=>
   intro hh;have h1:=ih λu hu=>hh u (Id _ hu)
   have h2:=hh t (Jd ..);unfold DM at h1⊢;simp only[JV,GT,XM,Jg,lQ];have h6:J AE=6:=rfl;rw[m8];omega
 have:=hb _ λt ht=>(Ex t ht).2.2
 rw[KJ] at this;have:J y.Aa*40059<=3*40059:=Qq _ h3;omega
theorem ZS (h:PS y p):MQ (DM (CE y.cells y.Aa (J y.Aa)))=.ok ⟨List.replicate 256 0,(CE y.cells y.Aa (J y.Aa)).map λt=>uU (t.map GI.DI)⟩:=by
 obtain⟨Ex,_,_,h3⟩:=IT h;refine wN (B5:=4000) Y _ ?_ ?_ (λt ht=>⟨by have:=(Ex t ht).1;omega,(Ex t ht).2.1⟩) (XN h)<;>grind [KJ,PS]
