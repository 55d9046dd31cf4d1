/- Part 16 of the proof. -/
import Derived.Test.YtpdfifdlhpmofaaGreatDoorA15
import Derived.Test.YtpdfifdlhpmofaaGreatDoorA09
import Derived.Test.YtpdfifdlhpmofaaGreatDoorA05
set_option linter.unusedVariables false
set_option linter.unusedSimpArgs false
set_option maxHeartbeats 0
set_option maxRecDepth 99999
namespace Go.Proofs.YtpdfifdlhpmofaaGreatDoor
open Go.RowKit
open Value renaming slice->qD,string->qE,bool->qF,tuple->qG,agg->qH,pointer->qI
open Ending renaming returned->qJ
open Obj renaming cells->qK
open Option renaming none->Z,some->U
open Bool renaming true->V,false->I
open Go.Lib renaming hid->D
open List renaming length->J
theorem mbA {p:Prop} (h:p:=by
 refine((Dv.FY (a:=0) (b:=0) ?_ (Wf hl hb 2 Y)).FY (b:=0) ?_)
 .exact .GV hl pd
 .exact .GV hl pd):p:=h
theorem mbJ {p:Prop} (h:p:=by
 simp only[Jl,not_or] at h;rw[Jy,Ie _ _ _ AC,ih h.2];rfl):p:=h
variable {w:World} {A:List Ob} {k v B8 cells:Int} {a:Ag} {l:List LI} {b:Nat} {p:RP} {y:qL}
theorem GS.dV (i:Nat) (g:GS):(GS.Re i g).Ab.length=J g.Ab+16:=by unfold GS.Re GS.NY;simp only[PC]
theorem GS.dU (i:Nat) (g:GS):(GS.Rc i g).Ab.length=J g.Ab+14:=by unfold GS.Rc GS.NY;simp only[PC]
theorem GS.lA (i:Nat) (g:GS):(GS.Ze i g).Ab.length=J g.Ab+4:=by unfold GS.Ze GS.NY;simp only[PC]
theorem GS.eK (i:Nat) (g:GS):(GS.Rx i g).Ab.length=J g.Ab+3:=by unfold GS.Rx GS.NY;simp only[PC]
theorem Aq.left {B:List Ob} (h:Aq w (A++B)):Aq w A:=(Af.AK h).Ak
theorem Zj {o:Ob} (h:Aq w A) (ho:o.holds w) (hf:o.fp=[]):Af w A w (A++[o]):=by
 have e:Er (A++[o])=Er A:=by rw[Bo,G9,hf];simp[Er]
 refine⟨⟨λp hp=>?_,by rw[e];exact h.Lk⟩,Aw.refl _ _,λb hb=> .inl (by rw[e] at hb;exact hb)⟩<;>grind [Aq]
def Cf:Bj->Nat
 |.nil=>0
 |.set _ _ _ _ r=>4+Cf r
 |.get _ _ _ _ r=>28+Cf r
 |.put _ _ _ _ r=>12+Cf r
 |.out _ r=>6+Cf r
 |.atomic b r=>296+Cf b+Cf r
 |.Ew _ b r=>2+Cf b+Cf r
 |.loop _ b r=>6+Cf b+Cf r
theorem LW (l:List Io) (g:GS):(l.foldl GS.Bd g).Ab.length=J g.Ab:=by
 induction l generalizing g<;>grind [GS.Eg]
theorem GS.Gh (g:GS):J g.Eh.Ab=J g.Ab+g.cells.toNat*37+3:=by
 grind [GS.Eh,Lt GS.eK,Lt GS.lA,Lt GS.dU,GS.Lx,GS.BS,Lt GS.dV]
theorem GS.PU (g:GS):J g.GR.Ab=J g.Ab+8:=by
 grind [GS.GR,GS.Eg,GS.BS,GS.Lx,GS.ZD,GS.LH,GS.Rf]
theorem GS.RL (g:GS) (C4:Nat):(g.GB C4).Ab.length=J g.Ab+g.cells.toNat*4+9:=by
 unfold GS.GB;simp only[];rw[GS.BS,Lt GS.dZ,Lt GS.fu]
theorem GS.dq (c:Nat) (g:GS):(GS.Pj c g).Ab.length=J g.Ab+2:=by grind [GS.Pj,GS.L8,GS.Rf]
theorem GS.aH (c:Nat) (g:GS):(GS.Kr c g).Ab.length=J g.Ab+3:=by grind [GS.Kr,GS.L8]
theorem Sa (cells:Int) (t:Bj) (hc:0<=cells/\cells<=6):∀(d:Nat) (BY:Bool) (G:GS),WF cells t d BY->G.block=BY->G.cells=cells->
  Ar (GS.Dg t G) G/\J G.Ab<=(GS.Dg t G).Ab.length/\(GS.Dg t G).Ab.length<=J G.Ab+Cf t:=by
 induction t with
 |nil=>grind [Ar.refl,GS.Dg]
 |set v op a b r ih=>
  intro d BY G hw hb Cs;have v1:=GS.Dw G a 1;have v1':=GS.D6 G a 1;have v2:=GS.Dw (G.Cn a 1) b 2;have v2':=GS.D6 (G.Cn a 1) b 2;by_cases I7:op.size=0
  .have e:GS.Dg (.set v op a b r) G=GS.Dg r ((G.Cn a 1).st v (GS.BF a 1)):=by simp[GS.Dg,I7]
   have hs:Ar ((G.Cn a 1).st v (GS.BF a 1)) G:=((Ar.refl G).Cn a 1).AP _;obtain⟨i1,i2,i3⟩:=ih d BY _ hw.2.2.2.2 (hs.block.trans hb) (hs.cells.trans Cs)<;>grind [GS.L8,Cf,Ar]
  .have e:GS.Dg (.set v op a b r) G=GS.Dg r ((((G.Cn a 1).Cn b 2).II op 1 (GS.BF a 1) (GS.BF b 2)).st v (.r 1)):=by simp[GS.Dg,I7]
   have hs:Ar ((((G.Cn a 1).Cn b 2).II op 1 (GS.BF a 1) (GS.BF b 2)).st v (.r 1)) G:=((((Ar.refl G).Cn a 1).Cn b 2).AP _).AP _;obtain⟨i1,i2,i3⟩:=ih d BY _ hw.2.2.2.2 (hs.block.trans hb) (hs.cells.trans Cs)<;>grind [GS.L8,GS.Lx,Cf,Ar]
 |get v f s a r ih=>
  intro d BY G hw hb Cs;have v1:=GS.OB G f s a;have v0:=GS.Dw G a 0;have v0':=GS.D6 G a 0;have hs:Ar (((G.EP f s a).SR).st v (.r 1)) G:=(((Ar.refl G).EP f s a).SR).AP _;obtain⟨i1,i2,i3⟩:=ih d BY _ hw.2.2.2.2 (hs.block.trans hb) (hs.cells.trans Cs)<;>grind [GS.L8,GS.mT,GS.Dg,Cf,Ar]
 |put f s i a r ih=>
  intro d BY G hw hb Cs;have v1:=GS.OB G f s i;have v0:=GS.Dw G i 0;have v0':=GS.D6 G i 0;have v2:=GS.Dw (G.EP f s i) a 1;have v2':=GS.D6 (G.EP f s i) a 1;have hs:Ar (((((G.EP f s i).Cn a 1).I8 14 0 (GS.BF a 1)).I8 8 0 (.n 1))) G:=((((Ar.refl G).EP f s i).Cn a 1).AP _).AP _;obtain⟨i1,i2,i3⟩:=ih d BY _ hw.2.2.2.2 (hs.block.trans hb) (hs.cells.trans Cs)<;>grind [GS.UO,GS.Dg,Cf,Ar]
 |out a r ih=>
  intro d BY G hw hb Cs;have v1:=GS.Dw G a 1;have v1':=GS.D6 G a 1;cases ES:G.block with
  |false=>
   have e:GS.Dg (.out a r) G=GS.Dg r ((G.Cn a 1).AP (.out (GS.BF a 1))):=by simp[GS.Dg,ES]
   have hs:Ar ((G.Cn a 1).AP (.out (GS.BF a 1))) G:=((Ar.refl G).Cn a 1).AP _;obtain⟨i1,i2,i3⟩:=ih d BY _ hw.2 (hs.block.trans hb) (hs.cells.trans Cs)<;>grind [GS.BS,Cf,Ar]
  |true=>
   have e:GS.Dg (.out a r) G=GS.Dg r (((((G.Cn a 1).lo 2 39).I8 40 2 (GS.BF a 1)).II KO 2 (.r 2) (.n 1)).st 39 (.r 2)):=by simp[GS.Dg,ES]
   have hs:Ar (((((G.Cn a 1).lo 2 39).I8 40 2 (GS.BF a 1)).II KO 2 (.r 2) (.n 1)).st 39 (.r 2)) G:=(((((Ar.refl G).Cn a 1).AP _).AP _).AP _).AP _;obtain⟨i1,i2,i3⟩:=ih d BY _ hw.2 (hs.block.trans hb) (hs.cells.trans Cs)<;>grind [GS.L8,GS.Lx,GS.UO,GS.Rf,Cf,Ar]
 |Ew a b r ib ih=>
  intro d BY G hw hb Cs;have v1:=GS.Dw G a 1;have v1':=GS.D6 G a 1;have h1:Ar ((G.Cn a 1).CL (GS.BF a 1)) G:=((Ar.refl G).Cn a 1).AP _;obtain⟨j1,j2,j3⟩:=ib (d+1) BY _ hw.2.2.1 (h1.block.trans hb) (h1.cells.trans Cs);rw[GS.LH] at j2 j3;have hs:Ar ((GS.Dg b ((G.Cn a 1).CL (GS.BF a 1))).Bd ((G.Cn a 1).EN (GS.BF a 1))) G:=(j1.trans h1).Bd _;obtain⟨i1,i2,i3⟩:=ih d BY _ hw.2.2.2 (hs.block.trans hb) (hs.cells.trans Cs)<;>grind [GS.Eg,GS.Dg,Cf,Ar]
 |loop n b r ib ih=>
  intro d BY G hw hb Cs;have h1:Ar (G.st (48+G.Ah) (.n n)) G:=(Ar.refl G).AP _;obtain⟨j1,j2,j3⟩:=ib (d+1) BY {(G.st (48+G.Ah) (.n n)) with Ah:=(G.st (48+G.Ah) (.n n)).Ah+1} hw.2.2.1 hb Cs;have j2':(G.st (48+G.Ah) (.n n)).Ab.length<=_:=j2;have j3':_<=(G.st (48+G.Ah) (.n n)).Ab.length+Cf b:=j3;rw[GS.L8] at j2' j3';generalize hg2:GS.Dg b {(G.st (48+G.Ah) (.n n)) with Ah:=(G.st (48+G.Ah) (.n n)).Ah+1}=g2 at j1 j2' j3';have h3:Ar {g2 with Ah:=g2.Ah-1} G:=⟨j1.Ac,j1.cells,j1.block,by grind [Ar]⟩;have e:GS.Dg (.loop n b r) G=GS.Dg r ((((((({g2 with Ah:=g2.Ah-1}:GS).lo 1 (48+G.Ah)).II KN 1 (.r 1) (.n 1)).st (48+G.Ah) (.r 1)).CL (.r 1)).AP (.GN (G.st (48+G.Ah) (.n n)).Ab.length)).Bd (((({g2 with Ah:=g2.Ah-1}:GS).lo 1 (48+G.Ah)).II KN 1 (.r 1) (.n 1)).st (48+G.Ah) (.r 1) |>.EN (.r 1))):=by
   rw[<-hg2];rfl
  have hs:Ar ((((((({g2 with Ah:=g2.Ah-1}:GS).lo 1 (48+G.Ah)).II KN 1 (.r 1) (.n 1)).st (48+G.Ah) (.r 1)).CL (.r 1)).AP (.GN (G.st (48+G.Ah) (.n n)).Ab.length)).Bd (((({g2 with Ah:=g2.Ah-1}:GS).lo 1 (48+G.Ah)).II KN 1 (.r 1) (.n 1)).st (48+G.Ah) (.r 1) |>.EN (.r 1))) G:=(((((h3.AP _).AP _).AP _).AP _).AP _).Bd _;obtain⟨i1,i2,i3⟩:=ih d BY _ hw.2.2.2 (hs.block.trans hb) (hs.cells.trans Cs)<;>grind [GS.Eg,GS.BS,GS.LH,GS.L8,GS.Lx,GS.Rf,Cf,Ar]
 |atomic b r ib ih=>
  intro d BY G hw hb Cs;have hi:BY=I:=hw.1;have h1:Ar G.BU G:=Ar.OF Ar.Pj 4 (Ar.refl G);have l1:J G.BU.Ab=J G.Ab+8:=Lt GS.dq 4 G;have t1:(G.BU.Us).Ab.length=J G.BU.Ab+G.BU.cells.toNat*3+3:=by
   unfold GS.Us;simp only[];rw[GS.L8,GS.l7,GS.L8,Lt GS.aH]
  have t2:G.BU.Us.Ac=G.BU.Ac/\G.BU.Us.cells=G.BU.cells/\G.BU.Us.Ah=G.BU.Ah:=by
   have:=((((Ar.OF Ar.Kr G.BU.cells.toNat (Ar.refl G.BU)).AP (.store (.n ((GS.OF GS.Kr G.BU.cells.toNat G.BU).Ac+39)) 0 (.n 0))).AP (.load 1 (.n 16) 0)));exact⟨this.Ac,this.cells,this.Ah⟩
  obtain⟨j1,j2,j3⟩:=ib (d+1) V G.BU.Us hw.2.2.1 rfl (t2.2.1.trans (h1.cells.trans Cs));generalize hg2:GS.Dg b G.BU.Us=g2 at j1 j2 j3;have hcn:G.BU.cells.toNat<=6:=by rw[h1.cells,Cs];omega
  have Aoq:g2.cells.toNat<=6:=by rw[j1.cells,t2.2.1];exact hcn
  have hh:∀p:Bool,Ar (g2.PG (J G.BU.Ab) p) {g2 with block:=I}/\J g2.Ab<=(g2.PG (J G.BU.Ab) p).Ab.length/\(g2.PG (J G.BU.Ab) p).Ab.length<=J g2.Ab+g2.cells.toNat*41+21:=by
   intro p;have q:Ar (if p then ({g2 with block:=I}:GS).Eh else {g2 with block:=I}) {g2 with block:=I}:=by
    cases p
    .exact Ar.refl _
    .exact(Ar.refl _).Eh
   have ql:J g2.Ab<=(if p then ({g2 with block:=I}:GS).Eh else {g2 with block:=I}).Ab.length/\(if p then ({g2 with block:=I}:GS).Eh else {g2 with block:=I}).Ab.length<=J g2.Ab+g2.cells.toNat*37+3:=by
    grind [GS.Gh]
   unfold GS.PG;simp only[];generalize (if p then ({g2 with block:=I}:GS).Eh else {g2 with block:=I})=g3 at q ql;have u:=(((q.GR.AP (.GN 0)).uH g3.GR.CW.BN).GB (J G.BU.Ab)).Bd g3.GR.Wp;refine⟨u,?_,?_⟩;grind [GS.Eg,GS.RL,LW,GS.FJ,GS.PU]
   .rw[GS.Eg,GS.RL,LW,GS.FJ,GS.PU];have:(g3.GR.CW.BN.foldl GS.Bd g3.GR.CW).cells=g2.cells:=((q.GR.AP (.GN 0)).uH g3.GR.CW.BN).cells;rw[this];omega
  obtain⟨k1,k2,k3⟩:=hh (BV b);have hs:Ar (g2.PG (J G.BU.Ab) (BV b)) G:=⟨k1.Ac.trans (j1.Ac.trans (t2.1.trans h1.Ac)),k1.cells.trans (j1.cells.trans (t2.2.1.trans h1.cells)),k1.block.trans (by rw[hb,hi]),k1.Ah.trans (j1.Ah.trans (t2.2.2.trans h1.Ah))⟩;obtain⟨i1,i2,i3⟩:=ih d BY _ hw.2.2.2 (hs.block.trans hb) (hs.cells.trans Cs)<;>grind [GS.Dg,Cf,Ar]
def Lu (k:Int):By:=114::Lib.itoa k
def Kt (a:Ag):By:=if a.Dd then Lu a.v else Lib.itoa a.v
def GI.ws:GI->List By
 |.Zv d a=>[[109,111,118],Lu d,Kt a]
 |.op n d a b=>[bs n,Lu d,Kt a,Kt b]
 |.load d a k=>[[108,111,97,100],Lu d,Kt a,Lib.itoa k]
 |.store a k b=>[[115,116,111,114,101],Kt a,Lib.itoa k,Kt b]
 |.La d a k b c=>[[99,97,115],Lu d,Kt a,Lib.itoa k,Kt b,Kt c]
 |.El d a k b=>[[120,97,100,100],Lu d,Kt a,Lib.itoa k,Kt b]
 |.Mr=>[[102,101,110,99,101]]
 |.out a=>[[111,117,116],Kt a]
 |.GN q=>[[106,109,112],Lib.itoa q]
 |.jz a q=>[[106,122],Kt a,Lib.itoa q]
 |.CS k=>[[116,114,97,112],Lib.itoa k]
 |.halt=>[[104,97,108,116]]
def DB:List By->By
 |[]=>[]
 |[a]=>a
 |a::b::r=>a++32::DB (b::r)
def GI.Ae (i:GI):By:=DB i.ws
def Yc (t:List GI):By:=AE++10::t.flatMap λi=>i.Ae++[10]
def DK (ts:List (List GI)):By:=ts.flatMap Yc
def OG (k:Int):Prop:=0<=k/\k<=7
def i64 (v:Int):Prop:= -9223372036854775808<=v/\v<=9223372036854775807
def D7 (a:Ag):Prop:=if a.Dd then OG a.v else i64 a.v
def SK (B8:Int):GI->Prop
 |.Zv d a=>OG d/\D7 a
 |.op n d a b=>n∈B7/\OG d/\D7 a/\D7 b
 |.load d a k=>OG d/\D7 a/\i64 k
 |.store a k b=>D7 a/\i64 k/\D7 b
 |.La d a k b c=>OG d/\D7 a/\i64 k/\D7 b/\D7 c
 |.El d a k b=>OG d/\D7 a/\i64 k/\D7 b
 |.Mr=>False
 |.out a=>D7 a
 |.GN q=>0<=q/\q<=B8
 |.jz a q=>D7 a/\0<=q/\q<=B8
 |.CS k=>1<=k/\k<=9
 |.halt=>True
def Ag.rv (a:Ag):SV:=⟨a.Dd,a.v⟩
def GI.DM:GI->Bi
 |.Zv d a=>{Bi.of ⟨#[109,111,118]⟩ with d:=d,a:=a.rv}
 |.op n d a b=>{Bi.of n with d:=d,a:=a.rv,b:=b.rv}
 |.load d a k=>{Bi.of ⟨#[108,111,97,100]⟩ with d:=d,a:=a.rv,k:=k}
 |.store a k b=>{Bi.of ⟨#[115,116,111,114,101]⟩ with a:=a.rv,k:=k,b:=b.rv}
 |.La d a k b c=>{Bi.of ⟨#[99,97,115]⟩ with d:=d,a:=a.rv,k:=k,b:=b.rv,c:=c.rv}
 |.El d a k b=>{Bi.of ⟨#[120,97,100,100]⟩ with d:=d,a:=a.rv,k:=k,b:=b.rv}
 |.Mr=>Bi.of ⟨#[102,101,110,99,101]⟩
 |.out a=>{Bi.of ⟨#[111,117,116]⟩ with a:=a.rv}
 |.GN q=>{Bi.of ⟨#[106,109,112]⟩ with k:=q}
 |.jz a q=>{Bi.of ⟨#[106,122]⟩ with a:=a.rv,k:=q}
 |.CS k=>{Bi.of ⟨#[116,114,97,112]⟩ with k:=k}
 |.halt=>Bi.of ⟨#[104,97,108,116]⟩
theorem Uc (v:Int):∀c,c∈Lib.itoa v->Eo c\/c=45:=by
 grind [Lib.itoa,Hh]
theorem lu (h:OG k):∃c:UInt8,Lib.itoa k=[c]/\(c.toNat:Int)=48+k:=by
 obtain⟨h1,h2⟩:=h;refine⟨UInt8.ofNat (48+k.toNat),?_,?_⟩<;>grind [Lib.itoa,Lib.decDigits,UInt8.toNat_ofNat']
theorem Y7 (h:OG k):N2 (Lu k)=U k.toNat:=by
 obtain⟨c,hc,hv⟩:=lu h;obtain⟨h1,h2⟩:=h;unfold Lu N2;rw[hc];simp only[Jg,Jx,jN,jO];rw[Jd ⟨trivial,rfl,Y,Y⟩];grind
theorem pH (v:Int):N2 (Lib.itoa v)=Z:=by
 unfold N2;rw[In];intro h;have h2:=h.2.1;cases hl:Lib.itoa v with
 |nil=>grind
 |cons c r=>
  rw[hl] at h2;simp only[jN] at h2;rcases Uc v c (by rw[hl];grind) with h3|rfl
  .have:=h3.2;omega
  grind
theorem V3 (h:D7 a):NT (Kt a)=U a.rv:=by
 unfold D7 at h;unfold Kt NT Ag.rv;cases hr:a.Dd with
 |true=>
  rw[hr] at h;simp only[Qf] at h⊢;rw[Y7 h];have:=h.1;grind
 |false=>
  rw[hr] at h;simp only[Qd,J7] at h⊢;rw[pH,KM a.v h.1 h.2]
theorem tG (a:ByteArray) (l:List ByteArray):wd (a::l) 0=a:=rfl
theorem ZQ (h:OG k) (i:Bi):Gu 100 (bs (AR (Lu k))) i=({i with d:=k},V):=by
 unfold Gu;rw[Jd Do,Di,Y7 h];have:=h.1;simp only[Qq,QQ];rw[show((k.toNat:Nat):Int)=k by omega]
theorem Rk (h:D7 a) (i:Bi):Gu 97 (bs (AR (Kt a))) i=({i with a:=a.rv},V):=by
 grind [Gu,Di,V3]
theorem gL (h:D7 a) (i:Bi):Gu 98 (bs (AR (Kt a))) i=({i with b:=a.rv},V):=by
 grind [Gu,Di,V3]
theorem Ah6 (h:D7 a) (i:Bi):Gu 99 (bs (AR (Kt a))) i=({i with c:=a.rv},V):=by
 grind [Gu,Di,V3]
theorem gK (h:i64 v) (i:Bi):Gu 107 (bs (AR (Lib.itoa v))) i=({i with k:=v},V):=by
 grind [Gu,Di,KM v h.1 h.2]
theorem Aco (h0:0<=v) (h1:v<=4000) (i:Bi):Gu 116 (bs (AR (Lib.itoa v))) i=({i with k:=v},V):=by
 grind [Gu,Di,KM]
theorem Ah5 (h0:1<=v) (h1:v<=9) (i:Bi):Gu 110 (bs (AR (Lib.itoa v))) i=({i with k:=v},V):=by
 grind [Gu,Di,KM]
theorem DF (x:ByteArray) (r:List ByteArray) (f:By) (hf:bs (Ij x)=f) (h63:f≠[63]) (hl:J r=J f):Ep (x::r)=Tg f r (.of x):=by
 grind [Ep,tG,Bt]
theorem BJ (f:UInt8) (fs:By) (a:ByteArray) (l:List ByteArray) (i j:Bi) (h:Gu f (bs a) i=(j,V)):Tg (f::fs) (a::l) i=Tg fs l j:=by
 rw[Tg,tG,h];rfl
theorem yS (n:ByteArray) (h:n∈B7):bs (Ij n)=[100,97,98]:=by
 have h1:0<=Bg B7 n:=by
  simp only[B7,Jl,Qr,or_false] at h;rcases h with rfl|rfl|rfl|rfl|rfl|rfl|rfl|rfl|rfl|rfl|rfl|rfl<;>decide+kernel
 unfold Ij;rw[Jd h1]
theorem Acn (Em:B8<=4000) (i:GI) (h:SK B8 i):Ep (i.ws.map AR)=U i.DM:=by
 cases i with
 |Zv d a=>
  show Ep (⟨#[109,111,118]⟩::[AR (Lu d),AR (Kt a)])=_;rw[DF _ _ [100,97] (by decide+kernel) Do rfl,BJ _ _ _ _ _ _ (ZQ h.1 _),BJ _ _ _ _ _ _ (Rk h.2 _)];rfl
 |op n d a b=>
  show Ep (AR (bs n)::[AR (Lu d),AR (Kt a),AR (Kt b)])=_;rw[Yb,DF _ _ [100,97,98] (yS n h.1) Do rfl,BJ _ _ _ _ _ _ (ZQ h.2.1 _),BJ _ _ _ _ _ _ (Rk h.2.2.1 _),BJ _ _ _ _ _ _ (gL h.2.2.2 _)];rfl
 |load d a k=>
  show Ep (⟨#[108,111,97,100]⟩::[AR (Lu d),AR (Kt a),AR (Lib.itoa k)])=_;rw[DF _ _ [100,97,107] (by decide+kernel) Do rfl,BJ _ _ _ _ _ _ (ZQ h.1 _),BJ _ _ _ _ _ _ (Rk h.2.1 _),BJ _ _ _ _ _ _ (gK h.2.2 _)];rfl
 |store a k b=>
  show Ep (⟨#[115,116,111,114,101]⟩::[AR (Kt a),AR (Lib.itoa k),AR (Kt b)])=_;rw[DF _ _ [97,107,98] (by decide+kernel) Do rfl,BJ _ _ _ _ _ _ (Rk h.1 _),BJ _ _ _ _ _ _ (gK h.2.1 _),BJ _ _ _ _ _ _ (gL h.2.2 _)];rfl
 |La d a k b c=>
  show Ep (⟨#[99,97,115]⟩::[AR (Lu d),AR (Kt a),AR (Lib.itoa k),AR (Kt b),AR (Kt c)])=_;rw[DF _ _ [100,97,107,98,99] (by decide+kernel) Do rfl,BJ _ _ _ _ _ _ (ZQ h.1 _),BJ _ _ _ _ _ _ (Rk h.2.1 _),BJ _ _ _ _ _ _ (gK h.2.2.1 _),BJ _ _ _ _ _ _ (gL h.2.2.2.1 _),BJ _ _ _ _ _ _ (Ah6 h.2.2.2.2 _)];rfl
 |El d a k b=>
  show Ep (⟨#[120,97,100,100]⟩::[AR (Lu d),AR (Kt a),AR (Lib.itoa k),AR (Kt b)])=_;rw[DF _ _ [100,97,107,98] (by decide+kernel) Do rfl,BJ _ _ _ _ _ _ (ZQ h.1 _),BJ _ _ _ _ _ _ (Rk h.2.1 _),BJ _ _ _ _ _ _ (gK h.2.2.1 _),BJ _ _ _ _ _ _ (gL h.2.2.2 _)];rfl
 |Mr=>
  show Ep (⟨#[102,101,110,99,101]⟩::[])=_;rw[DF _ _ [] (by decide+kernel) Do rfl];rfl
 |out a=>
  show Ep (⟨#[111,117,116]⟩::[AR (Kt a)])=_;rw[DF _ _ [97] (by decide+kernel) Do rfl,BJ _ _ _ _ _ _ (Rk h _)];rfl
 |GN q=>
  show Ep (⟨#[106,109,112]⟩::[AR (Lib.itoa q)])=_;rw[DF _ _ [116] (by decide+kernel) Do rfl,BJ _ _ _ _ _ _ (Aco h.1 (by have:=h.2;omega) _)];rfl
 |jz a q=>
  show Ep (⟨#[106,122]⟩::[AR (Kt a),AR (Lib.itoa q)])=_;rw[DF _ _ [97,116] (by decide+kernel) Do rfl,BJ _ _ _ _ _ _ (Rk h.1 _),BJ _ _ _ _ _ _ (Aco h.2.1 (by have:=h.2.2;omega) _)];rfl
 |CS k=>
  show Ep (⟨#[116,114,97,112]⟩::[AR (Lib.itoa k)])=_;rw[DF _ _ [110] (by decide+kernel) Do rfl,BJ _ _ _ _ _ _ (Ah5 h.1 h.2 _)];rfl
 |halt=>
  show Ep (⟨#[104,97,108,116]⟩::[])=_;rw[DF _ _ [] (by decide+kernel) Do rfl];rfl
theorem ga (s:UInt8):∀(l:List By),l≠[]->(∀p,p∈l->s∉p)->AD s (List.intercalate [s] l)=l:=by
 have Pu:∀(p:By),s∉p->AD s p=[p]:=by
  intro p;induction p with
  |nil=>intro _;rfl
  |cons c r ih=>
   intro h;simp only[Jl,not_or] at h;rw[Ie _ _ _ AC,ih h.2];rfl
 have lO:∀(p:By) (r:By),s∉p->AD s (p++s::r)=p::AD s r:=by
  intro p r;induction p with
  |nil=>grind [Yt s [] r,Ot,Cc]
  |cons c q ih=>
   intro h;exact mbJ
 intro l;induction l with
 |nil=>grind
 |cons p r ih=>
  intro _ h;cases r with
  |nil=>grind [List.intercalate_singleton]
  |cons q r=>
   have e:List.intercalate [s] (p::q::r)=p++s::List.intercalate [s] (q::r):=by simp[List.intercalate,List.intersperse]
   rw[e,lO p _ AC,ih EQ AC]
theorem UQ (s:UInt8) (p r:By) (h:s∉p):AD s (p++s::r)=p::AD s r:=by
 induction p with
 |nil=>rw[JF];have:=Yt s [] r;rw[Ot _ (Cc _ _)] at this;exact this
 |cons c q ih=>
  exact mbJ
theorem Acj (l:List By):DB l=List.intercalate [32] l:=by
 induction l with
 |nil=>rfl
 |cons a r ih=>
  cases r<;>grind [DB,List.intercalate,List.intersperse]
def Tv (p:By):Prop:=(32:UInt8)∉p/\(10:UInt8)∉p
theorem Im (v:Int):Tv (Lib.itoa v):=by
 constructor
 .intro h;rcases Uc v _ h with h|h
  .exact Jk h Do
  grind
 .intro h;rcases Uc v _ h with h|h
  .exact Jk h Do
  grind
theorem Il (v:Int):Tv (Lu v):=by
 obtain⟨h1,h2⟩:=Im v;exact⟨λh=>by grind [List.mem_cons.1 h],λh=>by grind [List.mem_cons.1 h]⟩
theorem LZ (a:Ag):Tv (Kt a):=by
 grind [Kt,Il,Im]
instance All (p:By):Decidable (Tv p):=inferInstanceAs (Decidable (_/\_))
theorem nE (i:GI) (h:SK B8 i):i.ws≠[]/\∀p,p∈i.ws->Tv p:=by
 have hv:∀n,n∈B7->Tv (bs n):=by decide+kernel
 constructor
 .cases i<;>simp[GI.ws]
 .intro p hp;cases i<;>simp only[GI.ws,Jl,Qr,or_false] at hp;case op n d a b=>
   grind [hv n h.1,Il,LZ]
  all_goals
   first
    |(rcases hp with rfl|rfl|rfl|rfl|rfl|rfl<;>first|exact Im _|exact Il _|exact LZ _|decide+kernel)
    |(rcases hp with rfl|rfl|rfl|rfl|rfl<;>first|exact Im _|exact Il _|exact LZ _|decide+kernel)
    |(rcases hp with rfl|rfl|rfl|rfl<;>first|exact Im _|exact Il _|exact LZ _|decide+kernel)
    |(rcases hp with rfl|rfl|rfl<;>first|exact Im _|exact Il _|exact LZ _|decide+kernel)
    |(rcases hp with rfl|rfl<;>first|exact Im _|exact Il _|exact LZ _|decide+kernel)
    |(subst hp;decide+kernel)
theorem oH (i:GI) (h:SK B8 i):Bu i.Ae=i.ws.map AR:=by
 obtain⟨h1,h2⟩:=nE i h;unfold Bu GI.Ae;rw[Acj,ga 32 _ h1 λp hp=>(h2 p hp).1]
theorem Ack (l:List By) (h:∀p,p∈l->(10:UInt8)∉p):(10:UInt8)∉DB l:=by
 induction l with
 |nil=>simp[DB]
 |cons a r ih=>
  cases r<;>grind [DB]
theorem Afk (i:GI) (h:SK B8 i):(10:UInt8)∉i.Ae:=Ack _ λp hp=>((nE i h).2 p hp).2
def ZF (t:List GI):List By:=AE::t.map GI.Ae
theorem ye (t:List GI) (h:∀i,i∈t->SK B8 i) (r:By):AD 10 (t.flatMap (λi=>i.Ae++[10])++r)=t.map GI.Ae++AD 10 r:=by
 induction t<;>grind [UQ,Afk,List.mem_cons_self]
theorem ry (ts:List (List GI)) (h:∀t,t∈ts->∀i,i∈t->SK B8 i):AD 10 (DK ts)=ts.flatMap ZF++[[]]:=by
 induction ts with
 |nil=>rfl
 |cons t ts ih=>
  unfold DK at ih⊢;simp only[J2,Yc,ZF,Jj,Jy];rw[UQ 10 AE _ Do,ye t (h t (Je ..)),ih AC]
theorem Abg (Em:B8<=4000) (M:Am) (ts:List C2) (t:C2) (ht:M.ts=ts++[t]) (i:GI) (h:SK B8 i) (hl:J t.Ab<4000):UX M (Bu i.Ae)=.ok {M with ts:=ts++[{t with Ab:=t.Ab++[i.DM]}]}:=by
 have hi:=Acn Em i h;have hn:¬((i.ws.map AR).length=1/\bs (wd (i.ws.map AR) 0)=AE):=by
  rintro⟨h1,h2⟩;cases i<;>simp[GI.ws] at h1<;>(revert h2;decide+kernel)
 rw[oH i h];unfold UX;rw[In hn,hi];simp only[ht,Qm,Pi,QP,Qa];rw[In Y]
theorem Abf (M:Am) (h:J M.ts<3):UX M (Bu AE)=.ok {M with ts:=M.ts++[.new]}:=by
 have e:Bu AE=[AR AE]:=by decide+kernel
 rw[e];unfold UX;rw[Jd ⟨rfl,by decide+kernel⟩,In Y]
theorem rq (Em:B8<=4000) (t:List GI) (h:∀i,i∈t->SK B8 i):∀(q:By) (r:List By) (n:Nat) (M:Am) (ts:List C2) (x:C2),M.ts=ts++[x]->J x.Ab+J t<=4000->
  EL (t.map GI.Ae++q::r) n M=EL (q::r) (n+J t) {M with ts:=ts++[{x with Ab:=x.Ab++t.map GI.DM}]}:=by
 induction t with
 |nil=>
  intro q r n M ts x hx _;simp only[QJ,JF,Jx,J4,Jr];obtain⟨m,s⟩:=M;obtain rfl:s=ts++[x]:=hx;rfl
 |cons i t ih=>
  intro q r n M ts x hx hl;simp only[Jg] at hl;have h1:=Abg Em M ts x hx i AC Y;have h2:=ih AC q r (n+1) {M with ts:=ts++[{x with Ab:=x.Ab++[i.DM]}]} ts _ rfl (by simp;omega);have e:∀(a b:By) (l:List By),EL (a::b::l) n M=match UX M (Bu a) with|.error c=> .error (c,n+1)|.ok M'=>EL (b::l) (n+1) M':=λ_ _ _=>rfl
  obtain⟨b,l,ES⟩:∃b l,t.map GI.Ae++q::r=b::l:=by
   cases t<;>grind
  simp only[Jt,Jy];rw[ES] at h2⊢;rw[e,h1];simp only[];rw[h2];simp only[Jj,Jy,JF,Jg];rw[show n+1+J t=n+(J t+1) by omega]
def we (c:List Bi):C2:={C2.new with Ab:=c}
theorem lZ (Em:B8<=4000) (ts:List (List GI)) (h:∀t,t∈ts->J t<=4000/\∀i,i∈t->SK B8 i):∀(n:Nat) (M:Am),(ts=[]->0<n)->J M.ts+J ts<=3->
  EL (ts.flatMap ZF++[[]]) n M=.ok {M with ts:=M.ts++ts.map λt=>we (t.map GI.DM)}:=by
 induction ts with
 |nil=>
  intro n M hn _;have:=hn rfl;show EL [[]] n M=_;unfold EL;rw[Jd ⟨rfl,this⟩];simp
 |cons t ts ih=>
  intro n M _ hl;simp only[Jg] at hl;have ht:=h t (Je ..);have h1:=Abf M Y;obtain⟨q,r,hqr⟩:∃q r,ts.flatMap ZF++[[]]=q::r:=by
   cases ts with
   |nil=>exact⟨_,_,rfl⟩
   |cons u us=>exact⟨_,_,rfl⟩
  have h2:=rq Em t ht.2 q r (n+1) {M with ts:=M.ts++[.new]} M.ts .new rfl (by show 0+J t<=4000;omega);have e:∀(a b:By) (l:List By),EL (a::b::l) n M=match UX M (Bu a) with|.error c=> .error (c,n+1)|.ok M'=>EL (b::l) (n+1) M':=λ_ _ _=>rfl
  obtain⟨b,l,ES⟩:∃b l,t.map GI.Ae++q::r=b::l:=by
   cases t with
   |nil=>exact⟨q,r,rfl⟩
   |cons j t=>exact⟨_,_,rfl⟩
  simp only[J2,ZF,Jy,Jj];rw[hqr,ES,e,h1];simp only[];rw[<-ES,h2,<-hqr,ih (λu hu=>h u (Id _ hu)) _ _ (λ_=>Y) (by simp;omega)];simp[we,C2.new]
theorem yc (Em:B8<=4000) (ts:List (List GI)) (hne:ts≠[]) (h3:J ts<=3) (h:∀t,t∈ts->J t<=4000/\∀i,i∈t->SK B8 i) (hl:(DK ts).length<=131072):
  Nl (DK ts)=.ok ⟨List.replicate 256 0,ts.map λt=>we (t.map GI.DM)⟩:=by
 unfold Nl;rw[In Y,ry ts λt ht=>(h t ht).2,lZ Em ts h 0 _ AC AC];grind
def Nn (i:GI):Nat:=J i.Ae+1
def okL (B8:Int):LI->Prop
 |.i i=>SK B8 i
 |.f r=>OG r
def sN (v:Int):Prop:=0<=v/\v<=9999
def bj (a:Ag):Prop:=if a.Dd then OG a.v else sN a.v
def smI (B8:Int):GI->Prop
 |.Zv d a=>OG d/\bj a
 |.op n d a b=>(n∈B7)/\OG d/\bj a/\bj b
 |.load d a k=>OG d/\bj a/\sN k
 |.store a k b=>bj a/\sN k/\bj b
 |.La d a k b c=>OG d/\bj a/\sN k/\bj b/\bj c
 |.El d a k b=>OG d/\bj a/\sN k/\bj b
 |.Mr=>False
 |.out a=>bj a
 |.GN q=>0<=q/\q<=B8
 |.jz a q=>bj a/\0<=q/\q<=B8
 |.CS k=>1<=k/\k<=9
 |.halt=>True
def smL (B8:Int):LI->Prop
 |.i i=>smI B8 i
 |.f r=>OG r
def Te:LI->Prop
 |.i (.La ..)=>False
 |.i (.El ..)=>False
 |_=>True
theorem Nz (h:bj a):D7 a:=by
 unfold bj at h;unfold D7;split<;>rename_i hr<;>simp only[hr,Qf,J7,Qd] at h
 .exact h
 .obtain⟨h1,h2⟩:=h;exact⟨Y,Y⟩
theorem Ahx (h:sN v):i64 v:=⟨by have:=h.1;omega,by have:=h.2;omega⟩
theorem Ahq {i:GI} (h:smI B8 i):SK B8 i:=by
 cases i<;>grind [smI,SK,Nz,Ahx]
theorem xu {u:Nat} (h:u<=9999):Lib.nDigits u<=4:=by
 rw[Lib.nDigits];grind [Lib.nDigits]
theorem ZL (h:sN v):(Lib.itoa v).length<=4:=by
 obtain⟨h1,h2⟩:=h<;>grind [Lib.itoa,Lib.decDigits_length,xu]
theorem ZM (h:i64 v):(Lib.itoa v).length<=21:=Lib.itoa_length_le v h.1 h.2
theorem P0 (h:OG k):(Lu k).length=2:=by
 grind [lu,Lu]
theorem zM (h:bj a):(Kt a).length<=4:=by
 grind [bj,Kt,P0,ZL]
theorem iG (h:D7 a):(Kt a).length<=21:=by
 grind [D7,Kt,P0,ZM]
theorem YE {n:ByteArray} (h:n∈B7):(bs n).length<=3:=by
 revert h;revert n
 have:∀n,n∈B7->(bs n).length<=3:=by decide+kernel
 exact this
theorem dX (hl:B8<=4000) {i:GI} (h:smI B8 i):Nn i<=27:=by
 cases i<;>simp only[Nn,GI.Ae,GI.ws,DB,GT,Jg,Jx]<;>grind [smI,sN,P0,zM,ZL,YE]
theorem Afm (hl:B8<=4000) {i:GI} (h:SK B8 i) (hc:Te (.i i)):Nn i<=73:=by
 cases i<;>simp only[Nn,GI.Ae,GI.ws,DB,GT,Jg,Jx]<;>grind [SK,Te,i64,P0,iG,ZM,YE]
def bytesOf (l:List GI):Nat:=(l.map Nn).sum
structure Dv (B8:Int) (l:List LI) (a:Nat):Prop where
 ok:∀x,x∈l->okL B8 x
 len:∀q:Int,0<=q->q<=B8->bytesOf (rz q l)<=27*J l+46*a
theorem AbC {q:Int} {x:LI} (h:okL B8 x) (h0:0<=q) (h1:q<=B8):SK B8 (x.AN q):=by
 cases x with
 |i x=>exact h
 |f r=>exact⟨h,h0,h1⟩
theorem Dv.rz {a:Nat} (h:Dv B8 l a) {q:Int} (h0:0<=q) (h1:q<=B8):∀i,i∈rz q l->SK B8 i:=by
 intro i hi;grind [List.mem_map.1 hi,AbC,Dv]
theorem Dv.nil (B8:Int):Dv B8 [] 0:=⟨AC,λq _ _=>by simp[bytesOf,_root_.Go.Proofs.YtpdfifdlhpmofaaGreatDoor.rz]⟩
theorem XA (l m:List GI):bytesOf (l++m)=bytesOf l+bytesOf m:=by simp[bytesOf]
theorem Dv.FY {m:List LI} {a:Nat} (h:Dv B8 l a) (k:Dv B8 m b):Dv B8 (l++m) (a+b):=
 ⟨λx hx=>(Jq.1 hx).elim (h.ok x) (k.ok x),λq h0 h1=>by
   have:=h.len q h0 h1;have:=k.len q h0 h1;rw[CE,XA,GT];omega⟩
theorem Dv.mono {a:Nat} (h:Dv B8 l a) (UG:a<=b):Dv B8 l b:=
 ⟨h.ok,λq h0 h1=>by have:=h.len q h0 h1;omega⟩
theorem Dv.GV (hl:B8<=4000) {l:List LI} (h:∀x,x∈l->smL B8 x):Dv B8 l 0:=by
 induction l with
 |nil=>exact Dv.nil B8
 |cons x l ih=>
  have h1:=h x (Je ..);have ih:=ih λy hy=>h y (Id _ hy)
  have hx:okL B8 x:=by
   cases x with
   |i x=>exact Ahq h1
   |f r=>exact h1
  refine⟨λy hy=>(Jl.1 hy).elim AC (ih.ok y),λq h0 hq=>?_⟩;have:=ih.len q h0 hq;have hx2:Nn (x.AN q)<=27:=by
   cases x with
   |i x=>exact dX hl h1
   |f r=>exact dX hl (B8:=B8) ⟨by unfold bj;exact h1,h0,hq⟩
  grind [bytesOf,_root_.Go.Proofs.YtpdfifdlhpmofaaGreatDoor.rz]
theorem Dv.any (hl:B8<=4000) {l:List LI} (h:∀x,x∈l->okL B8 x/\Te x):Dv B8 l (J l):=by
 induction l with
 |nil=>exact Dv.nil B8
 |cons x l ih=>
  obtain⟨hx,hc⟩:=h x AC;have ih:=ih λy hy=>h y (Id _ hy)
  refine⟨AC,λq h0 hq=>?_⟩;have:=ih.len q h0 hq;have hx2:Nn (x.AN q)<=73:=Afm hl (AbC hx h0 hq) (by cases x with|i x=>exact hc|f r=>trivial);grind [bytesOf,_root_.Go.Proofs.YtpdfifdlhpmofaaGreatDoor.rz]
theorem Dv.Ama {a:Nat} (h:Dv B8 l a) {q:Int} (h0:0<=q) (h1:q<=B8):Dv B8 ((_root_.Go.Proofs.YtpdfifdlhpmofaaGreatDoor.rz q l).map LI.i) a:=by
 refine⟨λx hx=>?_,λr _ _=>?_⟩
 .obtain⟨i,hi,rfl⟩:=Qe.1 hx;exact h.rz h0 h1 i hi
 grind [Aa5,CO,Dv]
theorem O4 (P:LI->Prop):(∀x,x∈([]:List LI)->P x)<->True:=EQ
theorem LD (P:LI->Prop) (a:LI) (l:List LI):(∀x,x∈a::l->P x)<->P a/\∀x,x∈l->P x:=EQ
section
variable {Ac:Int} {B8:Int}
theorem UJ:KO∈B7/\KN∈B7/\bO∈B7/\nOr∈B7/\Vh∈B7/\Zs∈B7/\dN∈B7/\dO∈B7:=
 ⟨JZ (i:=0) rfl,JZ (i:=1) rfl,JZ (i:=5) rfl,JZ (i:=6) rfl,JZ (i:=8) rfl,JZ (i:=9) rfl,JZ (i:=10) rfl,JZ (i:=11) rfl⟩
theorem pj (k:Int) (h:0<=k/\k<=7):bj (.r k):=by unfold bj Ag.r;exact h
theorem bH (k:Int) (h:0<=k/\k<=9999):bj (.n k):=by unfold bj Ag.n;exact h
theorem pd {p:Prop} (h:p:=by
  have ⟨_,_,_,_,_,_,_,_⟩:=UJ;simp only[LD,O4,smL,smI,and_true]
  repeat' with_reducible apply And.intro
  all_goals first|assumption|exact pj _ Y|exact bH _ Y|(unfold OG;omega)|(unfold sN;omega)|omega):p:=h
theorem Wf (hl:B8<=4000) (hb:0<=Ac/\Ac<=1000) (r:Int) (hr:0<=r/\r<=7):Dv B8 (KL Ac r) 0:=
 .GV hl (by unfold KL;exact pd)
theorem RX {a:At} (h:DP a) (r:Int) (hr:OG r):_root_.Go.Proofs.YtpdfifdlhpmofaaGreatDoor.D7 (GS.BF a r):=by
 unfold DP at h;unfold GS.BF;split<;>rename_i hl<;>simp only[hl,Qf,J7,Qd] at h
 .exact hr
 .exact h
theorem NS (hl:B8<=4000) (hb:0<=Ac/\Ac<=1000) (a:At) (ha:DP a) (r:Int) (hr:OG r):Dv B8 (DJ Ac a r) 0:=by
 refine .GV hl ?_<;>grind [DJ,DP,smL,smI,bH,sN]
theorem fh (hl:B8<=4000) (hb:0<=Ac/\Ac<=1000) (p:Nat) (f s:Int) (hf:0<=f/\f<=100/\0<=s/\s<=100) (a:At) (ha:DP a) (hp:(p+(HU Ac p f s a).length:Int)<=B8):Dv B8 (HU Ac p f s a) 8:=by
 obtain⟨v1,v2,v3,v4,v5,v6,v7,v8⟩:=UJ;unfold HU at hp⊢;rw[GT] at hp;have h8:(VJ (p+(DJ Ac a 0).length) f s (GS.BF a 0)).length=8:=rfl;rw[h8] at hp;have h0:=NS hl hb a ha 0 ⟨Y,Y⟩;have hA:=RX ha 0 ⟨Y,Y⟩;refine(h0.FY (b:=8) ?_).mono Y;refine .any hl ?_;unfold VJ;simp only[LD,O4,okL,SK,Te,and_true];refine⟨⟨v7,?_,hA,?_⟩,⟨?_,?_,?_⟩,?_,⟨v7,?_,hA,?_⟩,⟨v8,?_,?_,?_⟩,⟨?_,?_,?_⟩,?_,⟨v1,?_,hA,?_⟩⟩<;>first|exact Nz (pj _ Y)|exact Nz (bH _ Y)|(unfold OG;omega)|omega
theorem Ac7 (hl:B8<=4000) (hb:0<=Ac/\Ac<=1000) (p:Nat) (hp:(p+18:Int)<=B8):Dv B8 (Uk Ac p) 0:=by
 unfold Uk;exact mbA
theorem x9 (hl:B8<=4000) (hb:0<=Ac/\Ac<=1000) (c p:Nat) (hc:c<6) (hp:(p+16:Int)<=B8):Dv B8 (Nk Ac c p) 0:=by
 unfold Nk;exact mbA
theorem x6 (hl:B8<=4000) (hb:0<=Ac/\Ac<=1000) (c p:Nat) (hc:c<6) (hp:(p+14:Int)<=B8):Dv B8 (Pk Ac c p) 0:=by
 unfold Pk;refine(Dv.FY (a:=0) (b:=0) ?_ (Wf hl hb 2 Y));refine .GV hl ?_;exact pd
theorem Abo (hl:B8<=4000) (hb:0<=Ac/\Ac<=1000) (c p:Nat) (hc:c<6) (hp:(p+4:Int)<=B8):Dv B8 (Zd Ac c p) 0:=
 .GV hl (by unfold Zd;exact pd)
theorem yQ (hl:B8<=4000) (hb:0<=Ac/\Ac<=1000) (c p:Nat) (hc:c<6) (hp:(p+3:Int)<=B8):Dv B8 (Rw Ac c p) 0:=
 .GV hl (by unfold Rw;exact pd)
theorem zA (hl:B8<=4000) (hb:0<=Ac/\Ac<=1000) (c p:Nat) (hc:c<6) (hp:(p+4:Int)<=B8):Dv B8 (Pp Ac c p) 0:=
 .GV hl (by unfold Pp;exact pd)
theorem yk (hl:B8<=4000) (hb:0<=Ac/\Ac<=1000) (c p:Nat) (hc:c<6):Dv B8 (Ri Ac c p) 0:=
 .GV hl (by unfold Ri;exact pd)
theorem wK (hl:B8<=4000) (hb:0<=Ac/\Ac<=1000) (c p:Nat) (hc:c<6):Dv B8 (Pf Ac c p) 0:=
 .GV hl (by unfold Pf;exact pd)
theorem sK (hl:B8<=4000) (hb:0<=Ac/\Ac<=1000) (c p:Nat) (hc:c<6):Dv B8 (Lf Ac c p) 0:=
 .GV hl (by unfold Lf;exact pd)
theorem cO (hl:B8<=4000) (hb:0<=Ac/\Ac<=1000) (p:Nat) (hp:(p+8:Int)<=B8):Dv B8 (L5 Ac p) 0:=
 .GV hl (by unfold L5;exact pd)
theorem OT (f:Nat->Nat->List LI) (m:Nat) (hf:∀c p,(f c p).length=m):∀n p,(Fp f n p).length=n*m:=by
 intro n;induction n<;>grind [Fp]
theorem KH (f:Nat->Nat->List LI) (m:Nat) (hlen:∀c p,(f c p).length=m) (n:Nat) (h:∀c p:Nat,c<n->((p+m:Nat):Int)<=B8->Dv B8 (f c p) 0):∀p:Nat,((p+n*m:Nat):Int)<=B8->Dv B8 (Fp f n p) 0/\(Fp f n p).length=n*m:=by
 induction n with
 |zero=>intro p _;exact⟨.nil B8,by simp[Fp]⟩
 |succ n ih=>
  intro p hp;rw[qC,Nat.one_mul] at hp⊢;obtain⟨i1,i2⟩:=ih AC p Y;grind [Fp,i1.FY]
theorem nC (hl:B8<=4000) (hb:0<=Ac/\Ac<=1000) (n p:Nat) (hn:n<=6) (hp:((p+n*37+3:Nat):Int)<=B8):Dv B8 (FV Ac n p) 0/\(FV Ac n p).length=n*37+3:=by
 obtain⟨a1,a2⟩:=KH (Nk Ac) 16 (λ_ _=>rfl) n (λc p hc hp=>x9 hl hb c p Y Y) p Y;have AkZ:Dv B8 ct 0:=by
  refine .GV hl ?_;unfold ct;exact pd
 have b1:=a1.FY AkZ;have l1:(Fp (Nk Ac) n p++ct).length=n*16+3:=by rw[GT,a2];rfl
 obtain⟨c1,c2⟩:=KH (Pk Ac) 14 (λ_ _=>rfl) n (λc p hc hp=>x6 hl hb c p Y Y) (p+(n*16+3)) Y;obtain⟨d1,d2⟩:=KH (Zd Ac) 4 (λ_ _=>rfl) n (λc p hc hp=>Abo hl hb c p Y Y) (p+(n*16+3+n*14)) Y;obtain⟨e1,e2⟩:=KH (Rw Ac) 3 (λ_ _=>rfl) n (λc p hc hp=>yQ hl hb c p Y Y) (p+(n*16+3+n*14+n*4)) Y;unfold FV;simp only[GT,l1,c2,d2];grind [((b1.FY c1).FY d1).FY e1]
theorem Adu (hl:B8<=4000) (hb:0<=Ac/\Ac<=1000) (n p:Nat) (hn:n<=6) (BX:Bool) (hp:((p+(RE Ac n BX p).length:Nat):Int)<=B8):Dv B8 (RE Ac n BX p) 0:=by
 unfold RE at hp⊢;cases BX with
 |true=>
  simp only[Qf] at hp⊢;rw[GT] at hp;have O0:(FV Ac n p).length=n*37+3:=by
   unfold FV;simp only[GT,OT (Nk Ac) 16 (λ_ _=>rfl),OT (Pk Ac) 14 (λ_ _=>rfl),OT (Zd Ac) 4 (λ_ _=>rfl),OT (Rw Ac) 3 (λ_ _=>rfl)];show n*16+3+_+_+_=_;omega
  have h8:∀q,(L5 Ac q).length=8:=λ_=>rfl
  rw[O0,h8] at hp;obtain⟨a1,a2⟩:=nC hl hb n p hn Y;rw[a2];grind [a1.FY,cO]
 |false=>
  simp only[Qd,J7,JF,Jx,J4] at hp⊢;have h8:(L5 Ac p).length=8:=rfl;rw[h8] at hp;grind [cO]
theorem Aav (hl:B8<=4000) (hb:0<=Ac/\Ac<=1000) (n p:Nat) (hn:n<=6) (hp:((p+n*3:Nat):Int)<=B8):Dv B8 (Ld Ac n p) 0:=by
 obtain⟨a1,a2⟩:=KH (Lf Ac) 3 (λ_ _=>rfl) n (λc p hc hp=>sK hl hb c p Y) p hp;refine a1.FY (b:=0) (.GV hl ?_);exact pd
theorem iB (hl:B8<=4000) (hb:0<=Ac/\Ac<=1000) (n C4 p:Nat) (hn:n<=6) (ht:(C4:Int)<=B8) (hp:((p+n*4+8:Nat):Int)<=B8):Dv B8 (Fv Ac n C4 p) 0:=by
 obtain⟨a1,a2⟩:=KH (Pp Ac) 4 (λ_ _=>rfl) n (λc p hc hp=>zA hl hb c p Y Y) p Y;obtain⟨b1,b2⟩:=KH (Ri Ac) 2 (λ_ _=>rfl) 4 (λc p hc hp=>yk hl hb c p Y) (p+n*4) Y;unfold Fv;rw[a2];refine(a1.FY b1).FY (b:=0) (.GV hl ?_)<;>grind [smL,smI]
end
theorem nK (Ac:Int) (n C4 p:Nat):(Fv Ac n C4 p).length=n*4+9:=by
 unfold Fv;simp only[GT,OT (Pp Ac) 4 (λ_ _=>rfl),OT (Ri Ac) 2 (λ_ _=>rfl),Jg,Jx]
theorem Aax (Ac:Int) (n p:Nat):(Ld Ac n p).length=n*3+3:=by
 unfold Ld;simp only[GT,OT (Lf Ac) 3 (λ_ _=>rfl),Jg,Jx]
def aZ:Bj->Nat
 |.nil=>0
 |.set _ _ _ _ r=>1+aZ r
 |.get _ _ _ _ r=>1+aZ r
 |.put _ _ _ _ r=>1+aZ r
 |.out _ r=>1+aZ r
 |.atomic b r=>1+aZ b+aZ r
 |.Ew _ b r=>1+aZ b+aZ r
 |.loop _ b r=>1+aZ b+aZ r
def cy:Bj->Nat
 |.nil=>0
 |.set _ _ _ _ r=>cy r
 |.get _ _ _ _ r=>cy r
 |.put _ _ _ _ r=>cy r
 |.out _ r=>cy r
 |.atomic b r=>1+cy b+cy r
 |.Ew _ b r=>cy b+cy r
 |.loop _ b r=>cy b+cy r
theorem AaN (t:Bj):(aZ t:Int)=IN t:=by
 induction t<;>simp only[aZ,IN]<;>omega
theorem nB (t:Bj):Cf t<=28*aZ t+268*cy t:=by
 induction t<;>simp only[Cf,aZ,cy]<;>omega
theorem Ai4 (t:Bj):∀d,WF cells t d V->cy t=0:=by
 induction t with
 |nil=>intro d _;rfl
 |set v op a b r ih=>intro d h;exact ih d h.2.2.2.2
 |get v f s a r ih=>intro d h;exact ih d h.2.2.2.2
 |put f s a b r ih=>intro d h;exact ih d h.2.2.2.2
 |out a r ih=>intro d h;exact ih d h.2
 |atomic b r ib ih=>intro d h;exact Jk h.1 Do
 |Ew a b r ib ih=>intro d h;simp only[cy,ib _ h.2.2.1,ih d h.2.2.2]
 |loop k b r ib ih=>intro d h;simp only[cy,ib _ h.2.2.1,ih d h.2.2.2]
theorem nM (t:Bj):∀(d:Nat) (n:Int) (b o:Int),WF cells t d I->1<=n->As t n=U (b,o)->(cy t:Int)<=b:=by
 induction t with
 |nil=>grind [As,cy]
 |set v op a c r ih=>intro d n b o hw hn h;exact ih d n b o hw.2.2.2.2 hn h
 |get v f s a r ih=>intro d n b o hw hn h;exact ih d n b o hw.2.2.2.2 hn h
 |put f s a c r ih=>intro d n b o hw hn h;exact ih d n b o hw.2.2.2.2 hn h
 |out a r ih=>
  intro d n b o hw hn h;simp only[As] at h;cases hc:As r n with
  |none=>rw[hc] at h;cases h
  |some q=>
   rw[hc] at h;grind [ih d n q.1 q.2 hw.2 hn hc,cy]
 |atomic c r ib ih=>
  intro d n b o hw hn h;simp only[As] at h;cases hc:As c 1 with
  |none=>rw[hc] at h;cases h
  |some q=>
   rw[hc] at h;simp only[] at h;split at h
   .cases h
   .cases hr:As r n with
    |none=>rw[hr] at h;cases h
    |some q'=>
     rw[hr] at h;simp only[Option.some.injEq,Prod.mk.injEq] at h;have:=ih d n q'.1 q'.2 hw.2.2.2 hn hr;have h0:=Ai4 c _ hw.2.2.1;grind [cy]
 |Ew a c r ib ih=>
  intro d n b o hw hn h;simp only[As] at h;cases hc:As c n with
  |none=>rw[hc] at h;cases h
  |some q=>
   rw[hc] at h;cases hr:As r n with
   |none=>rw[hr] at h;cases h
   |some q'=>
    rw[hr] at h;simp only[Option.some.injEq,Prod.mk.injEq] at h;have:=ih d n q'.1 q'.2 hw.2.2.2 hn hr;have:=ib (d+1) n q.1 q.2 hw.2.2.1 hn hc;grind [cy]
 |loop k c r ib ih=>
  intro d n b o hw hn h;simp only[As] at h;cases hc:As c (n*k) with
  |none=>rw[hc] at h;cases h
  |some q=>
   rw[hc] at h;cases hr:As r n with
   |none=>rw[hr] at h;cases h
   |some q'=>
    rw[hr] at h;simp only[Option.some.injEq,Prod.mk.injEq] at h;have:=ih d n q'.1 q'.2 hw.2.2.2 hn hr;have hk:1<=n*k:=by
     have h1:=hw.1.1;have:1*1<=n*k:=i9 hn h1 Y Y;omega
    have:=ib (d+1) (n*k) q.1 q.2 hw.2.2.1 hk hc;grind [cy]
theorem SW.of (t:Bj):∀(d:Nat) (i:Bool),WF cells t d i->SW t i:=by
 induction t with
 |nil=>intro d i _;trivial
 |set v op a b r ih=>intro d i h;exact ih d i h.2.2.2.2
 |get v f s a r ih=>intro d i h;exact ih d i h.2.2.2.2
 |put f s a b r ih=>intro d i h;exact ih d i h.2.2.2.2
 |out a r ih=>intro d i h;exact ih d i h.2
 |atomic b r ib ih=>intro d i h;exact⟨h.1,ib _ _ h.2.2.1,ih d i h.2.2.2⟩
 |Ew a b r ib ih=>intro d i h;exact⟨ib _ _ h.2.2.1,ih d i h.2.2.2⟩
 |loop k b r ib ih=>intro d i h;exact⟨ib _ _ h.2.2.1,ih d i h.2.2.2⟩
theorem AdA (Ac B8:Int) (hl:B8<=4000) (hb:0<=Ac/\Ac<=1000) (cells:Int) (n:Nat) (hn:n<=6) (Cs:cells<=6) (t:Bj):∀(d:Nat) (Ao:Bool) (Ah p:Nat),WF cells t d Ao->Ah<=d->d<=3->
  ((p+(Gz Ac n Ao Ah p t).length:Nat):Int)<=B8->Dv B8 (Gz Ac n Ao Ah p t) (12*aZ t):=by
 induction t with
 |nil=>intro d Ao Ah p _ _ _ _;exact .nil B8
 |set v op a b r ih=>
  intro d Ao Ah p hw hd h3 hp;obtain⟨hv,I7,ha,uL,hr⟩:=hw;simp only[Gz,GT] at hp⊢;have h2:=ih d Ao Ah _ hr hd h3 (by rw[Js];exact hp);have h1:Dv B8 (bK Ac v op a b) 12:=by
   unfold bK;have A1:=RX ha 1 ⟨Y,Y⟩;have B2:=RX uL 2 ⟨Y,Y⟩;have c1:=NS (B8:=B8) (Ac:=Ac) hl hb a ha 1 ⟨Y,Y⟩;have c2:=NS (B8:=B8) (Ac:=Ac) hl hb b uL 2 ⟨Y,Y⟩;split<;>rename_i ho
   .refine(c1.FY (b:=1) (.any hl ?_)).mono Y;simp only[LD,O4,okL,SK,Te,and_true];refine⟨?_,?_,A1⟩<;>first|exact Nz (bH _ Y)|(unfold i64;omega)
   .refine((c1.FY c2).FY (b:=2) (.any hl ?_)).mono Y;simp only[LD,O4,okL,SK,Te,and_true];refine⟨⟨AC,?_,A1,B2⟩,?_,?_,?_⟩<;>first|exact Nz (bH _ Y)|exact Nz (pj _ Y)|(unfold i64;omega)|(unfold OG;omega)
  exact(h1.FY h2).mono (by simp only[aZ];omega)
 |get v f s a r ih=>
  intro d Ao Ah p hw hd h3 hp;obtain⟨hv,hf,ha,hi,hr⟩:=hw;simp only[Gz,GT] at hp⊢;have hg:∀q,(Uk Ac q).length=18:=λ_=>rfl
  simp only[hg,Jg,Jx] at hp⊢;have h2:=ih d Ao Ah (p+((HU Ac p f s a).length+18+(0+1))) hr hd h3 (by simp only[Js] at hp⊢;exact hp);have h1:=fh (B8:=B8) (Ac:=Ac) hl hb p f s ⟨Y,Y,Y,Y⟩ a ha Y;have h4:=Ac7 (B8:=B8) (Ac:=Ac) hl hb (p+(HU Ac p f s a).length) Y;have h5:Dv B8 [LI.i (.store (.n (Ac+v)) 0 (.r 1))] 0:=by
   refine .GV hl ?_;simp only[LD,O4,smL,smI,and_true];refine⟨?_,?_,?_⟩<;>first|exact pj _ Y|exact bH _ Y|(unfold sN;omega)
  exact(((h1.FY h4).FY h5).FY h2).mono (by simp only[aZ];omega)
 |put f s i a r ih=>
  intro d Ao Ah p hw hd h3 hp;obtain⟨hf,hi,ha,LU,hr⟩:=hw;simp only[Gz,GT,Jg,Jx] at hp⊢;have h2:=ih d Ao Ah (p+((HU Ac p f s i).length+(DJ Ac a 1).length+(0+1+1))) hr hd h3 (by simp only[Js] at hp⊢;exact hp);have h1:=fh (B8:=B8) (Ac:=Ac) hl hb p f s ⟨Y,Y,Y,Y⟩ i hi Y;have c1:=NS (B8:=B8) (Ac:=Ac) hl hb a ha 1 ⟨Y,Y⟩;have A1:=RX ha 1 ⟨Y,Y⟩;have h5:Dv B8 [LI.i (.store (.r 0) (Ac+14) (GS.BF a 1)),LI.i (.store (.r 0) (Ac+8) (.n 1))] 2:=by
   refine .any hl ?_;simp only[LD,O4,okL,SK,Te,and_true];refine⟨⟨?_,?_,A1⟩,?_,?_,?_⟩<;>first|exact Nz (pj _ Y)|exact Nz (bH _ Y)|(unfold i64;omega)
  exact(((h1.FY c1).FY h5).FY h2).mono (by simp only[aZ];omega)
 |out a r ih=>
  intro d Ao Ah p hw hd h3 hp;obtain⟨ha,hr⟩:=hw;simp only[Gz,GT] at hp⊢;have h2:=ih d Ao Ah _ hr hd h3 (by rw[Js];exact hp);have h1:Dv B8 (lE Ac Ao a) 12:=by
   obtain⟨v1,v2,v3,v4,v5,v6,v7,v8⟩:=UJ;unfold lE;have A1:=RX ha 1 ⟨Y,Y⟩;have c1:=NS (B8:=B8) (Ac:=Ac) hl hb a ha 1 ⟨Y,Y⟩;split
   .refine(c1.FY (b:=4) (.any hl ?_)).mono Y;simp only[LD,O4,okL,SK,Te,and_true];refine⟨⟨?_,?_,?_⟩,⟨?_,?_,A1⟩,⟨v1,?_,?_,?_⟩,?_,?_,?_⟩<;>first|exact Nz (bH _ Y)|exact Nz (pj _ Y)|(unfold i64;omega)|(unfold OG;omega)
   .refine(c1.FY (b:=1) (.any hl ?_)).mono Y<;>grind [okL,SK,Te]
  exact(h1.FY h2).mono (by simp only[aZ];omega)
 |Ew a b r ib ih=>
  intro d Ao Ah p hw hd h3 hp;obtain⟨ha,hd3,Vv,hr⟩:=hw;simp only[Gz,GT,Jg] at hp⊢;have hB:=ib (d+1) Ao Ah (p+(DJ Ac a 1).length+1) Vv Y Y Y;generalize hBe:Gz Ac n Ao Ah (p+(DJ Ac a 1).length+1) b=B at hp hB⊢;have h2:=ih d Ao Ah (p+((DJ Ac a 1).length+(J B+1))) hr hd h3 (by simp only[Js] at hp⊢;exact hp);have A1:=RX ha 1 ⟨Y,Y⟩;have c1:=NS (B8:=B8) (Ac:=Ac) hl hb a ha 1 ⟨Y,Y⟩;have hj:Dv B8 [LI.i (.jz (GS.BF a 1) (p+(DJ Ac a 1).length+1+J B:Nat))] 1:=by
   refine .any hl ?_<;>grind [okL,SK,Te]
  exact((c1.FY (hj.FY hB)).FY h2).mono (by simp only[aZ];omega)
 |loop k b r ib ih=>
  intro d Ao Ah p hw hd h3 hp;obtain⟨hk,hd3,Vv,hr⟩:=hw;simp only[Gz,GT,Jg,Jx,Jy] at hp⊢;have hB:=ib (d+1) Ao (Ah+1) (p+1) Vv Y Y Y;generalize hBe:Gz Ac n Ao (Ah+1) (p+1) b=B at hp hB⊢;have h2:=ih d Ao Ah (p+(J B+(0+1+1+1+1+1)+1)) hr hd h3 Y;obtain⟨v1,v2,v3,v4,v5,v6,v7,v8⟩:=UJ;have h0:Dv B8 [LI.i (.store (.n (Ac+(48+Ah))) 0 (.n k))] 0:=by
   refine .GV hl ?_;simp only[LD,O4,smL,smI,and_true];refine⟨?_,?_,?_⟩<;>first|exact bH _ Y|(unfold sN;omega)
  have h5:Dv B8 [LI.i (.load 1 (.n (Ac+(48+Ah))) 0),LI.i (.op KN 1 (.r 1) (.n 1)),LI.i (.store (.n (Ac+(48+Ah))) 0 (.r 1)),LI.i (.jz (.r 1) (p+1+J B+5:Nat)),LI.i (.GN (p+1:Nat))] 0:=by
   refine .GV hl ?_;simp only[LD,O4,smL,smI,and_true];refine⟨⟨?_,?_,?_⟩,⟨v2,?_,?_,?_⟩,⟨?_,?_,?_⟩,⟨?_,?_,?_⟩,?_,?_⟩<;>first|exact bH _ Y|exact pj _ Y|(unfold sN;omega)|(unfold OG;omega)|omega
  exact((h0.FY (hB.FY h5)).FY h2).mono (by simp only[aZ];omega)
 |atomic b r ib ih=>
  intro d Ao Ah p hw hd h3 hp;obtain⟨hi,hd3,Vv,hr⟩:=hw;have hs4:(Fp (Pf Ac) 4 p).length=8:=rfl;simp only[Gz,GT,Jg,JY,CO,hs4,nK,Aax] at hp⊢;have hB:=ib (d+1) V Ah (p+8+(n*3+3)) Vv Y Y Y;generalize hBe:Gz Ac n V Ah (p+8+(n*3+3)) b=B at hp hB⊢;have hE:=Adu (B8:=B8) (Ac:=Ac) hl hb n (p+8+(n*3+3)+J B) hn (BV b) Y;generalize hEe:RE Ac n (BV b) (p+8+(n*3+3)+J B)=E at hp hE⊢;have h2:=ih d Ao Ah (p+(8+(n*3+3+J B+J E)+(n*4+9+1))) hr hd h3 (by simp only[Js] at hp⊢;exact hp);obtain⟨s1,s2⟩:=KH (B8:=B8) (Pf Ac) 2 (λ_ _=>rfl) 4 (λc p hc _=>wK hl hb c p Y) p Y;have hT:=Aav (B8:=B8) (Ac:=Ac) hl hb n (p+8) hn Y;have hK:=iB (B8:=B8) (Ac:=Ac) hl hb n (p+8) (p+8+(n*3+3+J B+J E)+1) hn Y Y;have hm:=((hT.FY hB).FY hE).Ama (q:=(p+8+(n*3+3+J B+J E)+1:Nat)) Y Y;have hj:Dv B8 [LI.i (.GN (p+8+(n*3+3+J B+J E)+1+(n*4+9):Nat))] 0:=by
   refine .GV hl ?_<;>grind [smL,smI]
  exact(((s1.FY hm).FY (hj.FY hK)).FY h2).mono (by simp only[aZ];omega)
theorem na (t:List GI):(t.flatMap λi=>i.Ae++[10]).length=bytesOf t:=by
 induction t<;>grind [bytesOf,Nn]
theorem zo (cells:Int) (k:Nat) (t:Bj) (hk:k<3) (Cs:0<=cells/\cells<=6) (hw:WF cells t 0 I) (Ay:IN t<=14) {b o:Int} (hc:As t 1=U (b,o)) (hb:b<=3):
  (Gi cells k t).length<=1197/\(∀i,i∈Gi cells k t->SK 4000 i)/\bytesOf (Gi cells k t)<=40052:=by
 have h1:=(Sa cells t Cs 0 I (.start k cells) hw rfl rfl).2.2;have h2:=nB t;have h3:=nM t 0 1 b o hw Y hc;have h4:=AaN t;have e:=aG cells k t (SW.of t 0 I hw);have hlen:(Gi cells k t).length=(Gz (32+64*k) cells.toNat I 0 0 t).length+1:=by rw[e];simp[rz]
 have AnV:(Gi cells k t).length<=Cf t+1:=by
  unfold Gi;show((GS.Dg t (GS.start k cells)).Ab++[GI.halt]).length<=_;rw[GT];have e0:(GS.start k cells).Ab.length=0:=rfl;grind
 have hl:(Gi cells k t).length<=1197:=Y
 have uI:=AdA (32+64*k) 4000 Y Y cells cells.toNat Y Cs.2 t 0 I 0 0 hw Y Y Y;refine⟨hl,?_,?_⟩
 .rw[e];intro i hi;rcases Jq.1 hi with hi|hi
  .exact uI.rz Y Y i hi
  .rw[GE] at hi;subst hi;trivial
 .rw[e,XA];have:=uI.len 0 Y Y;have h5:bytesOf [GI.halt]=5:=by decide+kernel
  rw[h5];omega
theorem I0 (h:PS y p):(∀t,t∈CG y.cells y.Aa (J y.Aa)->J t<=1197/\(∀i,i∈t->SK 4000 i)/\bytesOf t<=40052)/\(∀t,t∈y.Aa->WF y.cells t 0 I/\Cf t<=5000)/\y.cells<=6/\J y.Aa<=3:=by
 have Em:=h.B8;unfold Ei at Em;simp only[JB,JD,J3] at Em;obtain⟨mP,h3,Da⟩:=Em;have Am4:∀u,u∈y.Aa->∃b o,As u 1=U (b,o)/\b<=3:=AC;refine⟨λt ht=>?_,λt ht=>⟨h.fw.th _ ht,?_⟩,mP,h3⟩;grind [List.mem_map.1 ht,List.getElem_mem,zo,h.fw.c0,h.fw.th,h.fn.all]
 .obtain⟨b,o,h1,h2⟩:=Am4 _ ht;have a1:=nB t;have a2:=nM t 0 1 b o (h.fw.th _ ht) Y h1;have a3:=AaN t;have a4:=h.fn.all _ ht;omega
theorem Yd (h:PS y p):(DK (CG y.cells y.Aa (J y.Aa))).length<=131072:=by
 obtain⟨Ex,_,_,h3⟩:=I0 h;have hb:∀l:List (List GI),(∀t,t∈l->bytesOf t<=40052)->(DK l).length<=J l*40059:=by
  intro l;induction l with
  |nil=>intro _;simp[DK]
  |cons t l ih=>
   intro hh;have h1:=ih λu hu=>hh u (Id _ hu)
   have h2:=hh t (Je ..);unfold DK at h1⊢;simp only[J2,GT,Yc,Jg,na];have h6:J AE=6:=rfl;rw[qC];omega
 have:=hb _ λt ht=>(Ex t ht).2.2
 rw[KV] at this;have:J y.Aa*40059<=3*40059:=Qu _ h3;omega
theorem aF (h:PS y p):Nl (DK (CG y.cells y.Aa (J y.Aa)))=.ok ⟨List.replicate 256 0,(CG y.cells y.Aa (J y.Aa)).map λt=>we (t.map GI.DM)⟩:=by
 obtain⟨Ex,_,_,h3⟩:=I0 h;refine yc (B8:=4000) Y _ ?_ ?_ (λt ht=>⟨by have:=(Ex t ht).1;omega,(Ex t ht).2.1⟩) (Yd h)<;>grind [KV,PS]
