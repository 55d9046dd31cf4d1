/- Part 17 of the proof. -/
import Derived.Test.YtpdfifdlhpmofaaGreatDoorA16
import Derived.Test.YtpdfifdlhpmofaaGreatDoorA10
set_option linter.unusedVariables false
set_option linter.unusedSimpArgs false
set_option maxHeartbeats 0
set_option maxRecDepth 99999
namespace Go.Proofs.YtpdfifdlhpmofaaGreatDoor
open Go.RowKit Tryz
open Value renaming slice->qD,string->qE,bool->qF,tuple->qG,agg->qH,pointer->qI
open Ending renaming returned->qJ
open Obj renaming cells->qK
open Option renaming none->Z,some->U
open Bool renaming true->V,false->I
open Go.Lib renaming hid->D
open List renaming length->J
theorem maf {p:Prop} (h:p:=by
 clear HQ;obtain⟨k,c9,rfl,VX,hQ⟩:=hrel;by_cases hk:(k:Int)<(J AV:Int)
 .have hkv:k<J AV:=Y
  have Lo:k<J ls:=by rw[<-Kb.out.len];exact hkv
  have uF:=Kb.AN k hkv Lo;have ZS:=Z4 ls (GS.CW G6) k Lo;have hk7:=Fg.out ls[k] (JO _);obtain⟨ab,acp,AiG,_,_,_,_,hac,_⟩:=Av (n:=J AV) (hQ.st.Ak.row (i:=2) rfl) Y;cases AiG;have Z6:=(Dj (show Aq wr (MG.Az {g with c:=c9,a:=⟨U ⟨ab,0,Z⟩,ac⟩,av:=AV} _) from hQ.st.Ak)).c 4;have hlm:=(Dj (show Aq wr (MG.Az {g with c:=c9,a:=⟨U ⟨ab,0,Z⟩,ac⟩,av:=AV} _) from hQ.st.Ak)).lt;dsimp only at Z6 hlm;have hce:=hac k hkv;have hlen:=LW (ls.take k) (GS.CW G6);rw[GS.FJ] at hlen hk7;obtain⟨Gk,hGk⟩:∃z,z=(ls.take k).foldl GS.Bd (GS.CW G6):=⟨_,rfl⟩;rw[<-hGk] at ZS hlen hQ;obtain⟨⟨lk,la⟩,hl⟩:∃l,l=ls[k]:=⟨_,rfl⟩;rw[<-hl] at uF ZS hk7;obtain⟨v9,hv9⟩:∃v,v=AV[k]:=⟨_,rfl⟩;rw[<-hv9] at uF hce;have HQ:=D hQ;have zU:=D ZS;have AcW:lk<J Gk.Ab:=by rw[hlen];exact hk7
  have GY:J Gk.Ab<=1000000:=Y
  clear hQ ZS hGk hl hv9 hac hlen hk7 Lo;have bw:k<=1000000:=Y
  cases la with
  |none=>
   obtain⟨xm,xk,rfl,x1,x2⟩:=uF;go_wp2_with fail;refine(Wi xm xk lk _ {g with c:=c9,a:=⟨U ⟨ab,0,Z⟩,ac⟩,av:=AV} Gk _ HQ.st.Ak HQ.kf (IR _ x2) (IR _ x1) GY AcW).mono ?_;rintro e w25 ⟨rfl,c10,st⟩;have Q2:=HQ.step st rfl rfl (by rw[GS.Eg];exact Jf _);rw[<-zU.out] at Q2;clear HQ hce x1 x2 st;go_wp2;go_roundw;case rel=>exact⟨k+1,_,rfl,hkv,Q2⟩
   case measure=>simp[intOf];omega
  |some a0=>
   obtain⟨xa,xm,xk,rfl,x0,x1,x2⟩:=uF;go_wp2_with fail;refine(T2 a0 xa xm xk lk _ {g with c:=c9,a:=⟨U ⟨ab,0,Z⟩,ac⟩,av:=AV} Gk _ HQ.st.Ak HQ.kf (IR _ x2) (IR _ x0) (IR _ x1) GY AcW).mono ?_;rintro e w25 ⟨rfl,c10,st⟩;have Q2:=HQ.step st rfl rfl (by rw[GS.Eg];exact Jf _);rw[<-zU.out] at Q2;clear HQ hce x0 x1 x2 st;go_wp2;go_roundw;case rel=>exact⟨k+1,_,rfl,hkv,Q2⟩
   case measure=>simp[intOf];omega
 .have Pz:k=J AV:=Y
  have eu:ls.take k=ls:=JV (by rw[Pz,Kb.out.len];exact Jf _);rw[eu] at hQ;have Wu:Ar (ls.foldl GS.Bd (GS.CW G6)) G6:=Ar.uH ((Ar.refl G6).AP _) ls;have hl8:=LW ls (GS.CW G6);rw[GS.FJ] at hl8;obtain⟨G8,hG8⟩:∃z,z=ls.foldl GS.Bd (GS.CW G6):=⟨_,rfl⟩;rw[<-hG8] at hQ hl8 Wu;have hc8:=Wu.cells.trans mP;have H:=D (show CI v0 ⟨g.mb,c1,⟨Z,0⟩,[]⟩ (GS.enter G3) G8 _ [(p,#[qD sp sn sc],255)] [] (U V) wr from⟨_,_,_,hQ⟩);have HG8:=D hG8;replace hk:=Ju (show¬k<J AV by omega);clear hQ hG8 eu VX Pz Wu
  revert wr H
  refine MW ?_;have hl9:(GS.GB G8 (J G1.Ab)).Ab.length=J G8.Ab+cells.toNat*4+9:=by rw[GS.RL,hc8]
  refine MK (fun⦃w v g G F P R i⦄(H:Hid (CI w g G G8 F P R i v))=>Agv (J G1.Ab) H Y (by rw[hc8];omega)) ?_;refine MK (Aaj bm bk (J G6.Ab)) ?_;intro v H
  intros
  go_end0
  have e:=fx b cells G G1 G2 G4 G5 HG1.out HG2.out (z8.out.cells.trans Ns) (by rw[HG4.out,HG3.out]) HG5.out;rw[<-HG6.out,Hab.out,<-HG8.out] at e;rw[e];obtain⟨c,a,AV,H⟩:=H.out;exact⟨rfl,c,a,AV,S3.out.trans H.st,H.al⟩):p:=h
theorem maC {p:Prop} (h:p:=by
 intro v H;go_roundw;case rel=>exact LR.next HG hk H EQ EQ
 case measure=>simp[intOf];omega):p:=h
variable {w v w' w0:World} {g:MG} {G O:GS} {F:List (Nat×Obj)} {L:List Ob} {p:Prop} {c:Array Value} {T:TypeId} {cells k:Int} {d mb:Nat} {BY:Bool} {P:List QB} {i:Option Bool} {a:Ag} {l:By} {xs vs:List Value} {ls:List Io}
def Ad6 (G':GS) (g:MG) (G:GS) (w:World) (e:Ending) (w':World):Prop:=
 e= qJ (qG #[])/\∃c a av,Af w (g.Az G) w' (MG.Az {g with c:=c,a:=a,av:=av} G')/\J av<=J G'.Ab
def sU (BY:Bool) (G':GS) (g:MG) (G:GS) (w:World) (e:Ending) (w':World):Prop:=match BY with
 |true=>StS G' g G w e w'
 |false=>Ad6 G' g G w e w'
theorem AY.Ve (h:AY w (g.Az G) F) {b:Nat} {o:Obj} (hb:(b,o)∈F):b≠g.mb:=λe=>h.out b o hb (by rw[e];simp[MG.Az,Er,Ob.fp])
theorem AY.Pu {p:Nat} (h:AY w L F) (hp:(p,qK c T (0,0))∈F):AY w L ([(p,c,T)].map qob):=h.sub λx hx=>by rw[GE.1 hx];exact hp
def RQ (F:List (Nat×Obj)) (cells:Int) (BY:Bool) (n:Nat):Prop:=
 ∀(t:Bj) (sl:Value) (vs:List Value) (d:Nat) (w:World) (g:MG) (G:GS),Fx t<=n->Et F sl vs->D8 F t vs->WF cells t d BY->d<=3->Aq w (g.Az G)->AY w (g.Az G) F->G.block=BY->G.cells=cells->
  (0<=G.Ah/\G.Ah<=(d:Int))->CK G.Ac->J G.Ab+Cf t<=998000->J g.av<=J G.Ab->
  Calls prog 80 #[iJ g.mb,sl] w (sU BY (GS.Dg t G) g G w)
section
variable {w v:World} {g:MG} {G O O':GS} {F:List (Nat×Obj)} {P:List QB} {BY:Bool} {fn:Nat} {args:Array Value}
theorem CI.stx (h:CI w g G O F P [] (U BY) v):sU BY O g G w (qJ (qG #[])) v:=by
 cases BY with
 |true=>exact h.Dg
 |false=>obtain⟨c,a,AV,h⟩:=h;exact⟨rfl,c,a,AV,h.st,h.al⟩
theorem CI.x (H:Hid (CI w g G O F P [] (U BY) v)) (hb:O'.Ac=O.Ac)
  (k:∀c a AV,Aq v (MG.Az {g with c:=c,a:=a,av:=AV} O)->AY v (MG.Az {g with c:=c,a:=a,av:=AV} O) F->CK O.Ac->J AV<=J O.Ab->Calls prog fn args v (sU BY O' {g with c:=c,a:=a,av:=AV} O v)):
  Calls prog fn args v (λe v'=>e= qJ (qG #[])/\Hid (CI w g G O' F P [] (U BY) v')):=by
 obtain⟨c,a,AV,h⟩:=H.out;have k1:=k c a AV h.st.Ak h.kf h.hb h.al;cases BY with
 |true=>
  refine(show Calls prog fn args v (StS O' {g with c:=c,a:=a,av:=AV} O v) from k1).mono ?_;exact maD
 |false=>
  refine(show Calls prog fn args v (Ad6 O' {g with c:=c,a:=a,av:=AV} O v) from k1).mono ?_;rintro e v' ⟨rfl,c',a',av',s,hl⟩;exact⟨rfl,⟨c',a',av',h.st.trans s,h.kf.step s,h.kp.step s,(λhi=>by cases hi),h.hb.eq hb,hl⟩⟩
end
theorem Agu (f s:Int) (a:At)⦃w v:World⦄⦃g:MG⦄⦃G O:GS⦄⦃F:List (Nat×Obj)⦄⦃P:List QB⦄⦃R:List Ob⦄⦃i:Option Bool⦄(H:Hid (CI w g G O F P R i v)) (hn:J O.Ab<=999900:=by (try simp only[PC]);omega) (hok:DP a:=by assumption):
  Calls prog 136 #[iJ g.mb,qH #[iI f,iI s,qF a.AX,iI a.v]] v (λe v'=>e= qJ (qG #[])/\Hid (CI w g G (O.EP f s a) F P R i v')):=
 CI.mk H (GS.nG _ _ _ _) (GS.sM _ _ _ _) (by have:=GS.D6 O a 0;rw[GS.OB];omega) λc1 a1 A1 h hb ha=>ra f s a v {g with c:=c1,a:=a1,av:=A1} O h hn ha hb hok
theorem Al5⦃w v:World⦄⦃g:MG⦄⦃G O:GS⦄⦃F:List (Nat×Obj)⦄⦃P:List QB⦄⦃i:Bool⦄(H:Hid (CI w g G O F P [] (U i) v)) (hn:J O.Ab<=999900:=by (try simp only[PC]);omega):
  Calls prog 137 #[iJ g.mb] v (λe v'=>e= qJ (qG #[])/\Hid (CI w g G O.SR F P [] (U i) v')):=
 CI.ab H (GS.yO _) λc1 a1 A1 h hb ha=>xI v {g with c:=c1,a:=a1,av:=A1} O h hn ha hb
theorem Ae2 (BY:Bool) (x f s:Int) (a:At) (F:List (Nat×Obj)) (p:Nat) (w:World) (g:MG) (G:GS) (h:Aq w (g.Az G)) (hK:AY w (g.Az G) F) (hF:(p,qK #[iI x,iI f,iI s,qF a.AX,iI a.v] 245 (0,0))∈F) (hn:J G.Ab<=998000) (ha:J g.av<=J G.Ab) (Fu:CK G.Ac) (hok:DP a) (hv:0<=x/\x<4):
  Calls prog 104 #[iJ g.mb,.iface 243 (iJ p)] w (sU BY (GS.Dg (.get x f s a .nil) G) g G w):=by
 have hpm:=hK.Ve hF;have Le:=GS.Dw G a 0;have hw0:wrap64 (0+x)=x:=by rw[IntWalk.wrap64_in _ Y];omega
 have Fi:wrap64 x=x:=IntWalk.wrap64_in _ Y;refine CI.begin [] [(p,#[iI x,iI f,iI s,qF a.AX,iI a.v],245)] (U BY) h (AY.nil _ _) (hK.Pu hF) Fu ha ?_;clear h Fu hK hF;intro v H;have ta0:=oY;have ta1:=o5;go_enter func104,ntmps104
 revert v H
 refine MW ?_;refine MK (Agu f s a) ?_;refine MK (Al5) ?_;refine MK (L2 x) ?_;refine MK (xR 1) ?_;refine MK (tB x (.r 1)) ?_;intro v H
 intros
 go_end0
 rw[show GS.Dg (.get x f s a .nil) G=((G.EP f s a).SR).st x (.r 1) from rfl];exact H.out.stx
theorem AbV (a:At) (F:List (Nat×Obj)) (p:Nat) (w:World) (g:MG) (G:GS) (h:Aq w (g.Az G)) (hK:AY w (g.Az G) F) (hF:(p,qK #[qF a.AX,iI a.v] 251 (0,0))∈F) (hn:J G.Ab<=998000) (ha:J g.av<=J G.Ab) (Fu:CK G.Ac) (hok:DP a) (ES:G.block=I):
  Calls prog 104 #[iJ g.mb,.iface 249 (iJ p)] w (sU I (GS.Dg (.out a .nil) G) g G w):=by
 have hpm:=hK.Ve hF;have Le:=GS.Dw G a 1;have Hbl:=D ES;have Am8:True->(G.Cn a 1).block=I:=λ_=>((Ar.refl G).Cn a 1).block.trans ES
 clear ES;refine CI.begin [] [(p,#[qF a.AX,iI a.v],251)] (U I) h (AY.nil _ _) (hK.Pu hF) Fu ha ?_;clear h Fu hK hF;intro v H;have ta0:=YN;have ta1:=YO;have ta2:=TB;have ta3:=TC;go_enter func104,ntmps104
 revert v H
 refine MW ?_;refine MK (PO a 1) ?_;refine MA #[qF (GS.BF a 1).Dd,iI (GS.BF a 1).v] 264 ?_;intro b hb;refine MK (bA (.out (GS.BF a 1))) ?_;intro v H
 intros
 go_end0
 rw[show GS.Dg (.out a .nil) G=(G.Cn a 1).AP (.out (GS.BF a 1)) by simp[GS.Dg,Hbl.out]];exact H.out.stx
theorem AbU (a:At) (F:List (Nat×Obj)) (p:Nat) (w:World) (g:MG) (G:GS) (h:Aq w (g.Az G)) (hK:AY w (g.Az G) F) (hF:(p,qK #[qF a.AX,iI a.v] 251 (0,0))∈F) (hn:J G.Ab<=998000) (ha:J g.av<=J G.Ab) (Fu:CK G.Ac) (hok:DP a) (ES:G.block=V):
  Calls prog 104 #[iJ g.mb,.iface 249 (iJ p)] w (sU V (GS.Dg (.out a .nil) G) g G w):=by
 have hpm:=hK.Ve hF;have Le:=GS.Dw G a 1;have Hbl:=D ES;have Am8:True->(G.Cn a 1).block=V:=λ_=>((Ar.refl G).Cn a 1).block.trans ES
 clear ES;refine CI.begin [] [(p,#[qF a.AX,iI a.v],251)] (U V) h (AY.nil _ _) (hK.Pu hF) Fu ha ?_;clear h Fu hK hF;intro v H;have ta0:=YN;have ta1:=YO;have ta2:=TB;have ta3:=TC;go_enter func104,ntmps104
 revert v H
 refine MW ?_;refine MK (PO a 1) ?_;refine MA #[qF (GS.BF a 1).Dd,iI (GS.BF a 1).v] 264 ?_;intro b hb;refine MK (L2 39) ?_;refine MK (xlo 2 39) ?_;refine MR [(0,V),(1,V),(3,V),(2,I),(4,I)] 4 ?_;refine ME (xof 40 2) ?_;refine ML (Aae 40 2 (GS.BF a 1)) ?_;refine MK (xR 2) ?_;refine MK (xN 1) ?_;refine MK (iS KO 2 (.r 2) (.n 1)) ?_;refine MK (L2 39) ?_;refine MK (xR 2) ?_;refine MK (tB 39 (.r 2)) ?_;intro v H
 intros
 go_end0
 rw[show GS.Dg (.out a .nil) G=(((((G.Cn a 1).lo 2 39).I8 40 2 (GS.BF a 1)).II KO 2 (.r 2) (.n 1)).st 39 (.r 2)) by simp[GS.Dg,Hbl.out]];exact H.out.stx
theorem Ae1 (BY:Bool) (f s:Int) (ix a:At) (F:List (Nat×Obj)) (p:Nat) (w:World) (g:MG) (G:GS) (h:Aq w (g.Az G)) (hK:AY w (g.Az G) F) (hF:(p,qK #[iI f,iI s,qF ix.AX,iI ix.v,qF a.AX,iI a.v] 248 (0,0))∈F) (hn:J G.Ab<=998000) (ha:J g.av<=J G.Ab) (Fu:CK G.Ac) (yx:DP ix) (hoa:DP a):
  Calls prog 104 #[iJ g.mb,.iface 246 (iJ p)] w (sU BY (GS.Dg (.put f s ix a .nil) G) g G w):=by
 have hpm:=hK.Ve hF;have Le:=GS.Dw G ix 0;have Pm:=GS.Dw (G.EP f s ix) a 1;have iZ:=GS.OB G f s ix;refine CI.begin [] [(p,#[iI f,iI s,qF ix.AX,iI ix.v,qF a.AX,iI a.v],248)] (U BY) h (AY.nil _ _) (hK.Pu hF) Fu ha ?_;clear h Fu hK hF;intro v H;have ta0:=oU;have ta1:=oX;have ta2:=YM;go_enter func104,ntmps104
 revert v H
 refine MW ?_;refine MK (Agu f s ix) ?_;refine MR [(0,V),(1,V),(3,V),(4,V),(5,V),(6,V),(7,V),(2,I),(8,I),(9,I)] 9 ?_;refine ME (xof 14 0) ?_;refine ME (PO a 1) ?_;refine ML (Aad (.r 0) ((G.EP f s ix).Ac+14) (GS.BF a 1)) ?_;refine MK (xof 8 0) ?_;refine MK (xN 1) ?_;refine MK (Aae 8 0 (.n 1)) ?_;intro v H
 intros
 go_end0
 rw[show GS.Dg (.put f s ix a .nil) G=(((G.EP f s ix).Cn a 1).AP (.store (.r 0) ((G.EP f s ix).Ac+14) (GS.BF a 1))).I8 8 0 (.n 1) by simp only[GS.Dg,GS.I8,GS.eR,GS.cN]];exact H.out.stx
theorem oF {b:Bj} {sl:Value} {ws:List Value} {G0:GS} (IH:Hid (RQ F cells BY (Fx b))) (H3:Hid (Et F sl ws)) (H4:Hid (D8 F b ws)) (hw:WF cells b d BY) (hd:d<=3) (ES:G0.block=BY) (Ns:G0.cells=cells) (XO:0<=G0.Ah/\G0.Ah<=(d:Int)) (hbg:J G0.Ab+Cf b<=998000)
  (hb:(GS.Dg b G0).Ac=G0.Ac)⦃w v:World⦄⦃g:MG⦄⦃G:GS⦄⦃E:List (Nat×Obj)⦄⦃P:List QB⦄(H:Hid (CI w g G G0 E P [] (U BY) v)) (hE:∀x,x∈F->x∈E:=by (intro x hx;simp[hx])):
  Calls prog 80 #[iJ g.mb,sl] v (λe v'=>e= qJ (qG #[])/\Hid (CI w g G (GS.Dg b G0) E P [] (U BY) v')):=
 CI.x H hb λc1 a1 A1 h K hb ha=>IH.out b sl ws d v {g with c:=c1,a:=a1,av:=A1} G0 (Jf _) H3 H4 hw hd h (K.sub hE) ES Ns XO hb hbg ha
theorem AhY (BY:Bool) (cells:Int) (a:At) (b:Bj) (sp:Option Addr) (sn sc:Nat) (ws:List Value) (F:List (Nat×Obj)) (p:Nat) (w:World) (g:MG) (G:GS) (h:Aq w (g.Az G)) (hK:AY w (g.Az G) F) (hF:(p,qK #[qF a.AX,iI a.v,qD sp sn sc] 258 (0,0))∈F) (hn:J G.Ab<=998000) (ha:J g.av<=J G.Ab) (Fu:CK G.Ac) (hok:DP a) (d:Nat) (Cs:0<=cells/\cells<=6) (ES:G.block=BY) (Ns:G.cells=cells) (XO:0<=G.Ah/\G.Ah<=(d:Int)) (hd:d<3) (Vv:WF cells b (d+1) BY) (AiF:J G.Ab+2+Cf b<=998000) (ih:RQ F cells BY (Fx b)) (h3:Et F (qD sp sn sc) ws) (h4:D8 F b ws):
  Calls prog 104 #[iJ g.mb,.iface 256 (iJ p)] w (sU BY (GS.Dg (.Ew a b .nil) G) g G w):=by
 have hpm:=hK.Ve hF;have IH:=D ih;have H3:=D h3;have H4:=D h4;clear ih h3 h4;have Le:=GS.Dw G a 1;have Pm:=GS.D6 G a 1;have Tj:Hid (Ar ((G.Cn a 1).CL (GS.BF a 1)) G):=((Ar.refl G).Cn a 1).AP (.jz (GS.BF a 1) 0);obtain⟨Mm,Ue,hhi⟩:=Sa cells b Cs (d+1) BY ((G.Cn a 1).CL (GS.BF a 1)) Vv (Tj.block.trans ES) (Tj.cells.trans Ns);have fF:=D Mm;clear Mm;try simp only[PC] at Ue hhi
 have bY:0<=((G.Cn a 1).CL (GS.BF a 1)).Ah/\((G.Cn a 1).CL (GS.BF a 1)).Ah<=((d+1:Nat)):=by rw[Tj.out.Ah];omega
 have hbg:((G.Cn a 1).CL (GS.BF a 1)).Ab.length+Cf b<=998000:=by (try simp only[PC]);omega
 refine CI.begin F [(p,#[qF a.AX,iI a.v,qD sp sn sc],258)] (U BY) h hK (hK.Pu hF) Fu ha ?_;clear h Fu hK hF;intro v H;have ta0:=wk;have ta1:=wq;have ta2:=cR;have ta3:=cS;have ta4:=YP;go_enter func104,ntmps104
 revert v H
 refine MW ?_;refine MK (PO a 1) ?_;refine MZ (W2 (GS.BF a 1)) ?_;intro bas bms bks;refine MK (oF IH H3 H4 Vv Y (Tj.block.trans ES) (Tj.cells.trans Ns) bY hbg fF.Ac) ?_;refine MK (Lc (GS.BF a 1) bas bms bks _) ?_;intro v H
 intros
 go_end0
 rw[show GS.Dg (.Ew a b .nil) G=(GS.Dg b ((G.Cn a 1).CL (GS.BF a 1))).Bd ⟨(G.Cn a 1).Ab.length,U (GS.BF a 1)⟩ from rfl];exact H.out.stx
theorem Afd (n:Int) (b:Bj) (G X:GS) (hX:X=GS.Dg b (GS.dp (GS.st G (48+G.Ah) (.n n)) (G.Ah+1))) (hd:X.Ah=G.Ah+1) (hb:X.Ac=G.Ac):
  GS.Dg (.loop n b .nil) G=GS.Bd (GS.AP (GS.CL (GS.AP (GS.II (GS.AP (X.dp G.Ah) (.load 1 (.n (G.Ac+(48+G.Ah))) 0)) KN 1 (.r 1) (.n 1)) (.store (.n (G.Ac+(48+G.Ah))) 0 (.r 1))) (.r 1)) (.GN (GS.Ab (GS.st G (48+G.Ah) (.n n))).length))
   ⟨(GS.Ab (GS.AP (GS.II (GS.AP (X.dp G.Ah) (.load 1 (.n (G.Ac+(48+G.Ah))) 0)) KN 1 (.r 1) (.n 1)) (.store (.n (G.Ac+(48+G.Ah))) 0 (.r 1)))).length,U (.r 1)⟩:=by
 have e:X.dp G.Ah=GS.fQ X:=by unfold GS.fQ GS.dp;rw[hd,Int.add_sub_cancel]
 rw[e,<-hb];subst hX;rfl
theorem AbW (BY:Bool) (cells n:Int) (b:Bj) (sp:Option Addr) (sn sc:Nat) (ws:List Value) (F:List (Nat×Obj)) (p:Nat) (w:World) (g:MG) (G:GS) (h:Aq w (g.Az G)) (hK:AY w (g.Az G) F) (hF:(p,qK #[iI n,qD sp sn sc] 261 (0,0))∈F) (hn:J G.Ab<=998000) (ha:J g.av<=J G.Ab) (Fu:CK G.Ac) (d:Nat) (Cs:0<=cells/\cells<=6) (ES:G.block=BY) (Ns:G.cells=cells) (XO:0<=G.Ah/\G.Ah<=(d:Int)) (hd:d<3) (Vv:WF cells b (d+1) BY) (AiF:J G.Ab+2+Cf b<=998000) (ih:RQ F cells BY (Fx b)) (h3:Et F (qD sp sn sc) ws) (h4:D8 F b ws):
  Calls prog 104 #[iJ g.mb,.iface 259 (iJ p)] w (sU BY (GS.Dg (.loop n b .nil) G) g G w):=by
 have hpm:=hK.Ve hF;have IH:=D ih;have H3:=D h3;have H4:=D h4;clear ih h3 h4;obtain⟨Mm,Ue,hhi⟩:=Sa cells b Cs (d+1) BY (GS.dp (GS.st G (48+G.Ah) (.n n)) (G.Ah+1)) Vv ES Ns;have fF:=D Mm;clear Mm;try simp only[PC] at Ue hhi
 have bY:0<=(GS.dp (GS.st G (48+G.Ah) (.n n)) (G.Ah+1)).Ah/\(GS.dp (GS.st G (48+G.Ah) (.n n)) (G.Ah+1)).Ah<=((d+1:Nat)):=by show 0<=G.Ah+1/\G.Ah+1<=_;omega
 have hbg:(GS.dp (GS.st G (48+G.Ah) (.n n)) (G.Ah+1)).Ab.length+Cf b<=998000:=by (try simp only[PC]);omega
 have bt:True->(GS.Dg b (GS.dp (GS.st G (48+G.Ah) (.n n)) (G.Ah+1))).Ah=G.Ah+1:=λ_=>fF.Ah
 have oy:True->(GS.st G (48+G.Ah) (.n n)).Ah=G.Ah:=λ_=>rfl
 refine CI.begin F [(p,#[iI n,qD sp sn sc],261)] (U BY) h hK (hK.Pu hF) Fu ha ?_;clear h Fu hK hF;intro v H;have ta0:=kK;have ta1:=kL;have ta2:=W8;have ta3:=W9;have ta4:=TD;have ta5:=OL;go_enter func104,ntmps104
 revert v H
 refine MW ?_;refine MK (L2 (48+G.Ah)) ?_;refine MA #[qF I,iI (G.Ac+(48+G.Ah)),iI 0] 270 ?_;intro pl hpl;refine MR (sq [6] 0 7) 7 ?_;refine ME (xN n) ?_;refine MLL (tB (48+G.Ah) (.n n)) ?_;intro cc;refine MD (G.Ah+1) ?_;refine MK (oF (G0:=GS.dp (GS.st G (48+G.Ah) (.n n)) (G.Ah+1)) IH H3 H4 Vv Y ES Ns bY hbg fF.Ac) ?_;refine MD G.Ah ?_;refine MK (tC 1 (.n (G.Ac+(48+G.Ah))) 0) ?_;refine MK (xR 1) ?_;refine MK (xN 1) ?_;refine MK (iS KN 1 (.r 1) (.n 1)) ?_;refine MR (sq [2] 0 3) 3 ?_;refine ME (xR 1) ?_;refine ML (Aad (.n (G.Ac+(48+G.Ah))) 0 (.r 1)) ?_;refine MK (xR 1) ?_;refine MZ (W2 (.r 1)) ?_;intro badn bmdn bkdn;refine MK (bA (.GN (GS.Ab (GS.st G (48+G.Ah) (.n n))).length)) ?_;refine MK (Lc (.r 1) badn bmdn bkdn _) ?_;intro v H
 intros
 go_end0
 rw[Afd n b G _ rfl fF.out.Ah fF.out.Ac];exact H.out.stx
theorem AY.tF {b:Nat} (h:AY w L ((b,qK c T (0,0))::F)) (hf:∀q o,(q,o)∈F->q≠b) (i:Nat) (v:Value):
  AY (w.setCell ⟨b,i,Z⟩ v) L ((b,qK (c.setIfInBounds i v) T (0,0))::F):=by
 refine⟨λq o hq=>?_,λq o hq=>?_⟩
 .rcases Jl.1 hq with hq|hq
  .cases hq;exact Ch.set (h.heap b _ (Je ..)) i v
  .exact((Aw.refl [b] w).setCell (.inl EQ) v).heap (h.heap q o (Id _ hq)) (by simp[hf q o hq])
 .rcases Jl.1 hq with hq|hq
  .cases hq;exact h.out b _ (Je ..)
  .exact h.out q o (Id _ hq)
section
variable {w v:World} {g:MG} {G O:GS} {P:List QB} {b p:Nat} {cs ds:Array Value} {T Z99:TypeId} {F:List (Nat×Obj)} {R:List Ob} {i:Option Bool}
theorem CI.free (h:CI w g G O F ((b,cs,T)::P) R i v):∀k:Nat,v.frozen? ⟨b,k,Z⟩=I:=let ⟨_,_,_,h⟩:=h;h.kp.free (Je ..)
theorem CI.tF (h:CI w g G O [] [(b,cs,T),(p,ds,Z99)] [] Z v) (hb:w.heap.size<=b) (hp:p≠b) (k:Nat) (x:Value):CI w g G O [] [(b,cs.setIfInBounds k x,T),(p,ds,Z99)] [] Z (v.setCell ⟨b,k,Z⟩ x):=by
 obtain⟨c,a,AV,h⟩:=h;exact⟨c,a,AV,h.st.YY hb (h.kp.out b _ (Je ..)) k x,AY.nil _ _,h.kp.tF (λq o hq=>by rw[GE.1 hq |> JM Prod.fst |> λe=>(e:q=p)];exact hp) k x,h.ab,h.hb,h.al⟩
theorem CI.Ajw (h:CI w g G O F P [] Z v) (UG:O.BN=G.BN) (hlen:J G.Ab<=J O.Ab) (ha:J g.av<=J G.Ab):sU BY O g G w (qJ (qG #[])) v:=by
 obtain⟨_,c,st⟩:=h.mks (ret:= qG #[]);cases BY with
 |false=>exact⟨rfl,c,g.a,g.av,st,Y⟩
 |true=>exact⟨rfl,c,g.a,[],[],[],by rw[UG,Jr],by rw[Jr];exact st,AY.nil _ _,VV.nil _ _ _,by simpa using hlen⟩
end
theorem AbT (BY:Bool) (x:Int) (op:ByteArray) (a b:At) (F:List (Nat×Obj)) (p:Nat) (w:World) (g:MG) (G:GS) (h:Aq w (g.Az G)) (hK:AY w (g.Az G) F) (hF:(p,qK #[iI x,qE op,qF a.AX,iI a.v,qF b.AX,iI b.v] 238 (0,0))∈F) (hn:J G.Ab<=998000) (ha:J g.av<=J G.Ab) (Fu:CK G.Ac) (hv:0<=x/\x<4) (hoa:DP a) (uC:DP b) (I7:op.size=0):
  Calls prog 104 #[iJ g.mb,.iface 233 (iJ p)] w (sU BY (GS.Dg (.set x op a b .nil) G) g G w):=by
 have hpm:=hK.Ve hF;have Fi:True->IntKind.i64.wrap x=x:=λ_=>IntWalk.i64_in _ Y
 have Le:=GS.Dw G a 1;have iZ:=GS.D6 G a 1;have hq:(op.toList==[])=V:=by rw[ByteArray.toList_eq];have:=Array.size_eq_zero_iff.1 I7;rw[this];rfl
 have Hop:=D I7;clear I7;refine CI.begin [] [(p,#[iI x,qE op,qF a.AX,iI a.v,qF b.AX,iI b.v],238)] Z h (AY.nil _ _) (hK.Pu hF) Fu ha ?_;clear h Fu hK hF;intro v H;have ta0:=YL;go_enter func104,ntmps104
 revert v H
 refine MW ?_;refine MK (PO a 1) ?_;refine MA #[qF (GS.BF a 1).Dd,iI (GS.BF a 1).v] 264 ?_;intro q hq9;refine MR [(0,V),(1,V),(2,V),(3,V),(4,V),(5,V),(6,V),(8,V),(7,I),(9,I)] 9 ?_;refine ME (L2 x) ?_;refine ML (tB x (GS.BF a 1)) ?_;intro v H
 intros
 go_end0
 rw[show GS.Dg (.set x op a b .nil) G=GS.st ((G.Cn a 1)) x (GS.BF a 1) by simp[GS.Dg,Hop.out]];exact H.out.Ajw (by rw[GS.kP,GS.L4]) (by simp only[PC];omega) ha
theorem AbS (BY:Bool) (x:Int) (op:ByteArray) (a b:At) (F:List (Nat×Obj)) (p:Nat) (w:World) (g:MG) (G:GS) (h:Aq w (g.Az G)) (hK:AY w (g.Az G) F) (hF:(p,qK #[iI x,qE op,qF a.AX,iI a.v,qF b.AX,iI b.v] 238 (0,0))∈F) (hn:J G.Ab<=998000) (ha:J g.av<=J G.Ab) (Fu:CK G.Ac) (hv:0<=x/\x<4) (hoa:DP a) (uC:DP b) (I7:¬op.size=0):
  Calls prog 104 #[iJ g.mb,.iface 233 (iJ p)] w (sU BY (GS.Dg (.set x op a b .nil) G) g G w):=by
 have hpm:=hK.Ve hF;have hpl:=hK.lt hF;have Fi:True->IntKind.i64.wrap x=x:=λ_=>IntWalk.i64_in _ Y
 have Le:=GS.Dw G a 1;have iZ:=GS.D6 G a 1;have hq:(op.toList==[])=I:=by
  rw[ByteArray.toList_eq,Jh];intro h';apply I7;have:J op.data.toList=0:=by rw[h'];rfl
  simpa using this
 have Pm:=GS.Dw (G.Cn a 1) b 2;have hl4:=GS.D6 (G.Cn a 1) b 2;have Hop:=D I7;clear I7;refine CI.begin [] [(p,#[iI x,qE op,qF a.AX,iI a.v,qF b.AX,iI b.v],238)] Z h (AY.nil _ _) (hK.Pu hF) Fu ha ?_;clear h Fu hK hF;intro v H;have ta0:=YL;go_enter func104,ntmps104
 revert v H
 refine MW ?_;refine MK (PO a 1) ?_;refine MA #[qF (GS.BF a 1).Dd,iI (GS.BF a 1).v] 264 ?_;intro q hq9;refine MR (sq [11] 0 12) 12 ?_;refine ME (PO b 2) ?_;refine ML (iS op 1 (GS.BF a 1) (GS.BF b 2)) ?_;intro v H
 intros
 refine(xR 1 H).mono ?_;clear H;rintro e v ⟨rfl,H⟩;have kf:=H.out.free;obtain⟨q1,q2,q3,q4,q5,q6,q7,q8,q9,q10⟩:=H.out.Tp;go_wp2_with (with_reducible refine UL ?_);have hpq:p≠q:=Y
 obtain⟨v2,hv2⟩:∃z,z=(v.setCell ⟨q,0,Z⟩ (qF V)).setCell ⟨q,1,Z⟩ (iI 1):=⟨_,rfl⟩;have H2:=D ((H.out.tF hq9.2 hpq 0 (qF V)).tF hq9.2 hpq 1 (iI 1));rw[<-hv2] at H2⊢;clear kf q1 q2 q3 q4 q5 q6 q7 q8 q9 q10 hpq hv2 H
 revert v2 H2
 refine MR [(0,V),(1,V),(2,V),(3,V),(4,V),(5,V),(6,V),(8,V),(7,I),(9,I)] 9 ?_;refine ME (L2 x) ?_;refine ML (tB x (.r 1)) ?_;intro v H
 intros
 go_end0
 rw[show GS.Dg (.set x op a b .nil) G=GS.st (((G.Cn a 1).Cn b 2).II op 1 (GS.BF a 1) (GS.BF b 2)) x (.r 1) by simp[GS.Dg,Hop.out]];exact H.out.Ajw (by show(GS.st _ _ _).BN=_;rw[GS.kP,GS.dE,GS.L4,GS.L4]) (by simp only[PC];omega) ha
def skR (sp:Option Addr) (sc k:Nat) (xs:List Value):List Ob:=[.row (qD sp k sc) 1 1 k xs]
theorem CI.Alv (h:CI w g G O F P [] i v):CI w g G O F P (skR Z 0 0 []) i v:=
 let ⟨c,a,AV,h⟩:=h
 have s:=Zj (o:=.row (qD Z 0 0) 1 1 0 []) (show Aq v (MG.Az {g with c:=c,a:=a,av:=AV} O) from h.st.Ak) (ownsRow_nil _ _ _ _) rfl
 ⟨c,a,AV,h.st.trans s,h.kf.step s,h.kp.step s,h.ab.step s rfl (Jf _),h.hb,h.al⟩
theorem CJ.L9 {v':World} {c a:SG} {AV:List Value} {sp sq:Option Addr} {sc sd k l:Nat} {ys:List Value} (h:CJ w g G O c a AV F P (skR sp sc k xs) i v)
  (s:Af v (MG.Az {g with c:=c,a:=a,av:=AV} O++skR sp sc k xs) v' (MG.Az {g with c:=c,a:=a,av:=AV} O++skR sq sd l ys)):CI w g G O F P (skR sq sd l ys) i v':=
 ⟨c,a,AV,h.st.trans s,h.kf.step s,h.kp.step s,h.ab.step s rfl (Jf _),h.hb,h.al⟩
theorem Abc {g k:Nat} {v:Value} (hrc:∀i,(hi:i<(xs++[v]).length)->w.cell? ⟨g,i,Z⟩=U (xs++[v])[i]) (h:J xs=k):w.cell? ⟨g,k,Z⟩=U v:=by
 subst h;rw[hrc (J xs) EQ];simp
theorem lR (w:World) (g:MG) (G:GS) (h:Aq w (g.Az G)) (hn:J G.Ab<=999000) (ha:J g.av<=J G.Ab) (Fu:CK G.Ac) (Cs:0<=G.cells/\G.cells<=6):
  Calls prog 156 #[iJ g.mb] w (StS (G.Eh) g G w):=by
 refine CI.begin [] [] (U V) h (AY.nil _ _) (AY.nil _ _) Fu ha ?_;clear h Fu;intro v H;go_enter func156,ntmps156
 revert v H
 refine MW ?_;refine MA #[iJ g.mb] 166 ?_;intro bx SP;intro v H
 intros
 go_loopw [19] (λiv wr=>LR GS.Re G.cells w g G G [] [(bx,#[iJ g.mb],166)] [] (U V) iv wr) (λiv _=>(G.cells:Int).toNat-(intOf iv).toNat);case atStart=>exact LR.start Cs.1 H.out
 case round=>
  clear H;obtain⟨k,Gk,rfl,VX,hl,HG,HC,H⟩:=LR.open hrel GS.dV (Ar.Re);clear hrel;by_cases hk:(k:Int)<G.cells
  .have Xw:J Gk.Ab<=999100:=Y
   have bw:k<=100:=Y
   obtain⟨z0,z1,z2,z3,z4,z5,z6,z7,y0,y1,y2,y3,zi⟩:=wrs k bw;clear hl
   revert wr H
   refine MW ?_;refine MZ (ky k 8 bx) ?_;intro bas bms bks;refine MK (xN (8+k)) ?_;refine MA #[qF I,iI (8+k),iI 0] 270 ?_;intro pl hpl;refine MK (Aai 2 (8+k)) ?_;refine MK (Aag 2) ?_;refine MR (sq [1,2] 0 3) 3 ?_;refine ME (xR 2) ?_;refine ME (xN 1) ?_;refine ML (iS nOr 3 (.r 2) (.n 1)) ?_;refine MR (sq [2,3] 0 6) 6 ?_;refine ME (xR 2) ?_;refine ME (xR 3) ?_;refine ML (bA (.La 3 (.n (8+k)) 0 (.r 2) (.r 3))) ?_;refine MK (fI 3) ?_;refine MR (sq [4,5] 0 6) 6 ?_;refine ME (L2 (26+k)) ?_;refine ME (xN 1) ?_;refine ML (tB (26+k) (.n 1)) ?_;refine MR (sq [4,5] 0 6) 6 ?_;refine ME (L2 (32+k)) ?_;refine ME (xR 2) ?_;refine ML (tB (32+(k:Int)) (.r 2)) ?_;refine MK (Lc (.r 1) bas bms bks _) ?_;exact maC
  .have Pz:k=G.cells.toNat:=Y
   rw[Pz] at HG;have Xw:J Gk.Ab<=999100:=Y
   replace hk:=Ju hk;clear hl VX Pz;obtain⟨G1,hG1⟩:∃z,z=Gk:=⟨_,rfl⟩;rw[<-hG1] at HG HC H Xw;have HG1:=HG;have z8:=HC;clear hG1 HG HC;have Ys:True->G1.cells=G.cells:=λ_=>z8.out.cells
   revert wr H
   refine MW ?_;refine MR (sq [1,3] 0 6) 6 ?_;refine ME (xN 16) ?_;refine ME (xN 1) ?_;refine ML (bA (.El 5 (.n 16) 0 (.n 1))) ?_;refine MR (sq [1,2] 0 3) 3 ?_;refine ME (xR 5) ?_;refine ME (xN 1) ?_;refine ML (iS KO 5 (.r 5) (.n 1)) ?_;refine MR (sq [1,2] 0 3) 3 ?_;refine ME (xR 5) ?_;refine ME (xN 1) ?_;have Wy:True->(GS.II (GS.II (GS.AP G1 (.El 5 (.n 16) 0 (.n 1))) KO 5 (.r 5) (.n 1)) Vh 5 (.r 5) (.n 1)).cells=G.cells:=Ys;refine ML (iS Vh 5 (.r 5) (.n 1)) ?_;obtain⟨G2,hG2⟩:∃z,z=GS.II (GS.II (GS.AP G1 (.El 5 (.n 16) 0 (.n 1))) KO 5 (.r 5) (.n 1)) Vh 5 (.r 5) (.n 1):=⟨_,rfl⟩;have Aoh:J G2.Ab<=999110:=by rw[hG2];simp only[PC];omega
   rw[<-hG2] at Wy⊢;have HG2:=D hG2;clear hG2;intro v H
   intros
   go_loopw [83] (λiv wr=>LR GS.Rc G.cells w g G G2 [] [(bx,#[iJ g.mb],166)] [] (U V) iv wr) (λiv _=>(G.cells:Int).toNat-(intOf iv).toNat);case atStart=>exact LR.start Cs.1 H.out
   case round=>
    clear H;obtain⟨k,Gk,rfl,VX,hl,HG,HC,H⟩:=LR.open hrel GS.dU (Ar.Rc);clear hrel;by_cases hk:(k:Int)<G.cells
    .have Xw:J Gk.Ab<=999200:=Y
     have bw:k<=100:=Y
     obtain⟨z0,z1,z2,z3,z4,z5,z6,z7,y0,y1,y2,y3,zi⟩:=wrs k bw;clear hl
     revert wr H
     refine MW ?_;refine MZ (ky k 20 bx) ?_;intro bas bms bks;refine MZ (ky k 26 bx) ?_;intro bam bmm bkm;refine MJJ tD ?_;intro bmo bko;refine MK (Lc (.r 1) bam bmm bkm _) ?_;refine MR (sq [3] 0 5) 5 ?_;refine ME (xN (8+k)) ?_;refine ML (Aai 2 (8+k)) ?_;refine MK (Aag 2) ?_;refine MK (Aak bmo bko _) ?_;refine MK (Lc (.r 1) bas bms bks _) ?_;exact maC
    .have Pz:k=G.cells.toNat:=Y
     rw[Pz] at HG;have Xw:J Gk.Ab<=999200:=Y
     replace hk:=Ju hk;clear hl VX Pz;obtain⟨G3,hG3⟩:∃z,z=Gk:=⟨_,rfl⟩;rw[<-hG3] at HG HC H Xw;have HG3:=HG;have AnK:=HC;clear hG3 HG HC;have hc3:True->G3.cells=G.cells:=λ_=>AnK.out.cells.trans (Wy trivial)
     revert wr H
     refine MW ?_;intro v H
     intros
     go_loopw [113,2] (λiv s wr=>∃(k:Nat) (sp:Option Addr) (sc:Nat) (xs:List Value),iv= iI k/\s= qD sp k sc/\(k:Int)<=G.cells/\CI w g G (GS.OF GS.Ze k G3) [] [(bx,#[iJ g.mb],166)] (skR sp sc k xs) (U V) wr) (λi _ _=>G.cells.toNat-(intOf i).toNat);case atStart=>exact⟨0,Z,0,[],rfl,rfl,Cs.1,H.Alv⟩
     case round=>
      clear H;obtain⟨k,sp,sc,xs,rfl,rfl,VX,hI⟩:=hrel;obtain⟨k1,Gk,GZ,AmR,hl,HG,HC,H⟩:=LR.open (⟨k,rfl,VX,hI⟩) GS.lA Ar.Ze;obtain rfl:k=k1:=by simp at GZ;omega
      clear hI AmR GZ;by_cases hk:(k:Int)<G.cells
      .have Xw:J Gk.Ab<=999230:=Y
       have bw:k<=100:=Y
       obtain⟨z0,z1,z2,z3,z4,z5,z6,z7,y0,y1,y2,y3,zi⟩:=wrs k bw;obtain⟨j0,hj,LP,KZ,MH⟩:=info_parts uA;have Aiw:k+1<=maxLen:=by unfold maxLen;omega
       have Aiv:(k+1)*8<=140737488355328:=Y
       clear hl
       revert wr H
       refine MW ?_;intro v H
       intros
       refine(ky k 8 bx H).mono ?_;clear H;rintro e v ⟨ba,bm,bk,rfl,H⟩;obtain⟨c,a,AV,HJ⟩:=H.out;have hg:=D HJ;obtain⟨q1,q2,q3,q4,q5,q6,q7,q8,q9⟩:=H.Tp;clear HJ;go_wp2_with (first|(with_reducible refine UL ?_)|(at_builtin;refine A6 8 _ _ _ j0 _ #[.func (.func 154) #[] #[iJ ba,iJ bm,iJ bk]] _ hg.st.Ak (k:=3) rfl Eq Eq underlying167 hj LP KZ MH rfl m8 Eq Eq rfl (by simp[Value.oneCell']) Aiw Aiv ?_;intro g6 AI w6 Ay hx9;clear hx9;rw[NF] at Ay;have FZ:=D Ay;clear Ay q1 q2 q3 q4 q5 q6 q7 q8 q9));replace H:=D (hg.L9 FZ);clear FZ hg j0 hj LP KZ MH
       revert w6 H
       refine MR (sq [4] 0 5) 5 ?_;refine ME (L2 (14+k)) ?_;refine ML (xlo 2 (14+k)) ?_;refine MR (sq [2,4] 0 5) 5 ?_;refine ME (xN k) ?_;refine ME (xR 2) ?_;intro v H
       intros
       refine AJ rfl (λzK hK=>?_);go_simp;refine(Aaf k (.r 2) H).mono ?_;clear H;rintro e v ⟨rfl,H⟩;obtain⟨c2,a2,AV2,HJ⟩:=H.out;have hrw:=HJ.st.Ak.row (i:=3) rfl;obtain⟨hrc,hrf,FQ⟩:=AZ hrw;have hrk:=Abc hrc (by simpa using hrw.1);clear hrw hrc HJ;refine hK _ _ (λh=>Jk rfl h) ?_;clear hK zK;simp only[BO];go_wp2_with (with_reducible refine UL ?_);clear hrk hrf FQ
       revert v H
       refine MK (Lc (.r 1) ba bm bk _) ?_;intro v H;go_roundw;case rel=>exact⟨k+1,_,_,_,rfl,rfl,Y,by rw[GS.OF,<-HG.out];exact H.sub EQ EQ⟩
       case measure=>simp[intOf];omega
      .have Pz:k=G.cells.toNat:=Y
       rw[Pz] at HG;have Xw:J Gk.Ab<=999230:=Y
       replace hk:=Ju hk;clear hl VX Pz;obtain⟨G4,hG4⟩:∃z,z=Gk:=⟨_,rfl⟩;rw[<-hG4] at HG HC H Xw;have HG4:=HG;have Z6:True->G4.cells=G.cells:=λ_=>HC.out.cells.trans (hc3 trivial)
       clear hG4 HG HC;replace H:=D H.Alh
       revert wr H
       refine MW ?_;intro v H
       intros
       go_loopw [144] (λiv wr=>LR GS.Rx G.cells w g G G4 [] [(bx,#[iJ g.mb],166)] [] (U V) iv wr) (λiv _=>(G.cells:Int).toNat-(intOf iv).toNat);case atStart=>exact LR.start Cs.1 H.out
       case round=>
        clear H;obtain⟨k,Gk,rfl,VX,hl,HG,HC,H⟩:=LR.open hrel GS.eK (Ar.Rx);clear hrel;by_cases hk:(k:Int)<G.cells
        .have Xw:J Gk.Ab<=999260:=Y
         have bw:k<=100:=Y
         obtain⟨z0,z1,z2,z3,z4,z5,z6,z7,y0,y1,y2,y3,zi⟩:=wrs k bw;clear hl
         revert wr H
         refine MW ?_;refine MZ (ky k 8 bx) ?_;intro bas bms bks;refine MR (sq [3,5] 0 6) 6 ?_;refine ME (xN (8+k)) ?_;refine ME (xR 5) ?_;refine ML (Aaf (8+(k:Int)) (.r 5)) ?_;refine MK (Lc (.r 1) bas bms bks _) ?_;exact maC
        .have Pz:k=G.cells.toNat:=Y
         rw[Pz] at HG;have Xw:J Gk.Ab<=999260:=Y
         replace hk:=Ju hk;clear hl VX Pz;obtain⟨G5,uM⟩:∃z,z=Gk:=⟨_,rfl⟩;rw[<-uM] at HG HC H Xw;have HG5:=HG;clear uM HG HC
         revert wr H
         refine MW ?_;intro v H
         intros
         go_end0
         have e:G.Eh=G5:=by rw[HG5.out,HG4.out,HG3.out,HG2.out,HG1.out];rfl
         rw[e];exact H.Dg
def GS.Ao (g:GS) (b:Bool):GS:={g with block:=b}
def GS.enter (g:GS):GS:={g with block:=V,BN:=[]}
theorem Af.enter (h:Aq w (g.Az G)):Af w (g.Az G) ((w.setCell ⟨g.mb,3,Z⟩ (qF V)).setCell ⟨g.mb,4,Z⟩ (qD Z 0 0)) (MG.Az {g with a:=⟨Z,0⟩,av:=[]} G.enter):=by
 have s1:=h.set (i:=0) rfl 3 (qF V);have s2:=s1.Ak.set (i:=0) rfl 4 (qD Z 0 0);have s3:=s2.Ak.swap (i:=2) (o':=.row (qD Z 0 0) 1 1 0 []) rfl (Aw.refl _ _) (ownsRow_nil _ _ _ _) (by simp[Ob.fp,Value.ownBlock]) (by intro b hb;simp[Ob.fp,Value.ownBlock] at hb);exact(s1.trans s2).trans s3
theorem Af.Ao (h:Aq w (g.Az G)) (b:Bool):Af w (g.Az G) (w.setCell ⟨g.mb,3,Z⟩ (qF b)) (MG.Az g (G.Ao b)):=h.set (i:=0) rfl 3 (qF b)
theorem tA.len (h:tA F mb vs ls):J vs=J ls:=by
 induction h with
 |nil=>rfl
 |cons _ _ ih=>simp[ih]
theorem tA.AN (h:tA F mb vs ls):∀(k:Nat) (hv:k<J vs) (hl:k<J ls),WY F vs[k] mb ls[k]:=by
 induction h with
 |nil=>intro k hv;simp at hv
 |cons a _ ih=>
  intro k hv hl;cases k with
  |zero=>exact a
  |succ k=>exact ih k (by simpa using hv) (by simpa using hl)
theorem Z4 (l:List Io) (g:GS) (k:Nat) (hk:k<J l):(l.take (k+1)).foldl GS.Bd g=((l.take k).foldl GS.Bd g).Bd l[k]:=by
 exact mbv
theorem fx (b:Bj) (cells:Int) (G G1 G2 G4 G5:GS) (h1:G1=GS.OF GS.Pj 4 G) (h2:G2=GS.OF GS.Kr cells.toNat G1) (hc:G1.cells=cells) (h4:G4=GS.Dg b (GS.enter (GS.st (GS.Pw (GS.st G2 39 (.n 0)) 1 16) 38 (.r 1))))
  (h5:G5=if BV b then GS.Eh (GS.Ao G4 I) else GS.Ao G4 I):
  GS.Dg (.atomic b .nil) G=GS.Bd (GS.GB ((GS.GR G5).BN.foldl GS.Bd (GS.CW (GS.GR G5))) (J G1.Ab)) ⟨(GS.Ab (GS.GR G5)).length,Z⟩:=by
 have e1:GS.BU G=G1:=h1.symm;have e2:GS.Us G1=GS.enter (GS.st (GS.Pw (GS.st G2 39 (.n 0)) 1 16) 38 (.r 1)):=by
  unfold GS.Us;rw[hc];rw[<-h2];rfl
 show GS.PG (GS.Dg b (GS.Us (GS.BU G))) (GS.BU G).Ab.length (BV b)=_;rw[e1,e2,<-h4];unfold GS.PG;subst h5;rfl
section
variable {w v:World} {g:MG} {G O:GS} {F:List (Nat×Obj)} {P:List QB} {R:List Ob} {i:Option Bool}
theorem CI.Ao (b:Bool) (h:CI w g G O F P [] i v):∃v2,v2=v.setCell ⟨g.mb,3,Z⟩ (qF b)/\Hid (CI w g G (O.Ao b) F P [] i v2):=by
 obtain⟨c,a,AV,h⟩:=h;exact⟨_,rfl,c,a,AV,h.step (Af.Ao h.st.Ak b) rfl rfl (Jf _)⟩
theorem CI.enter (h:CI w g G O F P [] i v):∃v2 c1,v2=(v.setCell ⟨g.mb,3,Z⟩ (qF V)).setCell ⟨g.mb,4,Z⟩ (qD Z 0 0)/\Hid (Af w (g.Az G) v2 (MG.Az ⟨g.mb,c1,⟨Z,0⟩,[]⟩ O.enter))/\Hid (CI v2 ⟨g.mb,c1,⟨Z,0⟩,[]⟩ O.enter O.enter F P [] (U V) v2):=by
 obtain⟨c,a,AV,h⟩:=h;have s:=Af.enter h.st.Ak;exact⟨_,c,rfl,h.st.trans s,_,_,_,Af.refl s.Ak,h.kf.step s,h.kp.step s,.start,h.hb,Jo _⟩
end
theorem CI.Alc {R:List Ob} (h:CI w g G O F P R i v):∃x,v.cell? ⟨g.mb,4,Z⟩=U x:=by
 obtain⟨c,a,AV,h⟩:=h;have m:=Dj (Af.AK h.st.Ak).Ak;exact⟨_,m.c 4⟩
theorem Aaj (bm bk k:Nat)⦃w v:World⦄⦃g:MG⦄⦃G O:GS⦄⦃F:List (Nat×Obj)⦄⦃P:List QB⦄⦃R:List Ob⦄⦃i:Option Bool⦄(H:Hid (CI w g G O F P R i v)) (h1:Gf bk k∈F:=by simp) (h3:Ge bm g.mb∈F:=by simp) (hn:J O.Ab<=1000000:=by omega) (hk:k<J O.Ab:=by omega):
  Calls prog 174 #[iJ bm,iJ bk] v (λe v'=>e= qJ (qG #[])/\Hid (CI w g G (O.Bd ⟨k,Z⟩) F P R i v')):=Aak bm bk k H h1 h3 hn hk
theorem Aec⦃w v:World⦄⦃g:MG⦄⦃G O:GS⦄⦃F:List (Nat×Obj)⦄⦃P:List QB⦄⦃i:Bool⦄(H:Hid (CI w g G O F P [] (U i) v)) (hn:J O.Ab<=999000) (Cs:0<=O.cells/\O.cells<=6):
  Calls prog 156 #[iJ g.mb] v (λe v'=>e= qJ (qG #[])/\Hid (CI w g G O.Eh F P [] (U i) v')):=
 CI.ab H (Ar.Eh (Ar.refl O)).Ac λc1 a1 A1 h hb ha=>lR v {g with c:=c1,a:=a1,av:=A1} O h hn ha hb Cs
theorem Agt⦃w v:World⦄⦃g:MG⦄⦃G O:GS⦄⦃F:List (Nat×Obj)⦄⦃P:List QB⦄⦃R:List Ob⦄⦃i:Option Bool⦄(H:Hid (CI w g G O F P R i v)) (hn:J O.Ab<=999900:=by (try simp only[PC]);omega):
  Calls prog 157 #[iJ g.mb] v (λe v'=>e= qJ (qG #[])/\Hid (CI w g G O.GR F P R i v')):=
 CI.mk H (by unfold GS.GR;simp only[GS.II,GS.lo,GS.SL,GS.CL,GS.Bd,GS.AP]) (Ar.GR (Ar.refl O)).Ac (Oo (GS.PU _)) λc1 a1 A1 h hb ha=>pX v {g with c:=c1,a:=a1,av:=A1} O h hn ha hb
theorem GS.Agc (g:GS) (C4:Nat):(g.GB C4).BN=g.BN:=by
 have h1:∀n (x:GS),(GS.OF GS.Pq n x).BN=x.BN:=λn x=>by
  induction n with
  |zero=>rfl
  |succ n ih=>exact ih
 have h2:∀n (x:GS),(GS.OF GS.Pl n x).BN=x.BN:=λn x=>by
  induction n with
  |zero=>rfl
  |succ n ih=>exact ih
 unfold GS.GB;exact(h2 _ _).trans (h1 _ _)
theorem Agv (C4:Nat)⦃w v:World⦄⦃g:MG⦄⦃G O:GS⦄⦃F:List (Nat×Obj)⦄⦃P:List QB⦄⦃R:List Ob⦄⦃i:Option Bool⦄(H:Hid (CI w g G O F P R i v)) (hn:J O.Ab<=999000) (Cs:0<=O.cells/\O.cells<=100):
  Calls prog 158 #[iJ g.mb,iI (C4:Int)] v (λe v'=>e= qJ (qG #[])/\Hid (CI w g G (O.GB C4) F P R i v')):=
 CI.mk H (GS.Agc _ _) (Ar.GB (Ar.refl O) _).Ac (by rw[GS.RL];omega) λc1 a1 A1 h hb ha=>rh C4 v {g with c:=c1,a:=a1,av:=A1} O h hn ha hb Cs
theorem lS (cells:Int) (b:Bj) (sp:Option Addr) (sn sc:Nat) (ws:List Value) (F:List (Nat×Obj)) (p:Nat) (w:World) (g:MG) (G:GS) (h:Aq w (g.Az G)) (hK:AY w (g.Az G) F) (hF:(p,qK #[qD sp sn sc] 255 (0,0))∈F) (hn:J G.Ab+296+Cf b<=998000) (ha:J g.av<=J G.Ab) (Fu:CK G.Ac)
  (d:Nat) (Cs:0<=cells/\cells<=6) (ES:G.block=I) (Ns:G.cells=cells) (XO:0<=G.Ah/\G.Ah<=(d:Int)) (hd:d<3) (Vv:WF cells b (d+1) V) (ih:RQ F cells V (Fx b)) (h3:Et F (qD sp sn sc) ws) (Ib:Fx b<=1000) (h4:D8 F b ws):
  Calls prog 142 #[iJ g.mb,iJ p] w (Ad6 (GS.Dg (.atomic b .nil) G) g G w):=by
 have hpm:=hK.Ve hF;have IH:=D ih;have H3:=D h3;have H4:=D h4;have Hwb:=D Vv;refine CI.begin F [(p,#[qD sp sn sc],255)] (U I) h hK (hK.Pu hF) Fu ha ?_;clear h Fu hK hF ih h3 h4 Vv ha;intro v H;go_enter func142,ntmps142
 revert v H
 refine MW ?_;intro v H
 intros
 go_loopw [10] (λiv wr=>LR GS.Pj 4 w g G G F [(p,#[qD sp sn sc],255)] [] (U I) iv wr) (λiv _=>(4:Int).toNat-(intOf iv).toNat);case atStart=>exact LR.start Do H.out
 case round=>
  clear H;obtain⟨k,Gk,rfl,VX,hl,HG,HC,H⟩:=LR.open hrel GS.dq (Ar.Pj);clear hrel;by_cases hk:(k:Int)<4
  .have Xw:J Gk.Ab+Cf b<=997712:=Y
   clear hl
   revert wr H
   refine MW ?_;refine MK (L2 k) ?_;refine MK (xlo 1 k) ?_;refine MK (L2 (4+k)) ?_;refine MK (xR 1) ?_;refine MK (tB (4+k) (.r 1)) ?_;exact maC
  .have Pz:k=(4:Int).toNat:=Y
   rw[Pz] at HG;have Xw:J Gk.Ab+Cf b<=997712:=Y
   replace hk:=Ju hk;clear hl VX Pz;obtain⟨G1,hG1⟩:∃z,z=Gk:=⟨_,rfl⟩;rw[<-hG1] at HG HC H Xw;have HG1:=HG;have z8:=HC;clear hG1 HG HC;have Ys:True->G1.cells=cells:=λ_=>z8.out.cells.trans Ns
   revert wr H
   refine MWL ?_;intro cc;intro v H
   intros
   go_loopw [36] (λiv wr=>LR GS.Kr cells w g G G1 F [(p,#[qD sp sn sc],255)] [] (U I) iv wr) (λiv _=>(cells:Int).toNat-(intOf iv).toNat);case atStart=>exact LR.start Cs.1 H.out
   case round=>
    clear H;obtain⟨k,Gk,rfl,VX,hl,HG,HC,H⟩:=LR.open hrel GS.aH (Ar.Kr);clear hrel;by_cases hk:(k:Int)<cells
    .have Xw:J Gk.Ab+Cf b<=997730:=Y
     have bw:k<=100:=Y
     obtain⟨z0,z1,z2,z3,z4,z5,z6,z7,y0,y1,y2,y3,zi⟩:=wrs k bw;clear hl
     revert wr H
     refine MW ?_;refine MK (L2 (8+k)) ?_;refine MK (xN 0) ?_;refine MK (tB (8+k) (.n 0)) ?_;refine MK (L2 (20+k)) ?_;refine MK (xN 0) ?_;refine MK (tB (20+k) (.n 0)) ?_;refine MK (L2 (26+k)) ?_;refine MK (xN 0) ?_;refine MK (tB (26+k) (.n 0)) ?_;exact maC
    .have Pz:k=cells.toNat:=Y
     rw[Pz] at HG;have Xw:J Gk.Ab+Cf b<=997730:=Y
     replace hk:=Ju hk;clear hl VX Pz;obtain⟨G2,hG2⟩:∃z,z=Gk:=⟨_,rfl⟩;rw[<-hG2] at HG HC H Xw;have HG2:=HG;have AlT:=HC;clear hG2 HG HC;have Wy:True->G2.cells=cells:=λ_=>AlT.out.cells.trans (Ys trivial)
     revert wr H
     refine MW ?_;refine MK (L2 39) ?_;refine MK (xN 0) ?_;refine MK (tB 39 (.n 0)) ?_;refine MK (xN 16) ?_;refine MK (Aai 1 16) ?_;refine MK (L2 38) ?_;refine MK (xR 1) ?_;intro v H
     intros
     refine(tB 38 (.r 1) H).mono ?_;clear H;rintro e v ⟨rfl,H⟩;obtain⟨q1,q2,q3,q4,q5,q6,q7,q8,_⟩:=H.Tp;obtain⟨x4,q10⟩:=H.Alc;go_wp2_with fail;clear q1 q2 q3 q4 q5 q6 q7 q8 q10;obtain⟨v2,c1,hv2,S3,H3'⟩:=H.enter;rw[<-hv2];obtain⟨G3,hG3⟩:∃z,z=((G2.st 39 (.n 0)).Pw 1 16).st 38 (.r 1):=⟨_,rfl⟩;have hc3:G3.cells=cells:=by rw[hG3];exact Wy trivial
     have iZ:J G3.Ab+Cf b<=997740:=by rw[hG3];simp only[PC];omega
     have hd3:0<=G3.Ah/\G3.Ah<=((d+1:Nat)):=by
      have:G3.Ah=G.Ah:=by rw[hG3];exact AlT.out.Ah.trans z8.out.Ah
      rw[this];omega
     rw[<-hG3] at S3 H3';have HG3:=D hG3;clear H hv2 hG3;obtain⟨v0,hv0⟩:∃z,z=v2:=⟨_,rfl⟩;rw[show CI v2 ⟨g.mb,c1,⟨Z,0⟩,[]⟩ (GS.enter G3) (GS.enter G3) F [(p,#[qD sp sn sc],255)] [] (U V) v2=CI v0 ⟨g.mb,c1,⟨Z,0⟩,[]⟩ (GS.enter G3) (GS.enter G3) F [(p,#[qD sp sn sc],255)] [] (U V) v2 by rw[hv0]] at H3';rw[<-hv0] at S3;clear hv0
     revert v2 H3'
     obtain⟨Mm,Ue,hhi⟩:=Sa cells b Cs (d+1) V (GS.enter G3) Hwb rfl hc3;have hhi:(GS.Dg b (GS.enter G3)).Ab.length<=J G3.Ab+Cf b:=hhi;refine MK (oF (G0:=GS.enter G3) IH H3 H4 Hwb Y rfl hc3 hd3 (by show J G3.Ab+_<=_;omega) Mm.Ac) ?_;obtain⟨G4,hG4⟩:∃z,z=GS.Dg b (GS.enter G3):=⟨_,rfl⟩;have Z6:G4.cells=cells:=by rw[hG4];exact Mm.cells.trans hc3
     rw[<-hG4] at hhi⊢;have hl4:J G4.Ab<=997740:=Y
     have HG4:=D hG4;clear hG4 Mm Ue hhi iZ hd3;intro v H
     intros
     obtain⟨v2,hv2,H2⟩:=H.Ao I;rw[<-hv2];clear H hv2;obtain⟨_,_,_,hq2⟩:=H2.out;refine(show Calls prog _ _ v2 (λe w'=>e= qJ (qF (BV b))/\Hid (CI v0 ⟨g.mb,c1,⟨Z,0⟩,[]⟩ (GS.enter G3) (G4.Ao I) F [(p,#[qD sp sn sc],255)] [] (U V) w')) from(Abn F _ _ hq2.kf 1000 (Jf _) b (qD sp sn sc) ws Ib H3 H4).mono (by rintro e w1 ⟨rfl,rfl⟩;exact⟨rfl,H2⟩)).mono ?_;clear H2 hq2;rintro e v ⟨rfl,H⟩;cases Tl:BV b with
     |true=>
      revert v H
      refine MW ?_;refine MK (fun⦃w v g G F P i⦄(H:Hid (CI w g G (GS.Ao G4 I) F P [] (U i) v))=>Aec H (by show J G4.Ab<=_;omega) (by rw[show(GS.Ao G4 I).cells=cells from Z6];exact Cs)) ?_;obtain⟨G5,uM⟩:∃z,z=GS.Eh (GS.Ao G4 I):=⟨_,rfl⟩;have hl5:J G5.Ab<=997980:=by rw[uM,GS.Gh];show J G4.Ab+(GS.cells G4).toNat*37+3<=_;rw[Z6];omega
      have hc5:G5.cells=cells:=by rw[uM];exact(Ar.Eh (Ar.refl _)).cells.trans Z6
      have HG5:=D (show G5=if BV b then GS.Eh (GS.Ao G4 I) else GS.Ao G4 I by rw[Tl,uM];rfl);rw[<-uM];clear uM Z6 Tl;refine MK Agt ?_;obtain⟨G6,hG6⟩:∃z,z=GS.GR G5:=⟨_,rfl⟩;have hl6:J G6.Ab<=997990:=by rw[hG6,GS.PU];omega
      have mP:G6.cells=cells:=by rw[hG6];exact(Ar.GR (Ar.refl G5)).cells.trans hc5
      rw[<-hG6];have HG6:=D hG6;clear hG6 hl5 hc5;intro v H
      intros
      refine(tD H Y).mono ?_;clear H;rintro e v ⟨bm,bk,rfl,H⟩;obtain⟨c,⟨ap,ac⟩,AV,HJ⟩:=H.out;clear H;obtain⟨vs,ls,E,e1,e2,kE,an,_⟩:=HJ.ab rfl;obtain rfl:AV=vs:=e1;have UG:G6.BN=ls:=e2;obtain⟨hc,hf,hlt⟩:=Dj (show Aq v (MG.Az {g with c:=c,a:=⟨ap,ac⟩,av:=AV} G6.CW) from HJ.st.Ak);have Kb:=D an.all;have Fg:=D an.lt;have Hab:=D UG;have HQ:=D (show CJ v0 ⟨g.mb,c1,⟨Z,0⟩,[]⟩ (GS.enter G3) ([].foldl GS.Bd G6.CW) c ⟨ap,ac⟩ AV (E++(Gf bk (J G6.Ab)::Ge bm g.mb::F)) [(p,#[qD sp sn sc],255)] [] (U V) v from⟨HJ.st,HJ.kf.gJ kE,HJ.kp,HJ.ab,HJ.hb,HJ.al⟩);have hal:J AV<=998000:=by have:=HJ.al;rw[GS.FJ] at this;omega
      clear HJ kE an e2 UG;dsimp only at hc hf hlt;go_wp2;clear hc hf hlt;go_loopw [106] (λi wr=>∃(k:Nat) (c:SG),i= iI k/\k<=J AV/\CJ v0 ⟨g.mb,c1,⟨Z,0⟩,[]⟩ (GS.enter G3) ((ls.take k).foldl GS.Bd G6.CW) c ⟨ap,ac⟩ AV (E++(Gf bk (J G6.Ab)::Ge bm g.mb::F)) [(p,#[qD sp sn sc],255)] [] (U V) wr) (λi _=>J AV-(intOf i).toNat);case atStart=>exact⟨0,_,rfl,Jo _,HQ⟩
      case round=>
       exact maf
     |false=>
      revert v H
      refine MW ?_;obtain⟨G5,uM⟩:∃z,z=GS.Ao G4 I:=⟨_,rfl⟩;have hl5:J G5.Ab<=997980:=by rw[uM];show J G4.Ab<=_;omega
      have hc5:G5.cells=cells:=by rw[uM];exact Z6
      have HG5:=D (show G5=if BV b then GS.Eh (GS.Ao G4 I) else GS.Ao G4 I by rw[Tl,uM];rfl);rw[<-uM];clear uM Z6 Tl;refine MK Agt ?_;obtain⟨G6,hG6⟩:∃z,z=GS.GR G5:=⟨_,rfl⟩;have hl6:J G6.Ab<=997990:=by rw[hG6,GS.PU];omega
      have mP:G6.cells=cells:=by rw[hG6];exact(Ar.GR (Ar.refl G5)).cells.trans hc5
      rw[<-hG6];have HG6:=D hG6;clear hG6 hl5 hc5;intro v H
      intros
      refine(tD H Y).mono ?_;clear H;rintro e v ⟨bm,bk,rfl,H⟩;obtain⟨c,⟨ap,ac⟩,AV,HJ⟩:=H.out;clear H;obtain⟨vs,ls,E,e1,e2,kE,an,_⟩:=HJ.ab rfl;obtain rfl:AV=vs:=e1;have UG:G6.BN=ls:=e2;obtain⟨hc,hf,hlt⟩:=Dj (show Aq v (MG.Az {g with c:=c,a:=⟨ap,ac⟩,av:=AV} G6.CW) from HJ.st.Ak);have Kb:=D an.all;have Fg:=D an.lt;have Hab:=D UG;have HQ:=D (show CJ v0 ⟨g.mb,c1,⟨Z,0⟩,[]⟩ (GS.enter G3) ([].foldl GS.Bd G6.CW) c ⟨ap,ac⟩ AV (E++(Gf bk (J G6.Ab)::Ge bm g.mb::F)) [(p,#[qD sp sn sc],255)] [] (U V) v from⟨HJ.st,HJ.kf.gJ kE,HJ.kp,HJ.ab,HJ.hb,HJ.al⟩);have hal:J AV<=998000:=by have:=HJ.al;rw[GS.FJ] at this;omega
      clear HJ kE an e2 UG;dsimp only at hc hf hlt;go_wp2;clear hc hf hlt;go_loopw [106] (λi wr=>∃(k:Nat) (c:SG),i= iI k/\k<=J AV/\CJ v0 ⟨g.mb,c1,⟨Z,0⟩,[]⟩ (GS.enter G3) ((ls.take k).foldl GS.Bd G6.CW) c ⟨ap,ac⟩ AV (E++(Gf bk (J G6.Ab)::Ge bm g.mb::F)) [(p,#[qD sp sn sc],255)] [] (U V) wr) (λi _=>J AV-(intOf i).toNat);case atStart=>exact⟨0,_,rfl,Jo _,HQ⟩
      case round=>
       exact maf
def VU (F:List (Nat×Obj)) (cells:Int):Prop:=
 ∀(b:Bj) (sp:Option Addr) (sn sc:Nat) (ws:List Value) (p:Nat) (w:World) (g:MG) (G:GS) (d:Nat),Aq w (g.Az G)->AY w (g.Az G) F->(p,qK #[qD sp sn sc] 255 (0,0))∈F->
  J G.Ab+296+Cf b<=998000->J g.av<=J G.Ab->CK G.Ac->G.block=I->G.cells=cells->(0<=G.Ah/\G.Ah<=(d:Int))->d<3->WF cells b (d+1) V->RQ F cells V (Fx b)->Fx b<=1000->
  Et F (qD sp sn sc) ws->D8 F b ws->Calls prog 142 #[iJ g.mb,iJ p] w (Ad6 (GS.Dg (.atomic b .nil) G) g G w)
theorem Ahm (t:Bj) (G:GS):GS.Dg t G=GS.Dg (tlS t) (GS.Dg (ox t) G):=by
 cases t<;>rfl
theorem Af1 (t:Bj):Cf t=Cf (ox t)+Cf (tlS t):=by
 cases t<;>simp[Cf,ox,tlS]
theorem Ajs (t:Bj):Fx (tlS t)<=Fx t:=by
 cases t<;>simp[Fx,tlS]
theorem AgX {t:Bj} {i:Bool} (h:WF cells t d i):WF cells (ox t) d i/\WF cells (tlS t) d i:=by
 cases t with
 |nil=>exact⟨trivial,trivial⟩
 |set v op a b r=>exact⟨⟨h.1,h.2.1,h.2.2.1,h.2.2.2.1,trivial⟩,h.2.2.2.2⟩
 |get v f s a r=>exact⟨⟨h.1,h.2.1,h.2.2.1,h.2.2.2.1,trivial⟩,h.2.2.2.2⟩
 |put f s a b r=>exact⟨⟨h.1,h.2.1,h.2.2.1,h.2.2.2.1,trivial⟩,h.2.2.2.2⟩
 |out a r=>exact⟨⟨h.1,trivial⟩,h.2⟩
 |atomic b r=>exact⟨⟨h.1,h.2.1,h.2.2.1,trivial⟩,h.2.2.2⟩
 |Ew a b r=>exact⟨⟨h.1,h.2.1,h.2.2.1,trivial⟩,h.2.2.2⟩
 |loop n b r=>exact⟨⟨h.1,h.2.1,h.2.2.1,trivial⟩,h.2.2.2⟩
theorem pZ (F:List (Nat×Obj)) (cells:Int) (hA:VU F cells) (b:Bj) (sp:Option Addr) (sn sc:Nat) (ws:List Value) (p:Nat) (w:World) (g:MG) (G:GS) (d:Nat) (h:Aq w (g.Az G)) (hK:AY w (g.Az G) F) (hF:(p,qK #[qD sp sn sc] 255 (0,0))∈F)
  (hn:J G.Ab+296+Cf b<=998000) (ha:J g.av<=J G.Ab) (hb:CK G.Ac) (ES:G.block=I) (Ns:G.cells=cells) (XO:0<=G.Ah/\G.Ah<=(d:Int)) (hd:d<3) (Vv:WF cells b (d+1) V) (ih:RQ F cells V (Fx b)) (hz:Fx b<=1000)
  (h3:Et F (qD sp sn sc) ws) (h4:D8 F b ws):
  Calls prog 104 #[iJ g.mb,.iface 253 (iJ p)] w (Ad6 (GS.Dg (.atomic b .nil) G) g G w):=by
 have HC:=D (hA b sp sn sc ws p w g G d h hK hF hn ha hb ES Ns XO hd Vv ih hz h3 h4);clear h hK hF hn ha hb ES Ns XO hd Vv ih h3 h4 hA;have ta0:=bE;have ta1:=bF;have ta2:=Tb;have ta3:=Tc;have ta4:=OM;have ta5:=L6;have ta6:=NX;go_enter func104,ntmps104;go_wp2_with fail;refine HC.mono ?_;rintro e w1 ⟨rfl,c,a,av,st,XR⟩;have S:=D st;have Hav:=D XR;clear st XR;go_wp2_with fail
 go_end0
 exact⟨rfl,c,a,av,S,Hav⟩
theorem xw (F:List (Nat×Obj)) (cells:Int) (Cs:0<=cells/\cells<=6) (hA:VU F cells) (BY:Bool) (n:Nat) (hn9:n<=1000) (ihn:∀m,m<n->∀i,RQ F cells i m) (t:Bj) (v:Value) (us:List Value) (d:Nat) (w:World) (g:MG) (G:GS) (Ib:Fx t<=n) (hs:D8 F t (v::us)) (hw:WF cells t d BY) (hd:d<=3)
  (h:Aq w (g.Az G)) (hK:AY w (g.Az G) F) (ES:G.block=BY) (Ns:G.cells=cells) (XO:0<=G.Ah/\G.Ah<=(d:Int)) (hb:CK G.Ac) (hn:J G.Ab+Cf (ox t)<=998000) (ha:J g.av<=J G.Ab):
  Calls prog 104 #[iJ g.mb,v] w (sU BY (GS.Dg (ox t) G) g G w):=by
 cases t with
 |nil=>cases hs
 |set x op a b r=>
  obtain⟨p,q,h1,h2,_⟩:=hs;cases h1;simp only[Cf,ox] at hn;by_cases I7:op.size=0
  .exact AbT BY x op a b F p w g G h hK h2 Y ha hb hw.1 hw.2.2.1 hw.2.2.2.1 I7
  .exact AbS BY x op a b F p w g G h hK h2 Y ha hb hw.1 hw.2.2.1 hw.2.2.2.1 I7
 |get x f s a r=>
  obtain⟨p,q,h1,h2,_⟩:=hs;cases h1;simp only[Cf,ox] at hn;exact Ae2 BY x f s a F p w g G h hK h2 Y ha hb hw.2.2.1 hw.1
 |put f s i a r=>
  obtain⟨p,q,h1,h2,_⟩:=hs;cases h1;simp only[Cf,ox] at hn;exact Ae1 BY f s i a F p w g G h hK h2 Y ha hb hw.2.1 hw.2.2.1
 |out a r=>
  obtain⟨p,q,h1,h2,_⟩:=hs;cases h1;simp only[Cf,ox] at hn;cases BY with
  |false=>exact AbV a F p w g G h hK h2 Y ha hb hw.1 ES
  |true=>exact AbU a F p w g G h hK h2 Y ha hb hw.1 ES
 |atomic b r=>
  obtain⟨p,q,sl,ws,h1,h2,h3,h4,_⟩:=hs;cases h1;simp only[Cf,ox] at hn;simp only[Fx] at Ib;have hi:BY=I:=hw.1;subst hi;obtain⟨sp,sc,rfl⟩:=h3.Mq;exact pZ F cells hA b sp _ sc ws p w g G d h hK h2 Y ha hb ES Ns XO hw.2.1 hw.2.2.1 (ihn _ Y V) Y h3 h4
 |Ew a b r=>
  obtain⟨p,q,sl,ws,h1,h2,h3,h4,_⟩:=hs;cases h1;simp only[Cf,ox] at hn;simp only[Fx] at Ib;obtain⟨sp,sc,rfl⟩:=h3.Mq;exact AhY BY cells a b sp _ sc ws F p w g G h hK h2 Y ha hb hw.1 d Cs ES Ns XO hw.2.1 hw.2.2.1 Y (ihn _ Y BY) h3 h4
 |loop m b r=>
  obtain⟨p,q,sl,ws,h1,h2,h3,h4,_⟩:=hs;cases h1;simp only[Cf,ox] at hn;simp only[Fx] at Ib;obtain⟨sp,sc,rfl⟩:=h3.Mq;exact AbW BY cells m b sp _ sc ws F p w g G h hK h2 Y ha hb d Cs ES Ns XO hw.2.1 hw.2.2.1 Y (ihn _ Y BY) h3 h4
structure Cur (BY:Bool) (F:List (Nat×Obj)) (w:World) (g:MG) (G G':GS) (c a:SG) (av:List Value) (wr:World):Prop where
 st:Af w (g.Az G) wr (MG.Az {g with c:=c,a:=a,av:=av} G')
 AK:AY wr (MG.Az {g with c:=c,a:=a,av:=av} G') F
 len:J av<=J G'.Ab
 ab:BY=V->∃vs ls E,av=g.av++vs/\G'.BN=G.BN++ls/\AY wr (MG.Az {g with c:=c,a:=a,av:=av} G') E/\VV E g.mb (J G'.Ab) vs ls/\J vs+J G.Ab<=J G'.Ab
theorem Cur.start (h:Aq w (g.Az G)) (hK:AY w (g.Az G) F) (ha:J g.av<=J G.Ab):Cur BY F w g G G g.c g.a g.av w:=
 ⟨Af.refl h,hK,ha,λ_=>⟨[],[],[],(Jr _).symm,(Jr _).symm,AY.nil _ _,VV.nil _ _ _,EQ⟩⟩
theorem Cur.next {G1 G2:GS} {c a:SG} {av:List Value} {wr:World} {e:Ending} (h:Cur BY F w g G G1 c a av wr) (k:sU BY G2 {g with c:=c,a:=a,av:=av} G1 wr e w') (hl:J G1.Ab<=J G2.Ab):
  e= qJ (qG #[])/\∃c' a' av',Cur BY F w g G G2 c' a' av' w':=by
 cases BY with
 |false=>
  obtain⟨rfl,c',a',av',st,XR⟩:=k;exact⟨rfl,c',a',av',⟨h.st.trans st,h.AK.step st,XR,λh'=>by cases h'⟩⟩
 |true=>
  obtain⟨rfl,c',a',vs',ls',E',UG,st,kn,an,hv⟩:=k;obtain⟨vs,ls,E,rfl,ab0,k0,an0,hv0⟩:=h.ab rfl;dsimp only at st kn an;refine⟨rfl,c',a',(g.av++vs)++vs',⟨h.st.trans st,h.AK.step st,?_,λ_=>?_⟩⟩
  .have:=h.len;rw[GT] at this⊢;rw[GT];omega
  .exact⟨vs++vs',ls++ls',E'++E,Jj _ _ _,by rw[UG,ab0,Jj],(k0.step st).gJ kn,an0.FY an hl,by rw[GT];omega⟩
theorem Cur.stop {BY:Bool} {F:List (Nat×Obj)} {w:World} {g:MG} {G G':GS} {c a:SG} {av:List Value} {wr:World} (h:Cur BY F w g G G' c a av wr):sU BY G' g G w (qJ (qG #[])) wr:=by
 cases BY with
 |false=>exact⟨rfl,c,a,av,h.st,h.len⟩
 |true=>
  obtain⟨vs,ls,E,rfl,ab0,k0,an0,hv0⟩:=h.ab rfl;exact⟨rfl,c,a,vs,ls,E,ab0,h.st,k0,an0,hv0⟩
structure Left (BY:Bool) (cells:Int) (F:List (Nat×Obj)) (t:Bj) (d:Nat) (G:GS) (vs:List Value) (n k:Nat) (t':Bj) (G':GS):Prop where
 eq:GS.Dg t G=GS.Dg t' G'
 st:D8 F t' (vs.drop k)
 wf:WF cells t' d BY
 same:Ar G' G
 bud:J G'.Ab+Cf t'<=998000
 sz:Fx t'<=n
 lo:J G.Ab<=J G'.Ab
theorem pY (F:List (Nat×Obj)) (cells:Int) (Cs:0<=cells/\cells<=6) (hA:VU F cells) (n:Nat) (hn9:n<=1000):∀BY,RQ F cells BY n:=by
 induction n using Nat.strongRecOn with
 |_ n ih=>
 intro BY t sl vs d w g G Ib hr hs hw hd h hK ES Ns XO hb hn ha;have hlen:J vs<=1000:=by have:=hs.len;omega
 have hM:=λt' v us w' g' G'=>xw F cells Cs hA BY n hn9 (λm hm i=>ih m hm Y i) t' v us d w' g' G'
 obtain⟨p,c,rfl⟩:=hr.Mq;have HC:=D (Cur.start (BY:=BY) h hK ha);have HL:=D (show Left BY cells F t d G vs n 0 t G from⟨rfl,hs,hw,Ar.refl _,hn,Ib,Jf _⟩);have Hr:=D hr;have HM:=D hM;have Hb:=D hb;have Hde:=D XO;have Hbl:=D ES;have Hcs:=D Ns;have Hd:=D hd;have oa:=D Cs;clear hr hs hw hn Ib h hK ES Ns XO hb ha ih hA hM hd Cs;go_enter func80,ntmps80;go_wp2;go_loopw [8] (λi wr=>∃(k:Nat) (t':Bj) (G':GS) (c a:SG) (av:List Value),i= iI k/\k<=J vs/\Left BY cells F t d G vs n k t' G'/\Cur BY F w g G G' c a av wr) (λi _=>J vs-(intOf i).toNat);case atStart=>exact⟨0,t,G,_,_,_,rfl,Jo _,HL,HC⟩
 case round=>
  clear HL HC;obtain⟨k,t',G',c1,a1,kj,rfl,hk,hL,hC⟩:=hrel;have HL:=D hL;have HC:=D hC;clear hL hC;cases hd:vs.drop k with
  |nil=>
   have Lo:¬k<(J vs:Int):=by have:=RK.1 hd;omega
   have ht:t'=.nil:=by
    have Ay:=HL.st;rw[hd] at Ay;exact man
   have He:=D (show GS.Dg t G=G' by rw[HL.out.eq,ht];rfl);clear ht hd;go_wp2
   go_end0
   rw[He.out];exact HC.stop
  |cons v us=>
   obtain⟨_,VX,b,hp,KT⟩:=Hr.AN HC.AK hd;subst hp;have Lo:k<(J vs:Int):=Y
   have eE:us=vs.drop (k+1):=by rw[<-i7,hd];rfl
   have Ay:=HL.st;rw[hd] at Ay;have eG:=CK.eq Hb HL.same.Ac;have uI:=Af1 t';have AiF:=HL.bud;have XO:=Hde.out;obtain⟨i1,i2,i3⟩:=Sa cells (ox t') oa d BY G' (AgX HL.wf).1 (HL.same.block.trans Hbl) (HL.same.cells.trans Hcs);have HS:=D (HM t' v us wr {g with c:=c1,a:=a1,av:=kj} G' HL.sz Ay HL.wf Hd HC.st.Ak HC.AK (HL.same.block.trans Hbl) (HL.same.cells.trans Hcs) (by rw[HL.out.same.Ah];exact XO) eG Y HC.len);have HN:=D (show Left BY cells F t d G vs n (k+1) (tlS t') (GS.Dg (ox t') G') from
     ⟨HL.eq.trans (Ahm t' G'),eE▸Ay.hd.2,(AgX HL.wf).2,i1.trans HL.same,Y,Qb (Ajs t') HL.sz,Qb HL.lo i2⟩)
   have Hi:=D i2;have inc:=gM k Y;clear hd eE Ay eG uI AiF XO i1 i2 i3;go_wp2_with fail;refine HS.mono ?_;intro e w1 he;obtain⟨rfl,c2,a2,av2,hC2⟩:=HC.next he Hi.out;have HC2:=D hC2;clear hC2 he HC HL HS;go_wp2_with fail;go_roundw;case rel=>(try rw[inc]);exact⟨k+1,tlS t',_,_,_,_,rfl,Y,HN,HC2⟩
   case measure=>(try rw[inc]);simp[intOf];omega
theorem Afr:(prog.info? 158).map (λi=>(i.zero,i.size,i.bytes))=U (U (qD Z 0 0),1,24):=Fd
def Ag9 (cells:Int) (ts:List Bj) (w:World) (e:Ending) (w':World):Prop:=
 ∃op oc cs,e= qJ (qD op (J ts) oc)/\J cs=J ts/\Af w [] w' (KF op (J ts) oc cs (CG cells ts (J ts)))
theorem zn (F:List (Nat×Obj)) (cells:Int) (Cs:0<=cells/\cells<=6) (hA:VU F cells) (ts:List Bj) (pb:Nat) (tp:Option Addr) (tc:Nat) (tvs:List Value) (w:World) (hK:AY w [] F)
  (hF:(pb,qK #[qD tp (J ts) tc,iI cells] 146 (0,0))∈F) (hr:Et F (qD tp (J ts) tc) tvs) (hT:HY F ts tvs) (h3:J ts<=3) (hw:∀t,t∈ts->WF cells t 0 I/\Cf t<=5000/\Fx t<=100):
  Calls prog 52 #[iJ pb] w (Ag9 cells ts w):=by
 obtain⟨j0,hj,LP,KZ,MH⟩:=info_parts Afr;have kc:=hK.cell hF;have HK:=D hK;have HF:=D hF;have Hr:=D hr;have HT:=D hT;have Hw:=D hw;have HM:=D (pY F cells Cs hA 100 Y I);have Am6:=Cs;clear hK hF hr hT hw hA Cs;go_enter func52,ntmps52;go_wp2;clear kc;go_loopw [12,3] (λi o wr=>∃(k:Nat) (op:Option Addr) (oc:Nat) (cs:List SG),i= iI k/\o= qD op k oc/\k<=J ts/\J cs=k/\Af w [] wr (KF op k oc cs (CG cells ts k))) (λi _ _=>J ts-(intOf i).toNat);case atStart=>
  exact⟨0,Z,0,[],rfl,rfl,Jo _,rfl,Zj (Aq.nil w) (ownsRow_nil _ _ _ _) rfl⟩
 case round=>
  obtain⟨k,op,oc,cs,rfl,rfl,hk,Ns,st⟩:=hrel;have Hcs:=D Ns;clear Ns;by_cases hlt:(k:Int)<(J ts:Int)
  .obtain⟨sl,ws,us,hd,hr1,Ti⟩:=HT.AN k Y;have K:=D (HK.step st);obtain⟨hzz,VX,tb,htp,KT⟩:=Hr.AN K hd;clear hzz;subst htp;have kc:=K.cell HF.out;have NJ:ts.getD k .nil∈ts:=by rw[Ja,Jb Y];exact JO _
   have Aid:=Hw.out _ NJ;have AiB:=iu cells ts k;obtain⟨t,hT⟩:∃t,t=ts.getD k .nil:=⟨_,rfl⟩;rw[<-hT] at Ti Aid AiB;have hwk:=D Aid;have AnH:=D AiB;clear Aid AiB;have S:=D st;have Hr1:=D hr1;have Hs1:=D Ti;have Hm1:=D (IntWalk.wrap64_in (64*k) Y);have X8:=D (IntWalk.wrap64_in (32+64*k) Y);clear st hr1 Ti hd NJ hT;have hk5:k<=100:=Y
   have inc:=gM k Y;have Aiw:k+1<=maxLen:=by unfold maxLen;omega
   have Aiv:(k+1)*24<=140737488355328:=Y
   have hsi:=Sa cells t Am6 0 I (GS.start k cells) hwk.1 rfl rfl;have uK:CK (GS.start k cells).Ac:=by show 0<=32+64*(k:Int)/\32+64*(k:Int)<=100000;omega
   have LA:=hwk.2.1;have hl5:(GS.Dg t (GS.start k cells)).Ab.length<=5000:=by have:=hsi.2.2;have e0:(GS.start k cells).Ab.length=0:=rfl;omega
   have AkY:=KV cells ts k;have AlQ:=D uK;have zZ:=D LA;have Hl5:=D hl5;have AnI:=D AkY;clear hsi uK LA hl5 AkY;clear Hm1 X8;go_wp2_with fail
   skip
   have a1:=Af.Mg S.Ak (qK #[qD Z 0 0,iI (32+64*k),iI cells,qF I,qD Z 0 0,iI 0] 169);have a2:=a1.trans (Af.sT (A:=[_]) (B:=KF op k oc cs (CG cells ts k)) (o:=DS ⟨Z,0⟩ []) a1.Ak (ownsRow_nil _ _ _ _) rfl);have a3:Af wr (KF op k oc cs (CG cells ts k)) _ (MG.Az ⟨wr.heap.size,⟨Z,0⟩,⟨Z,0⟩,[]⟩ (GS.start k cells)++KF op k oc cs (CG cells ts k)):=
    a2.trans (Af.sT (A:=[_,_]) a2.Ak (ownsRow_nil _ _ _ _) rfl)
   replace S:=D (S.trans a3);replace K:=D (K.step a3);clear a1 a2 a3;refine(HM t sl ws 0 _ ⟨wr.heap.size,⟨Z,0⟩,⟨Z,0⟩,[]⟩ (GS.start k cells) hwk.2.2 Hr1 Hs1 hwk.1 Y S.Ak.left K.left rfl rfl ⟨by show(0:Int)<=0;omega,by show(0:Int)<=((0:Nat):Int);omega⟩ AlQ (by have:=zZ.out;show 0+_<=_;omega) (Jf _)).mono ?_;rintro e w1 ⟨rfl,c1,a1,kj,st1,_⟩;dsimp only at st1;replace st1:=Af.frame S.Ak st1;replace S:=D (S.trans st1);replace K:=D (K.step st1);clear st1;go_wp2_with fail;refine(Mi .halt _ ⟨wr.heap.size,c1,a1,kj⟩ (GS.Dg t (GS.start k cells)) S.Ak.left (by have:=Hl5.out;omega)).mono ?_;rintro e w2 ⟨rfl,c2,st2⟩;dsimp only at st2;replace st2:=Af.frame S.Ak st2;replace S:=D (S.trans st2);replace K:=D (K.step st2);clear st2;have bz:=(Dj S.Ak.left).c 0;go_wp2_with (first|(at_builtin;refine A6 24 _ _ _ j0 _ #[.slice c2.p (GS.AP (GS.Dg t (GS.start k cells)) .halt).Ab.length c2.c] _ S.Ak (k:=3) rfl Eq Eq underlying121 hj LP KZ MH rfl m8 Eq Eq rfl (by simp[Value.oneCell']) Aiw Aiv ?_;intro g6 AI w6 Ay _;rw[NF] at Ay;have FZ:=D Ay;clear Ay bz));go_roundw;case rel=>
    obtain⟨x1,hx1⟩:∃x,x=((GS.Dg t (GS.start k cells)).AP .halt).Ab:=⟨_,rfl⟩;have hco:Gi cells k t=x1:=by rw[hx1];rfl
    have hlen:J cs=(CG cells ts k).length:=by rw[Hcs.out,AnI.out]
    have s1:Af w [] w6 ([.Ao wr.heap.size #[qD c2.p ((GS.Dg t (GS.start k cells)).AP .halt).Ab.length c2.c,iI ((GS.Dg t (GS.start k cells)).AP .halt).Ac,iI ((GS.Dg t (GS.start k cells)).AP .halt).cells,qF ((GS.Dg t (GS.start k cells)).AP .halt).block,qD a1.p (J kj) a1.c,iI ((GS.Dg t (GS.start k cells)).AP .halt).Ah] 169,
        DS c2 ((GS.Dg t (GS.start k cells)).AP .halt).Ab,.row (qD a1.p (J kj) a1.c) 1 1 (J kj) kj]++
        (.row (qD (U ⟨g6,0,Z⟩) (k+1) AI) 158 1 (k+1) (A4 cs (CG cells ts k)++[qD c2.p ((GS.Dg t (GS.start k cells)).AP .halt).Ab.length c2.c])::List.zipWith DS cs (CG cells ts k))):=S.trans FZ.out
    rw[<-hx1] at s1;have p1:=Af.Kl s1.Ak (AjI _ _ _ _ _);have s2:=s1.trans (p1.trans (Af.AK p1.Ak));refine⟨k+1,U ⟨g6,0,Z⟩,AI,cs++[c2],rfl,rfl,Y,by rw[GT,Hcs.out];rfl,?_⟩;have e:KF (U ⟨g6,0,Z⟩) (k+1) AI (cs++[c2]) (CG cells ts (k+1))=.row (qD (U ⟨g6,0,Z⟩) (k+1) AI) 158 1 (k+1) (A4 cs (CG cells ts k)++[qD c2.p (J x1) c2.c])::(List.zipWith DS cs (CG cells ts k)++[DS c2 x1]):=by
     unfold KF;rw[AnH.out,hco,Bm _ _ _ _ hlen,Qz hlen];rfl
    rw[e];exact s2
   case measure=>simp[intOf];omega
  .have Pz:k=J ts:=Y
   subst Pz;have FZ:=D st;clear st;go_wp2_with fail;go_ret;exact⟨op,oc,cs,rfl,Hcs,FZ⟩
theorem Age (F:List (Nat×Obj)) (cells:Int) (Cs:0<=cells/\cells<=6):VU F cells:=by
 intro b sp sn sc ws p w g G d h hK hF hn ha hb ES Ns XO hd Vv ih hz h3 h4;exact lS cells b sp sn sc ws F p w g G h hK hF hn ha hb d Cs ES Ns XO hd Vv ih h3 hz h4
theorem AdD (F:List (Nat×Obj)) (cells:Int) (Cs:0<=cells/\cells<=6) (ts:List Bj) (pb:Nat) (tp:Option Addr) (tc:Nat) (tvs:List Value) (w:World) (hK:AY w [] F)
  (hF:(pb,qK #[qD tp (J ts) tc,iI cells] 146 (0,0))∈F) (hr:Et F (qD tp (J ts) tc) tvs) (hT:HY F ts tvs) (h3:J ts<=3) (hw:∀t,t∈ts->WF cells t 0 I/\Cf t<=5000/\Fx t<=100):
  Calls prog 52 #[iJ pb] w (Ag9 cells ts w):=zn F cells Cs (Age F cells Cs) ts pb tp tc tvs w hK hF hr hT h3 hw
theorem uf (h:OG k):i64 k:=by unfold OG at h;unfold i64;omega
theorem AbD (h:D7 a):i64 a.v:=by
 unfold D7 at h;split at h
 .exact uf h
 .exact h
theorem LF (l:By):(AR l).size=J l:=by simp[AR,ByteArray.size]
theorem Ye {v:Int} (h:i64 v):(AR (Lib.itoa v)).size<=21:=by rw[LF];exact Lib.itoa_length_le v h.1 h.2
theorem Ajv {v:Int} (h:i64 v):(AR (Lib.itoa v)).size<=1000:=by have:=Ye h;omega
theorem Agy (h:D7 a):(AR (Kt a)).size<=1000:=by rw[LF];have:=iG h;omega
theorem Ajt (h:OG k):(AR (Lu k)).size<=1000:=by rw[LF,P0 h];omega
theorem AdN (a b:By):AR a++AR b=AR (a++b):=by
 apply Pa;rw[Di];simp[bs,AR]
theorem AeI (k:Int) (hk:i64 k) (w:World) (h:V0 w):Calls prog 260 #[iI k] w (Kv (qE (AR (Lu k))) w):=by
 have H:=D h;have hk:=D hk;clear h;go_enter func260,ntmps260;go_wp2_with fail;refine(Wq k hk _ H).mono ?_;rintro e w1 ⟨rfl,hm⟩;have hz:=Ye hk.out;go_wp2;go_ret;exact⟨JM (λz=>qJ (qE z)) (AdN [114] (Lib.itoa k)),hm⟩
theorem nR (a:Ag) (ha:D7 a) (w:World) (h:V0 w):Calls prog 251 #[qH #[qF a.Dd,iI a.v]] w (Kv (qE (AR (Kt a))) w):=by
 obtain⟨Dd,v⟩:=a;have hv:=D (AbD ha);have H:=D h;clear h ha;cases Dd with
 |false=>
  go_enter func251,ntmps251;go_wp2_with fail;refine(Yu v hv _ (H.quiet ((Aw.refl _ _).alloc _))).mono ?_;rintro e w1 ⟨rfl,hm⟩;have kc:=(IX hm).cell (GE.2 rfl);have kl:=(IX hm).lt (GE.2 rfl);have hz:=Ye hv.out;go_wp2;go_ret;exact⟨rfl,((Aw.refl _ _).alloc _).Aj hm⟩
 |true=>
  go_enter func251,ntmps251;go_wp2_with fail;refine(Yu v hv _ (H.quiet ((Aw.refl _ _).alloc _))).mono ?_;rintro e w1 ⟨rfl,hm⟩;have kc:=(IX hm).cell (GE.2 rfl);have kl:=(IX hm).lt (GE.2 rfl);have hz:=Ye hv.out;go_wp2;go_ret;exact⟨JM (λz=>qJ (qE z)) (AdN [114] (Lib.itoa v)),((Aw.refl _ _).alloc _).Aj hm⟩
theorem yn (l:List By) (a:By):DB (l++[a])=if l=[] then a else DB l++32::a:=by
 induction l with
 |nil=>rfl
 |cons x l ih=>
  cases l with
  |nil=>rfl
  |cons y l=>
   rw[In EQ] at ih⊢;show x++32::DB (y::l++[a])=(x++32::DB (y::l))++32::a;rw[ih];simp
theorem Aci (l:List By) (h:∀a,a∈l->J a<=1000):(DB l).length<=J l*1001:=by
 induction l with
 |nil=>simp[DB]
 |cons x l ih=>
  cases l with
  |nil=>have:=h x EQ;simp[DB];omega
  |cons y l=>
   have h1:=h x EQ;have h2:=ih λa ha=>h a (Id _ ha)
   simp only[DB,GT,Jg] at h2⊢;omega
theorem yo (l:List ByteArray) (k:Nat) (hl:J l<=1000) (h:∀a,a∈l->a.size<=1000):(AR (DB ((l.map bs).take k))).size<=1001000:=by
 rw[LF];have:=Aci ((l.map bs).take k) (by
   intro a ha;obtain⟨x,hx,rfl⟩:=Qe.1 (List.mem_of_mem_take ha);have:=h x hx;exact this)
 have h2:((l.map bs).take k).length<=1000:=by simp;omega
 omega
theorem cP {α:Type} (l:List α) (k:Nat) (hk:k<J l):l.take (k+1)=l.take k++[l[k]]:=by
 rw[JN hk]
theorem Acw (k:Nat) (hk:k<=2000):wrap64 ((k:Int)+1)=k+1:=IntWalk.wrap64_in _ Y
theorem vS (l:List ByteArray) (w:World) (ok:Nat->Prop) (v:Value) (hs:Sl w ok v (Bp l)) (hl:J l<=1000) (hw:∀a,a∈l->a.size<=1000):
  Calls prog 253 #[v] w (Kv (qE (AR (DB (l.map bs)))) w):=by
 obtain⟨p,cap,rfl,_,_⟩:=hs.Mq;have hlen:(Bp l).length=J l:=Cj l;rw[hlen];have HS:=D hs;have hj:=D (λk=>yo l k hl hw);have hw:=D hw;clear hs;go_enter func253,ntmps253;go_wp2;go_loopw [2,7] (λs i wr=>∃k:Nat,i= iI k/\k<=J l/\s= qE (AR (DB ((l.map bs).take k)))/\wr=w) (λ_ i _=>J l-(intOf i).toNat);case atStart=>exact⟨0,rfl,Jo _,rfl,rfl⟩
 case round=>
  obtain⟨k,rfl,hk,rfl,rfl⟩:=hrel;by_cases hlt:(k:Int)<(J l:Int)
  .have Cy:k<J l:=Y
   have bw:k<=2000:=Y
   obtain⟨_,⟨_,h2⟩|⟨b,off,cap',hv,h2,h3,h4,h5,h6⟩⟩:=HS.out
   .have:J l=0:=by rw[<-hlen,h2];rfl
    omega
   .cases hv;rw[hlen] at h2;have hc:wr.cell? ⟨b,off+k,Z⟩=U (qE l[k]):=by
     have:=h6 k (by rw[hlen];exact Cy);rw[this];simp[Bp]
    have e:DB ((l.map bs).take (k+1))=DB ((l.map bs).take k++[bs l[k]]):=by rw[cP (l.map bs) k (by simpa using Cy)];simp
    rw[yn] at e;obtain⟨x,hx⟩:∃x,x=l[k]:=⟨_,rfl⟩;have hxs:=hw.out l[k] (JO _);have hjs:=hj.out k;rw[<-hx] at hc e hxs;clear hx h6;have E:=D e;clear e;have VX:=JK k;unfold maxLen at h3;by_cases h0:k=0
    .subst h0;simp only[J4] at hc;clear hjs;have e0:AR (DB ((l.map bs).take 0))=⟨#[]⟩:=rfl;rw[e0];have E2:=E.out;rw[Jd EQ] at E2;replace E:=D E2;clear E2 e0;have inc:=Acw 0 Y;go_wp2;go_roundw;case rel=>exact⟨1,rfl,Cy,by rw[E.out,Yb];exact JM qE (by apply Pa;simp[bs]),trivial⟩
     case measure=>simp[intOf];omega
    .have h01:(0:Int)<(k:Int):=Y
     have E2:=E.out;rw[In (λe0=>by have:=JM List.length e0;rw[Qv,JY] at this;simp only[Jx] at this;omega)] at E2;replace E:=D E2;clear E2;have inc:=Acw k bw;go_wp2;go_roundw;case rel=>
      refine⟨k+1,rfl,Cy,?_,trivial⟩;rw[E.out];refine JM qE ?_;apply Pa;simp[bs,AR]
     case measure=>simp[intOf];omega
  .have Lo:k=J l:=Y
   subst Lo;go_wp2;go_ret;have e9:(l.map bs).take (J l)=l.map bs:=JV EQ;refine⟨?_,Aw.refl _ _⟩;show qJ (qE (AR (DB ((l.map bs).take (J l)))))=_;rw[e9]
theorem Aju (ha:D7 a) (hk:i64 k):(AR (DB [Kt a,Lib.itoa k])).size<=1000:=by
 rw[LF];have h1:=Agy ha;have h2:=Ajv hk;rw[LF] at h1 h2;have h3:=iG ha;have h4:=ZM hk;simp[DB];omega
theorem Ah8 {v:Int} (h:i64 v): -9223372036854775808<=v/\v<=9223372036854775807:=h
theorem EU (l:List ByteArray) (n:Nat) (w:World) (hn:J l=n:=by rfl) (hb:n<=1000:=by decide) (hw:∀a,a∈l->a.size<=1000:=by
    simp only[Jl,Qr,or_false,forall_eq_or_imp,forall_eq]
    repeat' with_reducible first|exact Agy (by assumption)|exact Ajt (by assumption)|exact Ajv (by assumption)|exact Aju (by assumption) (by assumption)|assumption|refine⟨?_,?_⟩
    all_goals decide):
  Calls prog 253 #[qD (U ⟨w.heap.size,0,Z⟩) n n] (w.alloc (qK (Bp l).toArray 9)) (Kv (qE (AR (DB (l.map bs)))) (w.alloc (qK (Bp l).toArray 9))):=
 vS l _ (λ_=>True) _ (Sl.new (Bp l) 9 n ((Cj l).trans hn) hb _ trivial) (hn▸hb) hw
theorem sgo (h:p:=by
  have hm:∀{c:Obj},Aw [] (w.alloc c) (w.alloc c).drew:=(Aw.refl _ _).drew;repeat
    refine Dr ?_;intro K hK
    with_reducible first
      |refine(AeI _ (uf (by assumption)) _ (H.out.quiet (((Aw.refl _ _).alloc _).Aj hm))).mono ?_
      |refine(nR _ (by assumption) _ (H.out.quiet (((Aw.refl _ _).alloc _).Aj hm))).mono ?_
      |refine(Yu _ (Ah8 (by assumption)) _ (H.out.quiet (((Aw.refl _ _).alloc _).Aj hm))).mono ?_
      |refine(Wq _ (Ah8 (by assumption)) _ (H.out.quiet (((Aw.refl _ _).alloc _).Aj hm))).mono ?_
      |refine(pL _ _ (by assumption) (by assumption) _ (H.out.quiet (((Aw.refl _ _).alloc _).Aj hm))).mono ?_
    rintro e w1 ⟨rfl,Dk⟩;replace hm:=hm.Aj Dk;clear Dk;refine hK _ _ (λ_=>(IX hm).cell (GE.2 rfl)) ?_;clear hK
  refine Dr ?_;intro K hK;refine hK _ _ (λ_=>(IX (hm.alloc _)).cell (GE.2 rfl)) ?_;clear hK;refine Dr ?_;intro K hK;refine(hW _).mono ?_;rintro e wz ⟨rfl,hmz⟩;replace hm:=(hm.alloc _).Aj hmz;clear hmz;refine hK _ _ (λ_=>(IX hm).cell (GE.2 rfl)) ?_;clear hK;refine AJ rfl (λK hK=>?_);go_simp;refine hK _ _ (λh=>Jk rfl h) ?_;clear hK;simp only[BO];go_wp2;go_ret;refine⟨?_,((Aw.refl _ _).alloc _).Aj hm⟩;refine JM (λz=>qJ (qE (AR z))) ?_;simp[DB,GI.Ae,GI.ws,Di,bs]):p:=h
theorem Ahr (h:p:=by
  go_wp2_with fail
  with_reducible first
    |refine(nR _ (by assumption) _ (H.out.quiet ((Aw.refl _ _).alloc _))).mono ?_
    |refine(Wq _ (Ah8 (by assumption)) _ (H.out.quiet ((Aw.refl _ _).alloc _))).mono ?_
  rintro e w1 ⟨rfl,hm⟩;have kc:=(IX hm).cell (GE.2 rfl);have kl:=(IX hm).lt (GE.2 rfl);go_wp2_with fail;refine(hW _).mono ?_;rintro e wz ⟨rfl,hmz⟩;replace hm:=(hm.alloc _).Aj hmz;clear hmz kc kl;go_wp2;go_ret;refine⟨?_,((Aw.refl _ _).alloc _).Aj hm⟩;refine JM (λz=>qJ (qE (AR z))) ?_;simp[DB,GI.Ae,GI.ws,Di,bs]):p:=h
theorem pL (a:Ag) (k:Int) (ha:D7 a) (hk:i64 k) (w:World) (h:V0 w):Calls prog 252 #[qH #[qF a.Dd,iI a.v,iI k]] w (Kv (qE (AR (DB [Kt a,Lib.itoa k]))) w):=by
 have H:=D h;have hW:=λv=>EU [AR (Kt a),AR (Lib.itoa k)] 2 v
 clear h;go_enter func252,ntmps252;go_upto_region 1 with fail
 refine Cg (l:=[(0,V),(1,V),(3,V),(4,V),(2,I),(5,I),(6,I),(7,I),(8,I)]) (λW=>∀i:Nat,W.cell? ⟨w.heap.size,i,Z⟩=(#[qF a.Dd,iI a.v,iI k]:Array Value)[i]?) 8 ((IX (Aw.refl [] _).drew).cell (GE.2 rfl)) ?_;exact sgo
theorem AaQ (d:Int) (a:Ag) (hd:OG d) (ha:D7 a) (w:World) (h:V0 w):Calls prog 274 #[qH #[iI d,qF a.Dd,iI a.v]] w (Kv (qE (AR (GI.Ae (.Zv d a)))) w):=by
 have H:=D h;have hW:=λv=>EU [⟨#[109,111,118]⟩,AR (Lu d),AR (Kt a)] 3 v
 clear h;go_enter func274,ntmps274;go_upto_region 1 with fail
 refine Cg (l:=[(0,V),(1,V),(3,V),(4,V),(2,I),(5,I),(6,I),(7,I),(8,I)]) (λW=>∀i:Nat,W.cell? ⟨w.heap.size,i,Z⟩=(#[iI d,qF a.Dd,iI a.v]:Array Value)[i]?) 8 ((IX (Aw.refl [] _).drew).cell (GE.2 rfl)) ?_;exact sgo
theorem Aex (n:ByteArray) (d:Int) (a b:Ag) (hn:n.size<=1000) (hd:OG d) (ha:D7 a) (hb:D7 b) (w:World) (h:V0 w):Calls prog 259 #[qH #[qE n,iI d,qF a.Dd,iI a.v,qF b.Dd,iI b.v]] w (Kv (qE (AR (GI.Ae (.op n d a b)))) w):=by
 have H:=D h;have hW:=λv=>EU [n,AR (Lu d),AR (Kt a),AR (Kt b)] 4 v
 clear h;go_enter func259,ntmps259;go_upto_region 1 with fail
 refine Cg (l:=[(0,V),(1,V),(2,V),(3,V),(5,V),(6,V),(8,V),(9,V),(4,I),(7,I),(10,I),(11,I),(12,I),(13,I)]) (λW=>∀i:Nat,W.cell? ⟨w.heap.size,i,Z⟩=(#[qE n,iI d,qF a.Dd,iI a.v,qF b.Dd,iI b.v]:Array Value)[i]?) 13 ((IX (Aw.refl [] _).drew).cell (GE.2 rfl)) ?_;exact sgo
theorem wE (d:Int) (a:Ag) (k:Int) (hd:OG d) (ha:D7 a) (hk:i64 k) (w:World) (h:V0 w):Calls prog 266 #[qH #[iI d,qF a.Dd,iI a.v,iI k]] w (Kv (qE (AR (GI.Ae (.load d a k)))) w):=by
 have H:=D h;have hW:=λv=>EU [⟨#[108,111,97,100]⟩,AR (Lu d),AR (DB [Kt a,Lib.itoa k])] 3 v
 clear h;go_enter func266,ntmps266;go_upto_region 1 with fail
 refine Cg (l:=[(0,V),(1,V),(3,V),(4,V),(2,I),(5,I),(6,I),(7,I),(8,I)]) (λW=>∀i:Nat,W.cell? ⟨w.heap.size,i,Z⟩=(#[iI d,qF a.Dd,iI a.v,iI k]:Array Value)[i]?) 8 ((IX (Aw.refl [] _).drew).cell (GE.2 rfl)) ?_;exact sgo
theorem o8 (a:Ag) (k:Int) (b:Ag) (ha:D7 a) (hk:i64 k) (hb:D7 b) (w:World) (h:V0 w):Calls prog 262 #[qH #[qF a.Dd,iI a.v,iI k,qF b.Dd,iI b.v]] w (Kv (qE (AR (GI.Ae (.store a k b)))) w):=by
 have H:=D h;have hW:=λv=>EU [⟨#[115,116,111,114,101]⟩,AR (DB [Kt a,Lib.itoa k]),AR (Kt b)] 3 v
 clear h;go_enter func262,ntmps262;go_upto_region 1 with fail
 refine Cg (l:=[(0,V),(1,V),(3,V),(4,V),(2,I),(5,I),(6,I),(7,I),(8,I)]) (λW=>∀i:Nat,W.cell? ⟨w.heap.size,i,Z⟩=(#[qF a.Dd,iI a.v,iI k,qF b.Dd,iI b.v]:Array Value)[i]?) 8 ((IX (Aw.refl [] _).drew).cell (GE.2 rfl)) ?_;exact sgo
theorem Aa4 (d:Int) (a:Ag) (k:Int) (b c:Ag) (hd:OG d) (ha:D7 a) (hk:i64 k) (hb:D7 b) (hc:D7 c) (w:World) (h:V0 w):Calls prog 270 #[qH #[iI d,qF a.Dd,iI a.v,iI k,qF b.Dd,iI b.v,qF c.Dd,iI c.v]] w (Kv (qE (AR (GI.Ae (.La d a k b c)))) w):=by
 have H:=D h;have hW:=λv=>EU [⟨#[99,97,115]⟩,AR (Lu d),AR (DB [Kt a,Lib.itoa k]),AR (Kt b),AR (Kt c)] 5 v
 clear h;go_enter func270,ntmps270;go_upto_region 1 with fail
 refine Cg (l:=[(0,V),(1,V),(3,V),(4,V),(6,V),(7,V),(9,V),(10,V),(2,I),(5,I),(8,I),(11,I),(12,I),(13,I),(14,I)]) (λW=>∀i:Nat,W.cell? ⟨w.heap.size,i,Z⟩=(#[iI d,qF a.Dd,iI a.v,iI k,qF b.Dd,iI b.v,qF c.Dd,iI c.v]:Array Value)[i]?) 14 ((IX (Aw.refl [] _).drew).cell (GE.2 rfl)) ?_;exact sgo
theorem wu (d:Int) (a:Ag) (k:Int) (b:Ag) (hd:OG d) (ha:D7 a) (hk:i64 k) (hb:D7 b) (w:World) (h:V0 w):Calls prog 272 #[qH #[iI d,qF a.Dd,iI a.v,iI k,qF b.Dd,iI b.v]] w (Kv (qE (AR (GI.Ae (.El d a k b)))) w):=by
 have H:=D h;have hW:=λv=>EU [⟨#[120,97,100,100]⟩,AR (Lu d),AR (DB [Kt a,Lib.itoa k]),AR (Kt b)] 4 v
 clear h;go_enter func272,ntmps272;go_upto_region 1 with fail
 refine Cg (l:=[(0,V),(1,V),(3,V),(4,V),(6,V),(7,V),(2,I),(5,I),(8,I),(9,I),(10,I),(11,I)]) (λW=>∀i:Nat,W.cell? ⟨w.heap.size,i,Z⟩=(#[iI d,qF a.Dd,iI a.v,iI k,qF b.Dd,iI b.v]:Array Value)[i]?) 11 ((IX (Aw.refl [] _).drew).cell (GE.2 rfl)) ?_;exact sgo
theorem AaP (a:Ag) (ha:D7 a) (w:World) (h:V0 w):Calls prog 255 #[qH #[qF a.Dd,iI a.v]] w (Kv (qE (AR (GI.Ae (.out a)))) w):=by
 have H:=D h;have hW:=λv=>EU [⟨#[111,117,116]⟩,AR (Kt a)] 2 v
 clear h;go_enter func255,ntmps255;exact Ahr
theorem AaR (k:Int) (hk:i64 k) (w:World) (h:V0 w):Calls prog 257 #[qH #[iI k]] w (Kv (qE (AR (GI.Ae (.GN k)))) w):=by
 have H:=D h;have hW:=λv=>EU [⟨#[106,109,112]⟩,AR (Lib.itoa k)] 2 v
 clear h;go_enter func257,ntmps257;exact Ahr
theorem Aey (a:Ag) (k:Int) (ha:D7 a) (hk:i64 k) (w:World) (h:V0 w):Calls prog 268 #[qH #[qF a.Dd,iI a.v,iI k]] w (Kv (qE (AR (GI.Ae (.jz a k)))) w):=by
 have H:=D h;have hW:=λv=>EU [⟨#[106,122]⟩,AR (Kt a),AR (Lib.itoa k)] 3 v
 clear h;go_enter func268,ntmps268;go_upto_region 1 with fail
 refine Cg (l:=[(0,V),(1,V),(3,V),(4,V),(5,V),(2,I),(6,I),(7,I),(8,I),(9,I)]) (λW=>∀i:Nat,W.cell? ⟨w.heap.size,i,Z⟩=(#[qF a.Dd,iI a.v,iI k]:Array Value)[i]?) 9 ((IX (Aw.refl [] _).drew).cell (GE.2 rfl)) ?_;exact sgo
theorem wy (k:Int) (hk:i64 k) (w:World) (h:V0 w):Calls prog 264 #[qH #[iI k]] w (Kv (qE (AR (GI.Ae (.CS k)))) w):=by
 have H:=D h;have hW:=λv=>EU [⟨#[116,114,97,112]⟩,AR (Lib.itoa k)] 2 v
 clear h;go_enter func264,ntmps264;exact Ahr
def Acc (B:Nat) (l:By) (w:World):Prop:=Lib.IsBuilder 157 5 B B (Lib.byteCells l) w
theorem Acc.quiet {B:Nat} (h:Acc B l w) (k:Aw [] w w'):Acc B l w':=by
 have f:∀p,Lib.BuilderAt 157 5 B B p (Lib.byteCells l) w->Lib.BuilderAt 157 5 B B p (Lib.byteCells l) w':=by
  rintro p ⟨h1,v,h2,h3,h4⟩;exact⟨h1,v,k.heap h2 EQ,B9 h3 k EQ,h4⟩
 exact Or.imp (f _) (f _) h
theorem Aw.V5 {a b c:World} (h:Aw [] a b) (k:Below a.heap.size b c):Aw [] a c:=
 ⟨k.os.trans h.os,k.tape.trans h.tape,k.output.trans h.output,Qb h.size k.size,λi hi _=>(k.block i hi).trans (h.block i hi EQ)⟩
theorem eZ (l m:By):Lib.byteCells l++Lib.byteCells m=Lib.byteCells (l++m):=by simp[Lib.byteCells]
theorem eY (l:By):(Lib.byteCells l).length=J l:=by simp[Lib.byteCells]
theorem zq (m:By):Lib.strCells (AR m)=Lib.byteCells m:=by simp[Lib.strCells,Lib.byteCells,AR]
def Al3 (r:Value) (l:By) (w0:World) (e:Ending) (w':World):Prop:=e= qJ r/\Acc w0.heap.size l w'/\Aw [] w0 w'
theorem Alw (m:By) (h:Acc w0.heap.size l w) (k:Aw [] w0 w) (hl:J l+J m<=1000000) (s:ByteArray) (hs:s=AR m):
  Calls prog 77 #[iJ w0.heap.size,qE s] w (Al3 (qG #[iI s.size,.nilIface]) (l++m) w0):=by
 subst hs;refine(Agd w0.heap.size w0.heap.size (Lib.byteCells l) (AR m) w h (by rw[eY,LF];omega) k.size).mono ?_;rintro e w' ⟨rfl,h1,h2⟩;rw[zq,eZ] at h1;exact⟨rfl,Or.inr h1,k.V5 h2⟩
theorem Anm (h:Acc w0.heap.size l w) (k:Aw [] w0 w) (hl:J l<=1000000):
  Calls prog 78 #[iJ w0.heap.size,.int .u8 10] w (Al3 .nilIface (l++[10]) w0):=by
 refine(Alq w0.heap.size w0.heap.size (Lib.byteCells l) 10 w h (by rw[eY];omega) k.size).mono ?_;rintro e w' ⟨rfl,h1,h2⟩;have e1:Lib.byteCells l++[.int .u8 10]=Lib.byteCells (l++[10]):=by rw[<-eZ];rfl
 rw[e1] at h1;exact⟨rfl,Or.inr h1,k.V5 h2⟩
theorem Anl (h:Acc w0.heap.size l w) (k:Aw [] w0 w):
  Calls prog 79 #[iJ w0.heap.size] w (Kv (qE (AR l)) w0):=by
 refine(Tryz.Builder_String_any w0.heap.size w0.heap.size l w h k.size).mono ?_;rintro e w' ⟨rfl,h2⟩;exact⟨rfl,k.V5 h2⟩
theorem V8 {α:Type}:∀(cs:List SG) (ls:List (List α)) (k:Nat) (hc:k<J cs) (hl:k<J ls),(A4 cs ls)[k]?=U (.slice cs[k].p ls[k].length cs[k].c)
 |[],_,_,hc,_=>by simp at hc
 |_::_,[],_,_,hl=>by simp at hl
 |c::cs,l::ls,0,_,_=>rfl
 |c::cs,l::ls,k+1,hc,hl=>by
  have:=V8 cs ls k (by simpa using hc) (by simpa using hl);simpa[A4] using this
theorem Aac:∀(cs:List SG) (ls:List (List GI)) (k:Nat) (hc:k<J cs) (hl:k<J ls),(List.zipWith DS cs ls)[k]?=U (DS cs[k] ls[k])
 |[],_,_,hc,_=>by simp at hc
 |_::_,[],_,_,hl=>by simp at hl
 |c::cs,l::ls,0,_,_=>rfl
 |c::cs,l::ls,k+1,hc,hl=>by
  have:=Aac cs ls k (by simpa using hc) (by simpa using hl);simpa using this
def okT (i:GI):Prop:=SK 4000 i/\i≠ .Mr
def Gr (t:List GI) (q:Nat):By:=(t.take q).flatMap λi=>i.Ae++[10]
theorem Vp (t:List GI) (q:Nat) (hq:q<J t):Gr t (q+1)=Gr t q++t[q].Ae++[10]:=by
 unfold Gr;rw[cP t q hq,Nm];simp
theorem kG (ls:List (List GI)) (k:Nat) (hk:k<J ls):DK (ls.take (k+1))=DK (ls.take k)++AE++[10]++Gr ls[k] ls[k].length:=by
 unfold DK;rw[JN hk];simp only[Nm,J2,List.flatMap_nil,Jr];unfold Yc Gr;rw[Qw];simp
theorem l8 (t:List GI) (q:Nat) (hq:q<J t):(Gr t q).length+t[q].Ae.length+1<=(Gr t (J t)).length:=by
 have e:Gr t (J t)=Gr t (q+1)++(t.drop (q+1)).flatMap λi=>i.Ae++[10]:=by
  unfold Gr;rw[Qw,<-Nm,jF]
 rw[e,Vp t q hq];simp;omega
theorem oP (ls:List (List GI)) (k:Nat):(DK (ls.take k)).length<=(DK ls).length:=by
 have e:DK ls=DK (ls.take k)++DK (ls.drop k):=by unfold DK;rw[<-Nm,jF]
 rw[e];simp
theorem Acv (k:Nat) (hk:k<=100000):wrap64 ((k:Int)+1)=k+1:=IntWalk.wrap64_in _ Y
theorem gN {u:Int} (h:0<=k) (h2:k<=u) (hu:u<=4000:=by decide):i64 k:=by unfold i64;omega
theorem vV {n:ByteArray} (h:n∈B7):n.size<=1000:=by have:=YE h;rw[show n.size=(bs n).length from rfl];omega
theorem wH (w:World) (_:V0 w):Calls prog 229 #[qH #[]] w (Kv (qE (AR (GI.Ae .halt))) w):=by
 go_enter func229,ntmps229;go_wp2;go_ret;exact⟨rfl,(Aw.refl _ _).alloc _⟩
theorem Ajp:(⟨#[116,104,114,101,97,100,10]⟩:ByteArray)=AR (AE++[10]):=by decide+kernel
theorem Aj9 (i:GI) (k:okT i):∃Z99 a f,GI.val i=.iface Z99 a/\(f=274\/f=259\/f=266\/f=262\/f=270\/f=272\/f=255\/f=257\/f=268\/f=264\/f=229)/\(∀w,(method 492 Z99 a "String").run prog w=.ok (f,a) w)/\∀w,V0 w->Calls prog f #[a] w (Kv (qE (AR i.Ae)) w):=by
 have h:=k.1;cases i with
 |Zv d a=>exact⟨_,_,_,rfl,Do,λ_=>Fd,AaQ d a h.1 h.2⟩
 |op n d a b=>exact⟨_,_,_,rfl,Do,λ_=>Fd,Aex n d a b (vV h.1) h.2.1 h.2.2.1 h.2.2.2⟩
 |load d a k2=>exact⟨_,_,_,rfl,Do,λ_=>Fd,wE d a k2 h.1 h.2.1 h.2.2⟩
 |store a k2 b=>exact⟨_,_,_,rfl,Do,λ_=>Fd,o8 a k2 b h.1 h.2.1 h.2.2⟩
 |La d a k2 b c=>exact⟨_,_,_,rfl,Do,λ_=>Fd,Aa4 d a k2 b c h.1 h.2.1 h.2.2.1 h.2.2.2.1 h.2.2.2.2⟩
 |El d a k2 b=>exact⟨_,_,_,rfl,Do,λ_=>Fd,wu d a k2 b h.1 h.2.1 h.2.2.1 h.2.2.2⟩
 |out a=>exact⟨_,_,_,rfl,Do,λ_=>Fd,AaP a h⟩
 |GN k2=>exact⟨_,_,_,rfl,Do,λ_=>Fd,AaR k2 (gN h.1 h.2)⟩
 |jz a k2=>exact⟨_,_,_,rfl,Do,λ_=>Fd,Aey a k2 h.1 (gN h.2.1 h.2.2)⟩
 |CS k2=>exact⟨_,_,_,rfl,Do,λ_=>Fd,wy k2 (gN (Int.le_trans Do h.1) h.2)⟩
 |halt=>exact⟨_,_,_,rfl,Do,λ_=>Fd,wH⟩
 |Mr=>exact Jk rfl k.2
theorem AaC (ls:List (List GI)) (op:Option Addr) (oc:Nat) (cs:List SG) (w:World) (h:Aq w (KF op (J ls) oc cs ls)) (Ns:J cs=J ls) (ht:V0 w)
  (hok:∀l,l∈ls->∀i,i∈l->okT i) (hl:(DK ls).length<=131072) (h3:J ls<=1000) (h4:∀l,l∈ls->J l<=10000):Calls prog 51 #[qD op (J ls) oc] w (Kv (qE (AR (DK ls))) w):=by
 have H:=D h;have T:=D ht;have Hok:=D hok;have Hcs:=D Ns;have Hl:=D hl;have H4:=D h4;clear h ht hok Ns hl h4;go_enter func51,ntmps51;go_wp2;have hA:Acc w.heap.size (DK (ls.take 0)) _:=Lib.fresh_isBuilder 157 5 w;go_loopw [10] (λi wr=>∃k:Nat,i= iI k/\k<=J ls/\Acc w.heap.size (DK (ls.take k)) wr/\Aw [] w wr) (λi _=>J ls-(intOf i).toNat);case atStart=>exact⟨0,rfl,Jo _,hA,(Aw.refl _ _).alloc _⟩
 case round=>
  clear hA;obtain⟨k,rfl,hk,hA,hM⟩:=hrel;by_cases hlt:(k:Int)<(J ls:Int)
  .have Cy:k<J ls:=Y
   have bw:k<=2000:=Y
   have hck:k<J cs:=by rw[Hcs.out];exact Cy
   have ho:=H.quiet hM;obtain⟨ob,oc',hov,_,rl,_,_,rc,rf⟩:=Av (ho.row (i:=0) rfl) Y;cases hov;have bz:wr.cell? ⟨ob,k,Z⟩=U (.slice cs[k].p ls[k].length cs[k].c):=by
    have e1:=V8 cs ls k hck Cy;obtain⟨e2,e3⟩:=Jm.1 e1;rw[rc k e2,e3]
   have DH:(KF (U ⟨ob,0,Z⟩) (J ls) oc cs ls)[k+1]?=U (DS cs[k] ls[k]):=Aac cs ls k hck Cy;have Pm:=Hl.out;have iZ:=oP ls (k+1);have Th:=kG ls k Cy;rw[Th] at iZ;have Ain:=Hok.out ls[k] (JO _);have h4k:=H4.out ls[k] (JO _);have hg:Aq w [DS cs[k] ls[k]]:=⟨λo bU=>by rw[GE] at bU;subst bU;exact H.holds _ (JZ DH),by simp[Er,Ob.fp,DS,Value.ownBlock];split<;>simp⟩;obtain⟨t,hT⟩:∃t,t=ls[k]:=⟨_,rfl⟩;obtain⟨⟨cp,cc⟩,hC⟩:∃c,c=cs[k]:=⟨_,rfl⟩;obtain⟨X,hX⟩:∃X,X=DK (ls.take k):=⟨_,rfl⟩;rw[<-hT,<-hC] at bz hg;rw[<-hT,<-hX] at iZ Th;rw[<-hT] at Ain h4k;rw[<-hX] at hA;clear hT hC hX DH rc rf hck ho;have HA:=D hA;have HM:=D hM;have Hg:=D hg;have Hts:=D Th;have AnC:=D Ain;simp only[GT,JP] at iZ;have hX1:J X+J AE+1+(Gr t (J t)).length<=131072:=Y
   have hX2:=D hX1;clear hA hM hg Th Ain iZ Pm hX1;have VX:=JK k;go_wp2_with fail;refine(Alw (AE++[10]) HA HM (by have:=hX2.out;simp only[GT,JP];omega) _ Ajp).mono ?_;rintro e w1 ⟨rfl,hA,hM⟩;clear HA HM bz;have hA0:=hA;go_wp2;rw[<-Jj] at hA0;go_loopw [17] (λi wr=>∃q:Nat,i= iI q/\q<=J t/\Acc w.heap.size (X++AE++[10]++Gr t q) wr/\Aw [] w wr) (λi _=>J t-(intOf i).toNat);case atStart=>exact⟨0,rfl,Jo _,by have:Gr t 0=[]:=rfl;rw[this,Jr];exact hA0,hM⟩
   case round=>
    clear hA hM hA0;obtain⟨q,rfl,hq,hA,hM⟩:=hrel;by_cases hqt:(q:Int)<(J t:Int)
    .have Afw:q<J t:=Y
     have hq9:q<=100000:=Y
     obtain⟨gb,gc,hgv,_,gl,_,_,gcell,gfr⟩:=Av ((Hg.quiet hM).row (i:=0) rfl) Y;cases hgv;have hgi:(ki t).length=J t:=LC t;have Ys:wr.cell? ⟨gb,q,Z⟩=U (GI.val t[q]):=by rw[gcell q (by rw[hgi];exact Afw)];simp[ki]
     have hLl:=l8 t q Afw;have ZS:=Vp t q Afw;have Aio:=AnC.out t[q] (JO _);obtain⟨i,hi⟩:∃i,i=t[q]:=⟨_,rfl⟩;rw[<-hi] at Ys hLl ZS Aio;have HA:=D hA;have HM:=D hM;have zU:=D ZS;have HLl:=D hLl;have AlL:=D Aio;clear hi gcell gfr hgi hLl ZS Aio hA hM;have hqn:=JK q;obtain⟨Z99,a,f,hiv,hf,hmt,AgT⟩:=Aj9 i AlL.out;rw[hiv] at Ys;have AkV:=D AgT;clear hiv AgT AlL;rcases hf with rfl|rfl|rfl|rfl|rfl|rfl|rfl|rfl|rfl|rfl|rfl;all_goals
      go_wp2_with fail;refine(AkV _ (T.quiet HM)).mono ?_;rintro e w2 ⟨rfl,Fa⟩;clear AkV hmt Ys;have HA2:=D (HA.quiet Fa);have SX:=D (HM.Aj Fa);clear HA HM Fa;go_wp2_with fail;refine(Alw (i.Ae) HA2 SX (by have:=hX2.out;have:=HLl.out;simp only[GT,JP];omega) _ rfl).mono ?_;rintro e w3 ⟨rfl,hA3,kh⟩;clear HA2 SX;have HA3:=D hA3;have oe:=D kh;clear hA3 kh;go_wp2_with fail;refine(Anm HA3 oe (by have:=hX2.out;have:=HLl.out;simp only[GT,JP];omega)).mono ?_;rintro e w4 ⟨rfl,hA4,hM4⟩;clear HA3 oe;have HA4:=D hA4;have HM4:=D hM4;clear hA4 hM4;obtain⟨s1,Ti⟩:∃s,s=AR (i.Ae):=⟨_,rfl⟩;rw[<-Ti];clear Ti;obtain⟨z1,KZ⟩:∃z,z=s1.size:=⟨_,rfl⟩;rw[<-KZ];clear KZ;have inc:True->wrap64 ((q:Int)+1)=q+1:=λ_=>Acv q hq9
      go_wp2;go_roundw;case rel=>exact⟨q+1,rfl,Afw,by rw[zU.out];simpa only[Jj] using HA4.out,HM4⟩
      case measure=>simp[intOf];omega
    .have hqc:q=J t:=Y
     subst hqc;have HA:=D hA;have HM:=D hM;clear hA hM;have inc:True->wrap64 ((k:Int)+1)=k+1:=λ_=>Acv k (Qb bw Do)
     go_wp2;go_roundw;case rel=>exact⟨k+1,rfl,Cy,by rw[Hts.out];exact HA.out,HM⟩
     case measure=>simp[intOf];omega
  .have Pz:k=J ls:=Y
   subst Pz;rw[Qw] at hA;have HA:=D hA;have HM:=D hM;clear hA hM;go_wp2_with fail;refine(Anl HA HM).mono ?_;rintro e w1 ⟨rfl,hm⟩;go_wp2;go_ret;exact⟨rfl,hm⟩
