/- Part 17 of the proof. -/
import Derived.Test.YtpdfifdlhpmofaaGreatDoorC16
import Derived.Test.YtpdfifdlhpmofaaGreatDoorC10
set_option linter.unusedVariables false
set_option linter.unusedSimpArgs false
set_option maxHeartbeats 0
set_option maxRecDepth 99999
namespace Go.Proofs.YtpdfifdlhpmofaaGreatDoor
open Go.RowKit Tryz
open Value renaming slice->m9,string->qA,bool->qB,tuple->qC,agg->qD,pointer->qE
open Ending renaming returned->qF
open Obj renaming cells->qG
open Option renaming none->Z,some->U
open Bool renaming true->V,false->I
open Go.Lib renaming hid->D
open List renaming length->J
theorem maf {p:Prop} (h:p:=by
 clear HQ;obtain⟨k,c9,rfl,VE,hQ⟩:=hrel;by_cases hk:(k:Int)<(J AV:Int)
 .have hkv:k<J AV:=Y
  have Kf:k<J ls:=by rw[<-PE.out.len];exact hkv
  have tC:=PE.AN k hkv Kf;have Xc:=Zy ls (GS.CW G6) k Kf;have hk7:=PH.out ls[k] (JP _);obtain⟨ab,acp,Ail,_,_,_,_,hac,_⟩:=Av (n:=J AV) (hQ.st.Ak.row (i:=2) rfl) Y;cases Ail;have ZA:=(Dl (show Aq wr (MG.Ay {g with c:=c9,a:=⟨U ⟨ab,0,Z⟩,ac⟩,av:=AV} _) from hQ.st.Ak)).c 4;have hlm:=(Dl (show Aq wr (MG.Ay {g with c:=c9,a:=⟨U ⟨ab,0,Z⟩,ac⟩,av:=AV} _) from hQ.st.Ak)).lt;dsimp only at ZA hlm;have hce:=hac k hkv;have hlen:=LD (ls.take k) (GS.CW G6);rw[GS.FC] at hlen hk7;obtain⟨Gk,hGk⟩:∃z,z=(ls.take k).foldl GS.Ba (GS.CW G6):=⟨_,rfl⟩;rw[<-hGk] at Xc hlen hQ;obtain⟨⟨lk,la⟩,hl⟩:∃l,l=ls[k]:=⟨_,rfl⟩;rw[<-hl] at tC Xc hk7;obtain⟨v9,hv9⟩:∃v,v=AV[k]:=⟨_,rfl⟩;rw[<-hv9] at tC hce;have HQ:=D hQ;have rU:=D Xc;have Acs:lk<J Gk.Ab:=by rw[hlen];exact hk7
  have Gq:J Gk.Ab<=1000000:=Y
  clear hQ Xc hGk hl hv9 hac hlen hk7 Kf;have ax:k<=1000000:=Y
  cases la with
  |none=>
   obtain⟨xm,xk,rfl,x1,x2⟩:=tC;go_wp2_with fail;refine(VZ xm xk lk _ {g with c:=c9,a:=⟨U ⟨ab,0,Z⟩,ac⟩,av:=AV} Gk _ HQ.st.Ak HQ.kf (IR _ x2) (IR _ x1) Gq Acs).mono ?_;rintro e w25 ⟨rfl,c10,st⟩;have Q2:=HQ.step st rfl rfl (by rw[GS.Eh];exact Jf _);rw[<-rU.out] at Q2;clear HQ hce x1 x2 st;go_wp2;go_roundw;case rel=>exact⟨k+1,_,rfl,hkv,Q2⟩
   case measure=>simp[intOf];omega
  |some a0=>
   obtain⟨xa,xm,xk,rfl,x0,x1,x2⟩:=tC;go_wp2_with fail;refine(TC a0 xa xm xk lk _ {g with c:=c9,a:=⟨U ⟨ab,0,Z⟩,ac⟩,av:=AV} Gk _ HQ.st.Ak HQ.kf (IR _ x2) (IR _ x0) (IR _ x1) Gq Acs).mono ?_;rintro e w25 ⟨rfl,c10,st⟩;have Q2:=HQ.step st rfl rfl (by rw[GS.Eh];exact Jf _);rw[<-rU.out] at Q2;clear HQ hce x0 x1 x2 st;go_wp2;go_roundw;case rel=>exact⟨k+1,_,rfl,hkv,Q2⟩
   case measure=>simp[intOf];omega
 .have Pt:k=J AV:=Y
  have VD:ls.take k=ls:=J6 (by rw[Pt,PE.out.len];exact Jf _);rw[VD] at hQ;have Rk:Ar (ls.foldl GS.Ba (GS.CW G6)) G6:=Ar.tF ((Ar.refl G6).AQ _) ls;have hl8:=LD ls (GS.CW G6);rw[GS.FC] at hl8;obtain⟨G8,hG8⟩:∃z,z=ls.foldl GS.Ba (GS.CW G6):=⟨_,rfl⟩;rw[<-hG8] at hQ hl8 Rk;have hc8:=Rk.cells.trans lF;have H:=D (show CI v0 ⟨g.mb,c1,⟨Z,0⟩,[]⟩ (GS.enter G3) G8 _ [(p,#[m9 sp sn sc],255)] [] (U V) wr from⟨_,_,_,hQ⟩);have HG8:=D hG8;replace hk:=JJ (show¬k<J AV by omega);clear hQ hG8 VD VE Pt Rk
  revert wr H
  refine MW ?_;have hl9:(GS.Gb G8 (J G1.Ab)).Ab.length=J G8.Ab+cells.toNat*4+9:=by rw[GS.RH,hc8]
  refine MK (fun⦃w v g G F P R i⦄(H:Hid (CI w g G G8 F P R i v))=>Af6 (J G1.Ab) H Y (by rw[hc8];omega)) ?_;refine MK (zo bm bk (J G6.Ab)) ?_;intro v H
  intros
  go_end0
  have e:=eu b cells G G1 G2 G4 G5 HG1.out HG2.out (yI.out.cells.trans PG) (by rw[HG4.out,HG3.out]) HG5.out;rw[<-HG6.out,Hab.out,<-HG8.out] at e;rw[e];obtain⟨c,a,AV,H⟩:=H.out;exact⟨rfl,c,a,AV,S3.out.trans H.st,H.al⟩):p:=h
theorem maB {p:Prop} (h:p:=by
 intro v H;go_roundw;case rel=>exact LR.next HG hk H EQ EQ
 case measure=>simp[intOf];omega):p:=h
variable {w v w' w0:World} {g:MG} {G O:GS} {F:List (Nat×Obj)} {L:List Ob} {p:Prop} {c:Array Value} {T:TypeId} {cells k:Int} {d mb:Nat} {BY:Bool} {P:List QB} {i:Option Bool} {a:Ag} {l:By} {xs vs:List Value} {ls:List Ii}
def AdF (G':GS) (g:MG) (G:GS) (w:World) (e:Ending) (w':World):Prop:=
 e= qF (qC #[])/\∃c a av,Ai w (g.Ay G) w' (MG.Ay {g with c:=c,a:=a,av:=av} G')/\J av<=J G'.Ab
def rK (BY:Bool) (G':GS) (g:MG) (G:GS) (w:World) (e:Ending) (w':World):Prop:=match BY with
 |true=>StS G' g G w e w'
 |false=>AdF G' g G w e w'
theorem AY.UP (h:AY w (g.Ay G) F) {b:Nat} {o:Obj} (hb:(b,o)∈F):b≠g.mb:=λe=>h.out b o hb (by rw[e];simp[MG.Ay,Et,Ob.fp])
theorem AY.Po {p:Nat} (h:AY w L F) (hp:(p,qG c T (0,0))∈F):AY w L ([(p,c,T)].map qob):=h.sub λx hx=>by rw[GE.1 hx];exact hp
def RN (F:List (Nat×Obj)) (cells:Int) (BY:Bool) (n:Nat):Prop:=
 ∀(t:Bj) (sl:Value) (vs:List Value) (d:Nat) (w:World) (g:MG) (G:GS),Ft t<=n->Ew F sl vs->D8 F t vs->WF cells t d BY->d<=3->Aq w (g.Ay G)->AY w (g.Ay G) F->G.block=BY->G.cells=cells->
  (0<=G.Af/\G.Af<=(d:Int))->CF G.Ac->J G.Ab+Ce t<=998000->J g.av<=J G.Ab->
  Calls prog 80 #[iJ g.mb,sl] w (rK BY (GS.Dh t G) g G w)
section
variable {w v:World} {g:MG} {G O O':GS} {F:List (Nat×Obj)} {P:List QB} {BY:Bool} {fn:Nat} {args:Array Value}
theorem CI.stx (h:CI w g G O F P [] (U BY) v):rK BY O g G w (qF (qC #[])) v:=by
 cases BY with
 |true=>exact h.Dh
 |false=>obtain⟨c,a,AV,h⟩:=h;exact⟨rfl,c,a,AV,h.st,h.al⟩
theorem CI.x (H:Hid (CI w g G O F P [] (U BY) v)) (hb:O'.Ac=O.Ac)
  (k:∀c a AV,Aq v (MG.Ay {g with c:=c,a:=a,av:=AV} O)->AY v (MG.Ay {g with c:=c,a:=a,av:=AV} O) F->CF O.Ac->J AV<=J O.Ab->Calls prog fn args v (rK BY O' {g with c:=c,a:=a,av:=AV} O v)):
  Calls prog fn args v (λe v'=>e= qF (qC #[])/\Hid (CI w g G O' F P [] (U BY) v')):=by
 obtain⟨c,a,AV,h⟩:=H.out;have k1:=k c a AV h.st.Ak h.kf h.hb h.al;cases BY with
 |true=>
  refine(show Calls prog fn args v (StS O' {g with c:=c,a:=a,av:=AV} O v) from k1).mono ?_;exact maC
 |false=>
  refine(show Calls prog fn args v (AdF O' {g with c:=c,a:=a,av:=AV} O v) from k1).mono ?_;rintro e v' ⟨rfl,c',a',av',s,hl⟩;exact⟨rfl,⟨c',a',av',h.st.trans s,h.kf.step s,h.kp.step s,(λhi=>by cases hi),h.hb.eq hb,hl⟩⟩
end
theorem Af5 (f s:Int) (a:At)⦃w v:World⦄⦃g:MG⦄⦃G O:GS⦄⦃F:List (Nat×Obj)⦄⦃P:List QB⦄⦃R:List Ob⦄⦃i:Option Bool⦄(H:Hid (CI w g G O F P R i v)) (hn:J O.Ab<=999900:=by (try simp only[Pw]);omega) (hok:DO a:=by assumption):
  Calls prog 136 #[iJ g.mb,qD #[iI f,iI s,qB a.AX,iI a.v]] v (λe v'=>e= qF (qC #[])/\Hid (CI w g G (O.EN f s a) F P R i v')):=
 CI.mk H (GS.mh _ _ _ _) (GS.rC _ _ _ _) (by have:=GS.D6 O a 0;rw[GS.Oj];omega) λc1 a1 A1 h hb ha=>oP f s a v {g with c:=c1,a:=a1,av:=A1} O h hn ha hb hok
theorem AlD⦃w v:World⦄⦃g:MG⦄⦃G O:GS⦄⦃F:List (Nat×Obj)⦄⦃P:List QB⦄⦃i:Bool⦄(H:Hid (CI w g G O F P [] (U i) v)) (hn:J O.Ab<=999900:=by (try simp only[Pw]);omega):
  Calls prog 137 #[iJ g.mb] v (λe v'=>e= qF (qC #[])/\Hid (CI w g G O.SL F P [] (U i) v')):=
 CI.ab H (GS.xI _) λc1 a1 A1 h hb ha=>vZ v {g with c:=c1,a:=a1,av:=A1} O h hn ha hb
theorem AeH (BY:Bool) (x f s:Int) (a:At) (F:List (Nat×Obj)) (p:Nat) (w:World) (g:MG) (G:GS) (h:Aq w (g.Ay G)) (hK:AY w (g.Ay G) F) (hF:(p,qG #[iI x,iI f,iI s,qB a.AX,iI a.v] 245 (0,0))∈F) (hn:J G.Ab<=998000) (ha:J g.av<=J G.Ab) (Fo:CF G.Ac) (hok:DO a) (hv:0<=x/\x<4):
  Calls prog 104 #[iJ g.mb,.iface 243 (iJ p)] w (rK BY (GS.Dh (.get x f s a .nil) G) g G w):=by
 have hpm:=hK.UP hF;have KX:=GS.Dz G a 0;have hw0:wrap64 (0+x)=x:=by rw[IntWalk.wrap64_in _ Y];omega
 have Fu:wrap64 x=x:=IntWalk.wrap64_in _ Y;refine CI.begin [] [(p,#[iI x,iI f,iI s,qB a.AX,iI a.v],245)] (U BY) h (AY.nil _ _) (hK.Po hF) Fo ha ?_;clear h Fo hK hF;intro v H;have ta0:=nN;have ta1:=nQ;go_enter func104,ntmps104
 revert v H
 refine MW ?_;refine MK (Af5 f s a) ?_;refine MK (AlD) ?_;refine MK (LH x) ?_;refine MK (xR 1) ?_;refine MK (rZ x (.r 1)) ?_;intro v H
 intros
 go_end0
 rw[show GS.Dh (.get x f s a .nil) G=((G.EN f s a).SL).st x (.r 1) from rfl];exact H.out.stx
theorem Abp (a:At) (F:List (Nat×Obj)) (p:Nat) (w:World) (g:MG) (G:GS) (h:Aq w (g.Ay G)) (hK:AY w (g.Ay G) F) (hF:(p,qG #[qB a.AX,iI a.v] 251 (0,0))∈F) (hn:J G.Ab<=998000) (ha:J g.av<=J G.Ab) (Fo:CF G.Ac) (hok:DO a) (Fb:G.block=I):
  Calls prog 104 #[iJ g.mb,.iface 249 (iJ p)] w (rK I (GS.Dh (.out a .nil) G) g G w):=by
 have hpm:=hK.UP hF;have KX:=GS.Dz G a 1;have Hbl:=D Fb;have AmD:True->(G.Co a 1).block=I:=λ_=>((Ar.refl G).Co a 1).block.trans Fb
 clear Fb;refine CI.begin [] [(p,#[qB a.AX,iI a.v],251)] (U I) h (AY.nil _ _) (hK.Po hF) Fo ha ?_;clear h Fo hK hF;intro v H;have ta0:=Yp;have ta1:=Yq;have ta2:=Tn;have ta3:=To;go_enter func104,ntmps104
 revert v H
 refine MW ?_;refine MK (PJ a 1) ?_;refine MA #[qB (GS.BD a 1).Dd,iI (GS.BD a 1).v] 264 ?_;intro b hb;refine MK (aC (.out (GS.BD a 1))) ?_;intro v H
 intros
 go_end0
 rw[show GS.Dh (.out a .nil) G=(G.Co a 1).AQ (.out (GS.BD a 1)) by simp[GS.Dh,Hbl.out]];exact H.out.stx
theorem Abo (a:At) (F:List (Nat×Obj)) (p:Nat) (w:World) (g:MG) (G:GS) (h:Aq w (g.Ay G)) (hK:AY w (g.Ay G) F) (hF:(p,qG #[qB a.AX,iI a.v] 251 (0,0))∈F) (hn:J G.Ab<=998000) (ha:J g.av<=J G.Ab) (Fo:CF G.Ac) (hok:DO a) (Fb:G.block=V):
  Calls prog 104 #[iJ g.mb,.iface 249 (iJ p)] w (rK V (GS.Dh (.out a .nil) G) g G w):=by
 have hpm:=hK.UP hF;have KX:=GS.Dz G a 1;have Hbl:=D Fb;have AmD:True->(G.Co a 1).block=V:=λ_=>((Ar.refl G).Co a 1).block.trans Fb
 clear Fb;refine CI.begin [] [(p,#[qB a.AX,iI a.v],251)] (U V) h (AY.nil _ _) (hK.Po hF) Fo ha ?_;clear h Fo hK hF;intro v H;have ta0:=Yp;have ta1:=Yq;have ta2:=Tn;have ta3:=To;go_enter func104,ntmps104
 revert v H
 refine MW ?_;refine MK (PJ a 1) ?_;refine MA #[qB (GS.BD a 1).Dd,iI (GS.BD a 1).v] 264 ?_;intro b hb;refine MK (LH 39) ?_;refine MK (xlo 2 39) ?_;refine MR [(0,V),(1,V),(3,V),(2,I),(4,I)] 4 ?_;refine ME (xof 40 2) ?_;refine ML (zg 40 2 (GS.BD a 1)) ?_;refine MK (xR 2) ?_;refine MK (xN 1) ?_;refine MK (gQ KG 2 (.r 2) (.n 1)) ?_;refine MK (LH 39) ?_;refine MK (xR 2) ?_;refine MK (rZ 39 (.r 2)) ?_;intro v H
 intros
 go_end0
 rw[show GS.Dh (.out a .nil) G=(((((G.Co a 1).lo 2 39).IW 40 2 (GS.BD a 1)).IB KG 2 (.r 2) (.n 1)).st 39 (.r 2)) by simp[GS.Dh,Hbl.out]];exact H.out.stx
theorem AeG (BY:Bool) (f s:Int) (ix a:At) (F:List (Nat×Obj)) (p:Nat) (w:World) (g:MG) (G:GS) (h:Aq w (g.Ay G)) (hK:AY w (g.Ay G) F) (hF:(p,qG #[iI f,iI s,qB ix.AX,iI ix.v,qB a.AX,iI a.v] 248 (0,0))∈F) (hn:J G.Ab<=998000) (ha:J g.av<=J G.Ab) (Fo:CF G.Ac) (xp:DO ix) (hoa:DO a):
  Calls prog 104 #[iJ g.mb,.iface 246 (iJ p)] w (rK BY (GS.Dh (.put f s ix a .nil) G) g G w):=by
 have hpm:=hK.UP hF;have KX:=GS.Dz G ix 0;have O9:=GS.Dz (G.EN f s ix) a 1;have gX:=GS.Oj G f s ix;refine CI.begin [] [(p,#[iI f,iI s,qB ix.AX,iI ix.v,qB a.AX,iI a.v],248)] (U BY) h (AY.nil _ _) (hK.Po hF) Fo ha ?_;clear h Fo hK hF;intro v H;have ta0:=nK;have ta1:=nM;have ta2:=Yo;go_enter func104,ntmps104
 revert v H
 refine MW ?_;refine MK (Af5 f s ix) ?_;refine MR [(0,V),(1,V),(3,V),(4,V),(5,V),(6,V),(7,V),(2,I),(8,I),(9,I)] 9 ?_;refine ME (xof 14 0) ?_;refine ME (PJ a 1) ?_;refine ML (za (.r 0) ((G.EN f s ix).Ac+14) (GS.BD a 1)) ?_;refine MK (xof 8 0) ?_;refine MK (xN 1) ?_;refine MK (zg 8 0 (.n 1)) ?_;intro v H
 intros
 go_end0
 rw[show GS.Dh (.put f s ix a .nil) G=(((G.EN f s ix).Co a 1).AQ (.store (.r 0) ((G.EN f s ix).Ac+14) (GS.BD a 1))).IW 8 0 (.n 1) by simp only[GS.Dh,GS.IW,GS.dN,GS.bP]];exact H.out.stx
theorem ns {b:Bj} {sl:Value} {ws:List Value} {G0:GS} (IH:Hid (RN F cells BY (Ft b))) (H3:Hid (Ew F sl ws)) (H4:Hid (D8 F b ws)) (hw:WF cells b d BY) (hd:d<=3) (Fb:G0.block=BY) (PG:G0.cells=cells) (Xv:0<=G0.Af/\G0.Af<=(d:Int)) (hbg:J G0.Ab+Ce b<=998000)
  (hb:(GS.Dh b G0).Ac=G0.Ac)⦃w v:World⦄⦃g:MG⦄⦃G:GS⦄⦃E:List (Nat×Obj)⦄⦃P:List QB⦄(H:Hid (CI w g G G0 E P [] (U BY) v)) (hE:∀x,x∈F->x∈E:=by (intro x hx;simp[hx])):
  Calls prog 80 #[iJ g.mb,sl] v (λe v'=>e= qF (qC #[])/\Hid (CI w g G (GS.Dh b G0) E P [] (U BY) v')):=
 CI.x H hb λc1 a1 A1 h K hb ha=>IH.out b sl ws d v {g with c:=c1,a:=a1,av:=A1} G0 (Jf _) H3 H4 hw hd h (K.sub hE) Fb PG Xv hb hbg ha
theorem AhA (BY:Bool) (cells:Int) (a:At) (b:Bj) (sp:Option Addr) (sn sc:Nat) (ws:List Value) (F:List (Nat×Obj)) (p:Nat) (w:World) (g:MG) (G:GS) (h:Aq w (g.Ay G)) (hK:AY w (g.Ay G) F) (hF:(p,qG #[qB a.AX,iI a.v,m9 sp sn sc] 258 (0,0))∈F) (hn:J G.Ab<=998000) (ha:J g.av<=J G.Ab) (Fo:CF G.Ac) (hok:DO a) (d:Nat) (B8:0<=cells/\cells<=6) (Fb:G.block=BY) (PG:G.cells=cells) (Xv:0<=G.Af/\G.Af<=(d:Int)) (hd:d<3) (Vb:WF cells b (d+1) BY) (Aik:J G.Ab+2+Ce b<=998000) (ih:RN F cells BY (Ft b)) (h3:Ew F (m9 sp sn sc) ws) (h4:D8 F b ws):
  Calls prog 104 #[iJ g.mb,.iface 256 (iJ p)] w (rK BY (GS.Dh (.Es a b .nil) G) g G w):=by
 have hpm:=hK.UP hF;have IH:=D ih;have H3:=D h3;have H4:=D h4;clear ih h3 h4;have KX:=GS.Dz G a 1;have O9:=GS.D6 G a 1;have Xo:Hid (Ar ((G.Co a 1).CG (GS.BD a 1)) G):=((Ar.refl G).Co a 1).AQ (.jz (GS.BD a 1) 0);obtain⟨L6,TO,hhi⟩:=RY cells b B8 (d+1) BY ((G.Co a 1).CG (GS.BD a 1)) Vb (Xo.block.trans Fb) (Xo.cells.trans PG);have eI:=D L6;clear L6;try simp only[Pw] at TO hhi
 have bh:0<=((G.Co a 1).CG (GS.BD a 1)).Af/\((G.Co a 1).CG (GS.BD a 1)).Af<=((d+1:Nat)):=by rw[Xo.out.Af];omega
 have hbg:((G.Co a 1).CG (GS.BD a 1)).Ab.length+Ce b<=998000:=by (try simp only[Pw]);omega
 refine CI.begin F [(p,#[qB a.AX,iI a.v,m9 sp sn sc],258)] (U BY) h hK (hK.Po hF) Fo ha ?_;clear h Fo hK hF;intro v H;have ta0:=uY;have ta1:=uZ;have ta2:=bU;have ta3:=bV;have ta4:=Yr;go_enter func104,ntmps104
 revert v H
 refine MW ?_;refine MK (PJ a 1) ?_;refine MZ (WG (GS.BD a 1)) ?_;intro bas bms bks;refine MK (ns IH H3 H4 Vb Y (Xo.block.trans Fb) (Xo.cells.trans PG) bh hbg eI.Ac) ?_;refine MK (KV (GS.BD a 1) bas bms bks _) ?_;intro v H
 intros
 go_end0
 rw[show GS.Dh (.Es a b .nil) G=(GS.Dh b ((G.Co a 1).CG (GS.BD a 1))).Ba ⟨(G.Co a 1).Ab.length,U (GS.BD a 1)⟩ from rfl];exact H.out.stx
theorem AeS (n:Int) (b:Bj) (G X:GS) (hX:X=GS.Dh b (GS.dp (GS.st G (48+G.Af) (.n n)) (G.Af+1))) (hd:X.Af=G.Af+1) (hb:X.Ac=G.Ac):
  GS.Dh (.loop n b .nil) G=GS.Ba (GS.AQ (GS.CG (GS.AQ (GS.IB (GS.AQ (X.dp G.Af) (.load 1 (.n (G.Ac+(48+G.Af))) 0)) KF 1 (.r 1) (.n 1)) (.store (.n (G.Ac+(48+G.Af))) 0 (.r 1))) (.r 1)) (.GF (GS.Ab (GS.st G (48+G.Af) (.n n))).length))
   ⟨(GS.Ab (GS.AQ (GS.IB (GS.AQ (X.dp G.Af) (.load 1 (.n (G.Ac+(48+G.Af))) 0)) KF 1 (.r 1) (.n 1)) (.store (.n (G.Ac+(48+G.Af))) 0 (.r 1)))).length,U (.r 1)⟩:=by
 have e:X.dp G.Af=GS.eU X:=by unfold GS.eU GS.dp;rw[hd,Int.add_sub_cancel]
 rw[e,<-hb];subst hX;rfl
theorem Abq (BY:Bool) (cells n:Int) (b:Bj) (sp:Option Addr) (sn sc:Nat) (ws:List Value) (F:List (Nat×Obj)) (p:Nat) (w:World) (g:MG) (G:GS) (h:Aq w (g.Ay G)) (hK:AY w (g.Ay G) F) (hF:(p,qG #[iI n,m9 sp sn sc] 261 (0,0))∈F) (hn:J G.Ab<=998000) (ha:J g.av<=J G.Ab) (Fo:CF G.Ac) (d:Nat) (B8:0<=cells/\cells<=6) (Fb:G.block=BY) (PG:G.cells=cells) (Xv:0<=G.Af/\G.Af<=(d:Int)) (hd:d<3) (Vb:WF cells b (d+1) BY) (Aik:J G.Ab+2+Ce b<=998000) (ih:RN F cells BY (Ft b)) (h3:Ew F (m9 sp sn sc) ws) (h4:D8 F b ws):
  Calls prog 104 #[iJ g.mb,.iface 259 (iJ p)] w (rK BY (GS.Dh (.loop n b .nil) G) g G w):=by
 have hpm:=hK.UP hF;have IH:=D ih;have H3:=D h3;have H4:=D h4;clear ih h3 h4;obtain⟨L6,TO,hhi⟩:=RY cells b B8 (d+1) BY (GS.dp (GS.st G (48+G.Af) (.n n)) (G.Af+1)) Vb Fb PG;have eI:=D L6;clear L6;try simp only[Pw] at TO hhi
 have bh:0<=(GS.dp (GS.st G (48+G.Af) (.n n)) (G.Af+1)).Af/\(GS.dp (GS.st G (48+G.Af) (.n n)) (G.Af+1)).Af<=((d+1:Nat)):=by show 0<=G.Af+1/\G.Af+1<=_;omega
 have hbg:(GS.dp (GS.st G (48+G.Af) (.n n)) (G.Af+1)).Ab.length+Ce b<=998000:=by (try simp only[Pw]);omega
 have gT:True->(GS.Dh b (GS.dp (GS.st G (48+G.Af) (.n n)) (G.Af+1))).Af=G.Af+1:=λ_=>eI.Af
 have pM:True->(GS.st G (48+G.Af) (.n n)).Af=G.Af:=λ_=>rfl
 refine CI.begin F [(p,#[iI n,m9 sp sn sc],261)] (U BY) h hK (hK.Po hF) Fo ha ?_;clear h Fo hK hF;intro v H;have ta0:=iB;have ta1:=iC;have ta2:=WN;have ta3:=WO;have ta4:=Tp;have ta5:=Oy;go_enter func104,ntmps104
 revert v H
 refine MW ?_;refine MK (LH (48+G.Af)) ?_;refine MA #[qB I,iI (G.Ac+(48+G.Af)),iI 0] 270 ?_;intro pl hpl;refine MR (sq [6] 0 7) 7 ?_;refine ME (xN n) ?_;refine MLL (rZ (48+G.Af) (.n n)) ?_;intro cc;refine MD (G.Af+1) ?_;refine MK (ns (G0:=GS.dp (GS.st G (48+G.Af) (.n n)) (G.Af+1)) IH H3 H4 Vb Y Fb PG bh hbg eI.Ac) ?_;refine MD G.Af ?_;refine MK (r4 1 (.n (G.Ac+(48+G.Af))) 0) ?_;refine MK (xR 1) ?_;refine MK (xN 1) ?_;refine MK (gQ KF 1 (.r 1) (.n 1)) ?_;refine MR (sq [2] 0 3) 3 ?_;refine ME (xR 1) ?_;refine ML (za (.n (G.Ac+(48+G.Af))) 0 (.r 1)) ?_;refine MK (xR 1) ?_;refine MZ (WG (.r 1)) ?_;intro badn bmdn bkdn;refine MK (aC (.GF (GS.Ab (GS.st G (48+G.Af) (.n n))).length)) ?_;refine MK (KV (.r 1) badn bmdn bkdn _) ?_;intro v H
 intros
 go_end0
 rw[AeS n b G _ rfl eI.out.Af eI.out.Ac];exact H.out.stx
theorem AY.r7 {b:Nat} (h:AY w L ((b,qG c T (0,0))::F)) (hf:∀q o,(q,o)∈F->q≠b) (i:Nat) (v:Value):
  AY (w.setCell ⟨b,i,Z⟩ v) L ((b,qG (c.setIfInBounds i v) T (0,0))::F):=by
 refine⟨λq o hq=>?_,λq o hq=>?_⟩
 .rcases Jl.1 hq with hq|hq
  .cases hq;exact Ci.set (h.heap b _ (Jd ..)) i v
  .exact((Az.refl [b] w).setCell (.inl EQ) v).heap (h.heap q o (Id _ hq)) (by simp[hf q o hq])
 .rcases Jl.1 hq with hq|hq
  .cases hq;exact h.out b _ (Jd ..)
  .exact h.out q o (Id _ hq)
section
variable {w v:World} {g:MG} {G O:GS} {P:List QB} {b p:Nat} {cs ds:Array Value} {T Z99:TypeId} {F:List (Nat×Obj)} {R:List Ob} {i:Option Bool}
theorem CI.free (h:CI w g G O F ((b,cs,T)::P) R i v):∀k:Nat,v.frozen? ⟨b,k,Z⟩=I:=let ⟨_,_,_,h⟩:=h;h.kp.free (Jd ..)
theorem CI.r7 (h:CI w g G O [] [(b,cs,T),(p,ds,Z99)] [] Z v) (hb:w.heap.size<=b) (hp:p≠b) (k:Nat) (x:Value):CI w g G O [] [(b,cs.setIfInBounds k x,T),(p,ds,Z99)] [] Z (v.setCell ⟨b,k,Z⟩ x):=by
 obtain⟨c,a,AV,h⟩:=h;exact⟨c,a,AV,h.st.Yy hb (h.kp.out b _ (Jd ..)) k x,AY.nil _ _,h.kp.r7 (λq o hq=>by rw[GE.1 hq |> JM Prod.fst |> λe=>(e:q=p)];exact hp) k x,h.ab,h.hb,h.al⟩
theorem CI.Aja (h:CI w g G O F P [] Z v) (Vj:O.BM=G.BM) (hlen:J G.Ab<=J O.Ab) (ha:J g.av<=J G.Ab):rK BY O g G w (qF (qC #[])) v:=by
 obtain⟨_,c,st⟩:=h.mks (ret:= qC #[]);cases BY with
 |false=>exact⟨rfl,c,g.a,g.av,st,Y⟩
 |true=>exact⟨rfl,c,g.a,[],[],[],by rw[Vj,Jo],by rw[Jo];exact st,AY.nil _ _,VB.nil _ _ _,by simpa using hlen⟩
end
theorem Abn (BY:Bool) (x:Int) (op:ByteArray) (a b:At) (F:List (Nat×Obj)) (p:Nat) (w:World) (g:MG) (G:GS) (h:Aq w (g.Ay G)) (hK:AY w (g.Ay G) F) (hF:(p,qG #[iI x,qA op,qB a.AX,iI a.v,qB b.AX,iI b.v] 238 (0,0))∈F) (hn:J G.Ab<=998000) (ha:J g.av<=J G.Ab) (Fo:CF G.Ac) (hv:0<=x/\x<4) (hoa:DO a) (tz:DO b) (IV:op.size=0):
  Calls prog 104 #[iJ g.mb,.iface 233 (iJ p)] w (rK BY (GS.Dh (.set x op a b .nil) G) g G w):=by
 have hpm:=hK.UP hF;have Fu:True->IntKind.i64.wrap x=x:=λ_=>IntWalk.i64_in _ Y
 have KX:=GS.Dz G a 1;have gX:=GS.D6 G a 1;have hq:(op.toList==[])=V:=by rw[ByteArray.toList_eq];have:=Array.size_eq_zero_iff.1 IV;rw[this];rfl
 have Hop:=D IV;clear IV;refine CI.begin [] [(p,#[iI x,qA op,qB a.AX,iI a.v,qB b.AX,iI b.v],238)] Z h (AY.nil _ _) (hK.Po hF) Fo ha ?_;clear h Fo hK hF;intro v H;have ta0:=Yn;go_enter func104,ntmps104
 revert v H
 refine MW ?_;refine MK (PJ a 1) ?_;refine MA #[qB (GS.BD a 1).Dd,iI (GS.BD a 1).v] 264 ?_;intro q hq9;refine MR [(0,V),(1,V),(2,V),(3,V),(4,V),(5,V),(6,V),(8,V),(7,I),(9,I)] 9 ?_;refine ME (LH x) ?_;refine ML (rZ x (GS.BD a 1)) ?_;intro v H
 intros
 go_end0
 rw[show GS.Dh (.set x op a b .nil) G=GS.st ((G.Co a 1)) x (GS.BD a 1) by simp[GS.Dh,Hop.out]];exact H.out.Aja (by rw[GS.iG,GS.LL]) (by simp only[Pw];omega) ha
theorem Abm (BY:Bool) (x:Int) (op:ByteArray) (a b:At) (F:List (Nat×Obj)) (p:Nat) (w:World) (g:MG) (G:GS) (h:Aq w (g.Ay G)) (hK:AY w (g.Ay G) F) (hF:(p,qG #[iI x,qA op,qB a.AX,iI a.v,qB b.AX,iI b.v] 238 (0,0))∈F) (hn:J G.Ab<=998000) (ha:J g.av<=J G.Ab) (Fo:CF G.Ac) (hv:0<=x/\x<4) (hoa:DO a) (tz:DO b) (IV:¬op.size=0):
  Calls prog 104 #[iJ g.mb,.iface 233 (iJ p)] w (rK BY (GS.Dh (.set x op a b .nil) G) g G w):=by
 have hpm:=hK.UP hF;have hpl:=hK.lt hF;have Fu:True->IntKind.i64.wrap x=x:=λ_=>IntWalk.i64_in _ Y
 have KX:=GS.Dz G a 1;have gX:=GS.D6 G a 1;have hq:(op.toList==[])=I:=by
  rw[ByteArray.toList_eq,Jh];intro h';apply IV;have:J op.data.toList=0:=by rw[h'];rfl
  simpa using this
 have O9:=GS.Dz (G.Co a 1) b 2;have hl4:=GS.D6 (G.Co a 1) b 2;have Hop:=D IV;clear IV;refine CI.begin [] [(p,#[iI x,qA op,qB a.AX,iI a.v,qB b.AX,iI b.v],238)] Z h (AY.nil _ _) (hK.Po hF) Fo ha ?_;clear h Fo hK hF;intro v H;have ta0:=Yn;go_enter func104,ntmps104
 revert v H
 refine MW ?_;refine MK (PJ a 1) ?_;refine MA #[qB (GS.BD a 1).Dd,iI (GS.BD a 1).v] 264 ?_;intro q hq9;refine MR (sq [11] 0 12) 12 ?_;refine ME (PJ b 2) ?_;refine ML (gQ op 1 (GS.BD a 1) (GS.BD b 2)) ?_;intro v H
 intros
 refine(xR 1 H).mono ?_;clear H;rintro e v ⟨rfl,H⟩;have kf:=H.out.free;obtain⟨q1,q2,q3,q4,q5,q6,q7,q8,q9,q10⟩:=H.out.Tf;go_wp2_with (with_reducible refine Ur ?_);have hpq:p≠q:=Y
 obtain⟨v2,hv2⟩:∃z,z=(v.setCell ⟨q,0,Z⟩ (qB V)).setCell ⟨q,1,Z⟩ (iI 1):=⟨_,rfl⟩;have H2:=D ((H.out.r7 hq9.2 hpq 0 (qB V)).r7 hq9.2 hpq 1 (iI 1));rw[<-hv2] at H2⊢;clear kf q1 q2 q3 q4 q5 q6 q7 q8 q9 q10 hpq hv2 H
 revert v2 H2
 refine MR [(0,V),(1,V),(2,V),(3,V),(4,V),(5,V),(6,V),(8,V),(7,I),(9,I)] 9 ?_;refine ME (LH x) ?_;refine ML (rZ x (.r 1)) ?_;intro v H
 intros
 go_end0
 rw[show GS.Dh (.set x op a b .nil) G=GS.st (((G.Co a 1).Co b 2).IB op 1 (GS.BD a 1) (GS.BD b 2)) x (.r 1) by simp[GS.Dh,Hop.out]];exact H.out.Aja (by show(GS.st _ _ _).BM=_;rw[GS.iG,GS.cI,GS.LL,GS.LL]) (by simp only[Pw];omega) ha
def skR (sp:Option Addr) (sc k:Nat) (xs:List Value):List Ob:=[.row (m9 sp k sc) 1 1 k xs]
theorem CI.Ak0 (h:CI w g G O F P [] i v):CI w g G O F P (skR Z 0 0 []) i v:=
 let ⟨c,a,AV,h⟩:=h
 have s:=YS (o:=.row (m9 Z 0 0) 1 1 0 []) (show Aq v (MG.Ay {g with c:=c,a:=a,av:=AV} O) from h.st.Ak) (ownsRow_nil _ _ _ _) rfl
 ⟨c,a,AV,h.st.trans s,h.kf.step s,h.kp.step s,h.ab.step s rfl (Jf _),h.hb,h.al⟩
theorem CJ.LS {v':World} {c a:SG} {AV:List Value} {sp sq:Option Addr} {sc sd k l:Nat} {ys:List Value} (h:CJ w g G O c a AV F P (skR sp sc k xs) i v)
  (s:Ai v (MG.Ay {g with c:=c,a:=a,av:=AV} O++skR sp sc k xs) v' (MG.Ay {g with c:=c,a:=a,av:=AV} O++skR sq sd l ys)):CI w g G O F P (skR sq sd l ys) i v':=
 ⟨c,a,AV,h.st.trans s,h.kf.step s,h.kp.step s,h.ab.step s rfl (Jf _),h.hb,h.al⟩
theorem AaK {g k:Nat} {v:Value} (hrc:∀i,(hi:i<(xs++[v]).length)->w.cell? ⟨g,i,Z⟩=U (xs++[v])[i]) (h:J xs=k):w.cell? ⟨g,k,Z⟩=U v:=by
 subst h;rw[hrc (J xs) EQ];simp
theorem kH (w:World) (g:MG) (G:GS) (h:Aq w (g.Ay G)) (hn:J G.Ab<=999000) (ha:J g.av<=J G.Ab) (Fo:CF G.Ac) (B8:0<=G.cells/\G.cells<=6):
  Calls prog 156 #[iJ g.mb] w (StS (G.Ei) g G w):=by
 refine CI.begin [] [] (U V) h (AY.nil _ _) (AY.nil _ _) Fo ha ?_;clear h Fo;intro v H;go_enter func156,ntmps156
 revert v H
 refine MW ?_;refine MA #[iJ g.mb] 166 ?_;intro bx SJ;intro v H
 intros
 go_loopw [19] (λiv wr=>LR GS.P5 G.cells w g G G [] [(bx,#[iJ g.mb],166)] [] (U V) iv wr) (λiv _=>(G.cells:Int).toNat-(intOf iv).toNat);case atStart=>exact LR.start B8.1 H.out
 case round=>
  clear H;obtain⟨k,Gk,rfl,VE,hl,HG,HC,H⟩:=LR.open hrel GS.cZ (Ar.P5);clear hrel;by_cases hk:(k:Int)<G.cells
  .have Vh:J Gk.Ab<=999100:=Y
   have ax:k<=100:=Y
   obtain⟨z0,z1,z2,z3,z4,z5,z6,z7,y0,y1,y2,y3,zi⟩:=wrs k ax;clear hl
   revert wr H
   refine MW ?_;refine MZ (ir k 8 bx) ?_;intro bas bms bks;refine MK (xN (8+k)) ?_;refine MA #[qB I,iI (8+k),iI 0] 270 ?_;intro pl hpl;refine MK (zn 2 (8+k)) ?_;refine MK (zj 2) ?_;refine MR (sq [1,2] 0 3) 3 ?_;refine ME (xR 2) ?_;refine ME (xN 1) ?_;refine ML (gQ nOr 3 (.r 2) (.n 1)) ?_;refine MR (sq [2,3] 0 6) 6 ?_;refine ME (xR 2) ?_;refine ME (xR 3) ?_;refine ML (aC (.KL 3 (.n (8+k)) 0 (.r 2) (.r 3))) ?_;refine MK (eM 3) ?_;refine MR (sq [4,5] 0 6) 6 ?_;refine ME (LH (26+k)) ?_;refine ME (xN 1) ?_;refine ML (rZ (26+k) (.n 1)) ?_;refine MR (sq [4,5] 0 6) 6 ?_;refine ME (LH (32+k)) ?_;refine ME (xR 2) ?_;refine ML (rZ (32+(k:Int)) (.r 2)) ?_;refine MK (KV (.r 1) bas bms bks _) ?_;exact maB
  .have Pt:k=G.cells.toNat:=Y
   rw[Pt] at HG;have Vh:J Gk.Ab<=999100:=Y
   replace hk:=JJ hk;clear hl VE Pt;obtain⟨G1,hG1⟩:∃z,z=Gk:=⟨_,rfl⟩;rw[<-hG1] at HG HC H Vh;have HG1:=HG;have yI:=HC;clear hG1 HG HC;have ay:True->G1.cells=G.cells:=λ_=>yI.out.cells
   revert wr H
   refine MW ?_;refine MR (sq [1,3] 0 6) 6 ?_;refine ME (xN 16) ?_;refine ME (xN 1) ?_;refine ML (aC (.Em 5 (.n 16) 0 (.n 1))) ?_;refine MR (sq [1,2] 0 3) 3 ?_;refine ME (xR 5) ?_;refine ME (xN 1) ?_;refine ML (gQ KG 5 (.r 5) (.n 1)) ?_;refine MR (sq [1,2] 0 3) 3 ?_;refine ME (xR 5) ?_;refine ME (xN 1) ?_;have Wf:True->(GS.IB (GS.IB (GS.AQ G1 (.Em 5 (.n 16) 0 (.n 1))) KG 5 (.r 5) (.n 1)) US 5 (.r 5) (.n 1)).cells=G.cells:=ay;refine ML (gQ US 5 (.r 5) (.n 1)) ?_;obtain⟨G2,hG2⟩:∃z,z=GS.IB (GS.IB (GS.AQ G1 (.Em 5 (.n 16) 0 (.n 1))) KG 5 (.r 5) (.n 1)) US 5 (.r 5) (.n 1):=⟨_,rfl⟩;have AnP:J G2.Ab<=999110:=by rw[hG2];simp only[Pw];omega
   rw[<-hG2] at Wf⊢;have HG2:=D hG2;clear hG2;intro v H
   intros
   go_loopw [83] (λiv wr=>LR GS.P4 G.cells w g G G2 [] [(bx,#[iJ g.mb],166)] [] (U V) iv wr) (λiv _=>(G.cells:Int).toNat-(intOf iv).toNat);case atStart=>exact LR.start B8.1 H.out
   case round=>
    clear H;obtain⟨k,Gk,rfl,VE,hl,HG,HC,H⟩:=LR.open hrel GS.cY (Ar.P4);clear hrel;by_cases hk:(k:Int)<G.cells
    .have Vh:J Gk.Ab<=999200:=Y
     have ax:k<=100:=Y
     obtain⟨z0,z1,z2,z3,z4,z5,z6,z7,y0,y1,y2,y3,zi⟩:=wrs k ax;clear hl
     revert wr H
     refine MW ?_;refine MZ (ir k 20 bx) ?_;intro bas bms bks;refine MZ (ir k 26 bx) ?_;intro bam bmm bkm;refine MJJ r6 ?_;intro bmo bko;refine MK (KV (.r 1) bam bmm bkm _) ?_;refine MR (sq [3] 0 5) 5 ?_;refine ME (xN (8+k)) ?_;refine ML (zn 2 (8+k)) ?_;refine MK (zj 2) ?_;refine MK (zq bmo bko _) ?_;refine MK (KV (.r 1) bas bms bks _) ?_;exact maB
    .have Pt:k=G.cells.toNat:=Y
     rw[Pt] at HG;have Vh:J Gk.Ab<=999200:=Y
     replace hk:=JJ hk;clear hl VE Pt;obtain⟨G3,hG3⟩:∃z,z=Gk:=⟨_,rfl⟩;rw[<-hG3] at HG HC H Vh;have HG3:=HG;have Anh:=HC;clear hG3 HG HC;have xx:True->G3.cells=G.cells:=λ_=>Anh.out.cells.trans (Wf trivial)
     revert wr H
     refine MW ?_;intro v H
     intros
     go_loopw [113,2] (λiv s wr=>∃(k:Nat) (sp:Option Addr) (sc:Nat) (xs:List Value),iv= iI k/\s= m9 sp k sc/\(k:Int)<=G.cells/\CI w g G (GS.Oo GS.YM k G3) [] [(bx,#[iJ g.mb],166)] (skR sp sc k xs) (U V) wr) (λi _ _=>G.cells.toNat-(intOf i).toNat);case atStart=>exact⟨0,Z,0,[],rfl,rfl,B8.1,H.Ak0⟩
     case round=>
      clear H;obtain⟨k,sp,sc,xs,rfl,rfl,VE,hI⟩:=hrel;obtain⟨k1,Gk,GJ,Amn,hl,HG,HC,H⟩:=LR.open (⟨k,rfl,VE,hI⟩) GS.kh Ar.YM;obtain rfl:k=k1:=by simp at GJ;omega
      clear hI Amn GJ;by_cases hk:(k:Int)<G.cells
      .have Vh:J Gk.Ab<=999230:=Y
       have ax:k<=100:=Y
       obtain⟨z0,z1,z2,z3,z4,z5,z6,z7,y0,y1,y2,y3,zi⟩:=wrs k ax;obtain⟨j0,hj,Lc,Lb,Mm⟩:=info_parts ti;have Aia:k+1<=maxLen:=by unfold maxLen;omega
       have Ah9:(k+1)*8<=140737488355328:=Y
       clear hl
       revert wr H
       refine MW ?_;intro v H
       intros
       refine(ir k 8 bx H).mono ?_;clear H;rintro e v ⟨ba,bm,bk,rfl,H⟩;obtain⟨c,a,AV,HJ⟩:=H.out;have hg:=D HJ;obtain⟨q1,q2,q3,q4,q5,q6,q7,q8,q9⟩:=H.Tf;clear HJ;go_wp2_with (first|(with_reducible refine Ur ?_)|(at_builtin;refine Bm 8 _ _ _ j0 _ #[.func (.func 154) #[] #[iJ ba,iJ bm,iJ bk]] _ hg.st.Ak (k:=3) rfl Eq Eq underlying167 hj Lc Lb Mm rfl j6 Eq Eq rfl (by simp[Value.oneCell']) Aia Ah9 ?_;intro g6 AL w6 Aw hx9;clear hx9;rw[Nh] at Aw;have GK:=D Aw;clear Aw q1 q2 q3 q4 q5 q6 q7 q8 q9));replace H:=D (hg.LS GK);clear GK hg j0 hj Lc Lb Mm
       revert w6 H
       refine MR (sq [4] 0 5) 5 ?_;refine ME (LH (14+k)) ?_;refine ML (xlo 2 (14+k)) ?_;refine MR (sq [2,4] 0 5) 5 ?_;refine ME (xN k) ?_;refine ME (xR 2) ?_;intro v H
       intros
       refine AI rfl (λzK hK=>?_);go_simp;refine(zh k (.r 2) H).mono ?_;clear H;rintro e v ⟨rfl,H⟩;obtain⟨c2,a2,AV2,HJ⟩:=H.out;have hrw:=HJ.st.Ak.row (i:=3) rfl;obtain⟨hrc,hrf,GG⟩:=A4 hrw;have hrk:=AaK hrc (by simpa using hrw.1);clear hrw hrc HJ;refine hK _ _ (λh=>Jk rfl h) ?_;clear hK zK;simp only[BN];go_wp2_with (with_reducible refine Ur ?_);clear hrk hrf GG
       revert v H
       refine MK (KV (.r 1) ba bm bk _) ?_;intro v H;go_roundw;case rel=>exact⟨k+1,_,_,_,rfl,rfl,Y,by rw[GS.Oo,<-HG.out];exact H.sub EQ EQ⟩
       case measure=>simp[intOf];omega
      .have Pt:k=G.cells.toNat:=Y
       rw[Pt] at HG;have Vh:J Gk.Ab<=999230:=Y
       replace hk:=JJ hk;clear hl VE Pt;obtain⟨G4,hG4⟩:∃z,z=Gk:=⟨_,rfl⟩;rw[<-hG4] at HG HC H Vh;have HG4:=HG;have ZA:True->G4.cells=G.cells:=λ_=>HC.out.cells.trans (xx trivial)
       clear hG4 HG HC;replace H:=D H.AkP
       revert wr H
       refine MW ?_;intro v H
       intros
       go_loopw [144] (λiv wr=>LR GS.Rx G.cells w g G G4 [] [(bx,#[iJ g.mb],166)] [] (U V) iv wr) (λiv _=>(G.cells:Int).toNat-(intOf iv).toNat);case atStart=>exact LR.start B8.1 H.out
       case round=>
        clear H;obtain⟨k,Gk,rfl,VE,hl,HG,HC,H⟩:=LR.open hrel GS.dD (Ar.Rx);clear hrel;by_cases hk:(k:Int)<G.cells
        .have Vh:J Gk.Ab<=999260:=Y
         have ax:k<=100:=Y
         obtain⟨z0,z1,z2,z3,z4,z5,z6,z7,y0,y1,y2,y3,zi⟩:=wrs k ax;clear hl
         revert wr H
         refine MW ?_;refine MZ (ir k 8 bx) ?_;intro bas bms bks;refine MR (sq [3,5] 0 6) 6 ?_;refine ME (xN (8+k)) ?_;refine ME (xR 5) ?_;refine ML (zh (8+(k:Int)) (.r 5)) ?_;refine MK (KV (.r 1) bas bms bks _) ?_;exact maB
        .have Pt:k=G.cells.toNat:=Y
         rw[Pt] at HG;have Vh:J Gk.Ab<=999260:=Y
         replace hk:=JJ hk;clear hl VE Pt;obtain⟨G5,tL⟩:∃z,z=Gk:=⟨_,rfl⟩;rw[<-tL] at HG HC H Vh;have HG5:=HG;clear tL HG HC
         revert wr H
         refine MW ?_;intro v H
         intros
         go_end0
         have e:G.Ei=G5:=by rw[HG5.out,HG4.out,HG3.out,HG2.out,HG1.out];rfl
         rw[e];exact H.Dh
def GS.Ao (g:GS) (b:Bool):GS:={g with block:=b}
def GS.enter (g:GS):GS:={g with block:=V,BM:=[]}
theorem Ai.enter (h:Aq w (g.Ay G)):Ai w (g.Ay G) ((w.setCell ⟨g.mb,3,Z⟩ (qB V)).setCell ⟨g.mb,4,Z⟩ (m9 Z 0 0)) (MG.Ay {g with a:=⟨Z,0⟩,av:=[]} G.enter):=by
 have s1:=h.set (i:=0) rfl 3 (qB V);have s2:=s1.Ak.set (i:=0) rfl 4 (m9 Z 0 0);have s3:=s2.Ak.swap (i:=2) (o':=.row (m9 Z 0 0) 1 1 0 []) rfl (Az.refl _ _) (ownsRow_nil _ _ _ _) (by simp[Ob.fp,Value.ownBlock]) (by intro b hb;simp[Ob.fp,Value.ownBlock] at hb);exact(s1.trans s2).trans s3
theorem Ai.Ao (h:Aq w (g.Ay G)) (b:Bool):Ai w (g.Ay G) (w.setCell ⟨g.mb,3,Z⟩ (qB b)) (MG.Ay g (G.Ao b)):=h.set (i:=0) rfl 3 (qB b)
theorem rY.len (h:rY F mb vs ls):J vs=J ls:=by
 induction h with
 |nil=>rfl
 |cons _ _ ih=>simp[ih]
theorem rY.AN (h:rY F mb vs ls):∀(k:Nat) (hv:k<J vs) (hl:k<J ls),WB F vs[k] mb ls[k]:=by
 induction h with
 |nil=>intro k hv;simp at hv
 |cons a _ ih=>
  intro k hv hl;cases k with
  |zero=>exact a
  |succ k=>exact ih k (by simpa using hv) (by simpa using hl)
theorem Zy (l:List Ii) (g:GS) (k:Nat) (hk:k<J l):(l.take (k+1)).foldl GS.Ba g=((l.take k).foldl GS.Ba g).Ba l[k]:=by
 exact mbr
theorem eu (b:Bj) (cells:Int) (G G1 G2 G4 G5:GS) (h1:G1=GS.Oo GS.O6 4 G) (h2:G2=GS.Oo GS.Kj cells.toNat G1) (hc:G1.cells=cells) (h4:G4=GS.Dh b (GS.enter (GS.st (GS.Pq (GS.st G2 39 (.n 0)) 1 16) 38 (.r 1))))
  (h5:G5=if BU b then GS.Ei (GS.Ao G4 I) else GS.Ao G4 I):
  GS.Dh (.atomic b .nil) G=GS.Ba (GS.Gb ((GS.Gf G5).BM.foldl GS.Ba (GS.CW (GS.Gf G5))) (J G1.Ab)) ⟨(GS.Ab (GS.Gf G5)).length,Z⟩:=by
 have e1:GS.BT G=G1:=h1.symm;have e2:GS.T7 G1=GS.enter (GS.st (GS.Pq (GS.st G2 39 (.n 0)) 1 16) 38 (.r 1)):=by
  unfold GS.T7;rw[hc];rw[<-h2];rfl
 show GS.Pz (GS.Dh b (GS.T7 (GS.BT G))) (GS.BT G).Ab.length (BU b)=_;rw[e1,e2,<-h4];unfold GS.Pz;subst h5;rfl
section
variable {w v:World} {g:MG} {G O:GS} {F:List (Nat×Obj)} {P:List QB} {R:List Ob} {i:Option Bool}
theorem CI.Ao (b:Bool) (h:CI w g G O F P [] i v):∃v2,v2=v.setCell ⟨g.mb,3,Z⟩ (qB b)/\Hid (CI w g G (O.Ao b) F P [] i v2):=by
 obtain⟨c,a,AV,h⟩:=h;exact⟨_,rfl,c,a,AV,h.step (Ai.Ao h.st.Ak b) rfl rfl (Jf _)⟩
theorem CI.enter (h:CI w g G O F P [] i v):∃v2 c1,v2=(v.setCell ⟨g.mb,3,Z⟩ (qB V)).setCell ⟨g.mb,4,Z⟩ (m9 Z 0 0)/\Hid (Ai w (g.Ay G) v2 (MG.Ay ⟨g.mb,c1,⟨Z,0⟩,[]⟩ O.enter))/\Hid (CI v2 ⟨g.mb,c1,⟨Z,0⟩,[]⟩ O.enter O.enter F P [] (U V) v2):=by
 obtain⟨c,a,AV,h⟩:=h;have s:=Ai.enter h.st.Ak;exact⟨_,c,rfl,h.st.trans s,_,_,_,Ai.refl s.Ak,h.kf.step s,h.kp.step s,.start,h.hb,Jr _⟩
end
theorem CI.AkK {R:List Ob} (h:CI w g G O F P R i v):∃x,v.cell? ⟨g.mb,4,Z⟩=U x:=by
 obtain⟨c,a,AV,h⟩:=h;have m:=Dl (Ai.AJ h.st.Ak).Ak;exact⟨_,m.c 4⟩
theorem zo (bm bk k:Nat)⦃w v:World⦄⦃g:MG⦄⦃G O:GS⦄⦃F:List (Nat×Obj)⦄⦃P:List QB⦄⦃R:List Ob⦄⦃i:Option Bool⦄(H:Hid (CI w g G O F P R i v)) (h1:F6 bk k∈F:=by simp) (h3:F5 bm g.mb∈F:=by simp) (hn:J O.Ab<=1000000:=by omega) (hk:k<J O.Ab:=by omega):
  Calls prog 174 #[iJ bm,iJ bk] v (λe v'=>e= qF (qC #[])/\Hid (CI w g G (O.Ba ⟨k,Z⟩) F P R i v')):=zq bm bk k H h1 h3 hn hk
theorem AdM⦃w v:World⦄⦃g:MG⦄⦃G O:GS⦄⦃F:List (Nat×Obj)⦄⦃P:List QB⦄⦃i:Bool⦄(H:Hid (CI w g G O F P [] (U i) v)) (hn:J O.Ab<=999000) (B8:0<=O.cells/\O.cells<=6):
  Calls prog 156 #[iJ g.mb] v (λe v'=>e= qF (qC #[])/\Hid (CI w g G O.Ei F P [] (U i) v')):=
 CI.ab H (Ar.Ei (Ar.refl O)).Ac λc1 a1 A1 h hb ha=>kH v {g with c:=c1,a:=a1,av:=A1} O h hn ha hb B8
theorem Af4⦃w v:World⦄⦃g:MG⦄⦃G O:GS⦄⦃F:List (Nat×Obj)⦄⦃P:List QB⦄⦃R:List Ob⦄⦃i:Option Bool⦄(H:Hid (CI w g G O F P R i v)) (hn:J O.Ab<=999900:=by (try simp only[Pw]);omega):
  Calls prog 157 #[iJ g.mb] v (λe v'=>e= qF (qC #[])/\Hid (CI w g G O.Gf F P R i v')):=
 CI.mk H (by unfold GS.Gf;simp only[GS.IB,GS.lo,GS.SE,GS.CG,GS.Ba,GS.AQ]) (Ar.Gf (Ar.refl O)).Ac (N2 (GS.PK _)) λc1 a1 A1 h hb ha=>oH v {g with c:=c1,a:=a1,av:=A1} O h hn ha hb
theorem GS.AfP (g:GS) (C5:Nat):(g.Gb C5).BM=g.BM:=by
 have h1:∀n (x:GS),(GS.Oo GS.Pe n x).BM=x.BM:=λn x=>by
  induction n with
  |zero=>rfl
  |succ n ih=>exact ih
 have h2:∀n (x:GS),(GS.Oo GS.O8 n x).BM=x.BM:=λn x=>by
  induction n with
  |zero=>rfl
  |succ n ih=>exact ih
 unfold GS.Gb;exact(h2 _ _).trans (h1 _ _)
theorem Af6 (C5:Nat)⦃w v:World⦄⦃g:MG⦄⦃G O:GS⦄⦃F:List (Nat×Obj)⦄⦃P:List QB⦄⦃R:List Ob⦄⦃i:Option Bool⦄(H:Hid (CI w g G O F P R i v)) (hn:J O.Ab<=999000) (B8:0<=O.cells/\O.cells<=100):
  Calls prog 158 #[iJ g.mb,iI (C5:Int)] v (λe v'=>e= qF (qC #[])/\Hid (CI w g G (O.Gb C5) F P R i v')):=
 CI.mk H (GS.AfP _ _) (Ar.Gb (Ar.refl O) _).Ac (by rw[GS.RH];omega) λc1 a1 A1 h hb ha=>oQ C5 v {g with c:=c1,a:=a1,av:=A1} O h hn ha hb B8
theorem kI (cells:Int) (b:Bj) (sp:Option Addr) (sn sc:Nat) (ws:List Value) (F:List (Nat×Obj)) (p:Nat) (w:World) (g:MG) (G:GS) (h:Aq w (g.Ay G)) (hK:AY w (g.Ay G) F) (hF:(p,qG #[m9 sp sn sc] 255 (0,0))∈F) (hn:J G.Ab+296+Ce b<=998000) (ha:J g.av<=J G.Ab) (Fo:CF G.Ac)
  (d:Nat) (B8:0<=cells/\cells<=6) (Fb:G.block=I) (PG:G.cells=cells) (Xv:0<=G.Af/\G.Af<=(d:Int)) (hd:d<3) (Vb:WF cells b (d+1) V) (ih:RN F cells V (Ft b)) (h3:Ew F (m9 sp sn sc) ws) (Gp:Ft b<=1000) (h4:D8 F b ws):
  Calls prog 142 #[iJ g.mb,iJ p] w (AdF (GS.Dh (.atomic b .nil) G) g G w):=by
 have hpm:=hK.UP hF;have IH:=D ih;have H3:=D h3;have H4:=D h4;have Hwb:=D Vb;refine CI.begin F [(p,#[m9 sp sn sc],255)] (U I) h hK (hK.Po hF) Fo ha ?_;clear h Fo hK hF ih h3 h4 Vb ha;intro v H;go_enter func142,ntmps142
 revert v H
 refine MW ?_;intro v H
 intros
 go_loopw [10] (λiv wr=>LR GS.O6 4 w g G G F [(p,#[m9 sp sn sc],255)] [] (U I) iv wr) (λiv _=>(4:Int).toNat-(intOf iv).toNat);case atStart=>exact LR.start Do H.out
 case round=>
  clear H;obtain⟨k,Gk,rfl,VE,hl,HG,HC,H⟩:=LR.open hrel GS.cq (Ar.O6);clear hrel;by_cases hk:(k:Int)<4
  .have Vh:J Gk.Ab+Ce b<=997712:=Y
   clear hl
   revert wr H
   refine MW ?_;refine MK (LH k) ?_;refine MK (xlo 1 k) ?_;refine MK (LH (4+k)) ?_;refine MK (xR 1) ?_;refine MK (rZ (4+k) (.r 1)) ?_;exact maB
  .have Pt:k=(4:Int).toNat:=Y
   rw[Pt] at HG;have Vh:J Gk.Ab+Ce b<=997712:=Y
   replace hk:=JJ hk;clear hl VE Pt;obtain⟨G1,hG1⟩:∃z,z=Gk:=⟨_,rfl⟩;rw[<-hG1] at HG HC H Vh;have HG1:=HG;have yI:=HC;clear hG1 HG HC;have ay:True->G1.cells=cells:=λ_=>yI.out.cells.trans PG
   revert wr H
   refine MWL ?_;intro cc;intro v H
   intros
   go_loopw [36] (λiv wr=>LR GS.Kj cells w g G G1 F [(p,#[m9 sp sn sc],255)] [] (U I) iv wr) (λiv _=>(cells:Int).toNat-(intOf iv).toNat);case atStart=>exact LR.start B8.1 H.out
   case round=>
    clear H;obtain⟨k,Gk,rfl,VE,hl,HG,HC,H⟩:=LR.open hrel GS.ZU (Ar.Kj);clear hrel;by_cases hk:(k:Int)<cells
    .have Vh:J Gk.Ab+Ce b<=997730:=Y
     have ax:k<=100:=Y
     obtain⟨z0,z1,z2,z3,z4,z5,z6,z7,y0,y1,y2,y3,zi⟩:=wrs k ax;clear hl
     revert wr H
     refine MW ?_;refine MK (LH (8+k)) ?_;refine MK (xN 0) ?_;refine MK (rZ (8+k) (.n 0)) ?_;refine MK (LH (20+k)) ?_;refine MK (xN 0) ?_;refine MK (rZ (20+k) (.n 0)) ?_;refine MK (LH (26+k)) ?_;refine MK (xN 0) ?_;refine MK (rZ (26+k) (.n 0)) ?_;exact maB
    .have Pt:k=cells.toNat:=Y
     rw[Pt] at HG;have Vh:J Gk.Ab+Ce b<=997730:=Y
     replace hk:=JJ hk;clear hl VE Pt;obtain⟨G2,hG2⟩:∃z,z=Gk:=⟨_,rfl⟩;rw[<-hG2] at HG HC H Vh;have HG2:=HG;have Alu:=HC;clear hG2 HG HC;have Wf:True->G2.cells=cells:=λ_=>Alu.out.cells.trans (ay trivial)
     revert wr H
     refine MW ?_;refine MK (LH 39) ?_;refine MK (xN 0) ?_;refine MK (rZ 39 (.n 0)) ?_;refine MK (xN 16) ?_;refine MK (zn 1 16) ?_;refine MK (LH 38) ?_;refine MK (xR 1) ?_;intro v H
     intros
     refine(rZ 38 (.r 1) H).mono ?_;clear H;rintro e v ⟨rfl,H⟩;obtain⟨q1,q2,q3,q4,q5,q6,q7,q8,_⟩:=H.Tf;obtain⟨x4,q10⟩:=H.AkK;go_wp2_with fail;clear q1 q2 q3 q4 q5 q6 q7 q8 q10;obtain⟨v2,c1,hv2,S3,H3'⟩:=H.enter;rw[<-hv2];obtain⟨G3,hG3⟩:∃z,z=((G2.st 39 (.n 0)).Pq 1 16).st 38 (.r 1):=⟨_,rfl⟩;have xx:G3.cells=cells:=by rw[hG3];exact Wf trivial
     have gX:J G3.Ab+Ce b<=997740:=by rw[hG3];simp only[Pw];omega
     have yT:0<=G3.Af/\G3.Af<=((d+1:Nat)):=by
      have:G3.Af=G.Af:=by rw[hG3];exact Alu.out.Af.trans yI.out.Af
      rw[this];omega
     rw[<-hG3] at S3 H3';have HG3:=D hG3;clear H hv2 hG3;obtain⟨v0,hv0⟩:∃z,z=v2:=⟨_,rfl⟩;rw[show CI v2 ⟨g.mb,c1,⟨Z,0⟩,[]⟩ (GS.enter G3) (GS.enter G3) F [(p,#[m9 sp sn sc],255)] [] (U V) v2=CI v0 ⟨g.mb,c1,⟨Z,0⟩,[]⟩ (GS.enter G3) (GS.enter G3) F [(p,#[m9 sp sn sc],255)] [] (U V) v2 by rw[hv0]] at H3';rw[<-hv0] at S3;clear hv0
     revert v2 H3'
     obtain⟨L6,TO,hhi⟩:=RY cells b B8 (d+1) V (GS.enter G3) Hwb rfl xx;have hhi:(GS.Dh b (GS.enter G3)).Ab.length<=J G3.Ab+Ce b:=hhi;refine MK (ns (G0:=GS.enter G3) IH H3 H4 Hwb Y rfl xx yT (by show J G3.Ab+_<=_;omega) L6.Ac) ?_;obtain⟨G4,hG4⟩:∃z,z=GS.Dh b (GS.enter G3):=⟨_,rfl⟩;have ZA:G4.cells=cells:=by rw[hG4];exact L6.cells.trans xx
     rw[<-hG4] at hhi⊢;have hl4:J G4.Ab<=997740:=Y
     have HG4:=D hG4;clear hG4 L6 TO hhi gX yT;intro v H
     intros
     obtain⟨v2,hv2,H2⟩:=H.Ao I;rw[<-hv2];clear H hv2;obtain⟨_,_,_,hq2⟩:=H2.out;refine(show Calls prog _ _ v2 (λe w'=>e= qF (qB (BU b))/\Hid (CI v0 ⟨g.mb,c1,⟨Z,0⟩,[]⟩ (GS.enter G3) (G4.Ao I) F [(p,#[m9 sp sn sc],255)] [] (U V) w')) from(AaV F _ _ hq2.kf 1000 (Jf _) b (m9 sp sn sc) ws Gp H3 H4).mono (by rintro e w1 ⟨rfl,rfl⟩;exact⟨rfl,H2⟩)).mono ?_;clear H2 hq2;rintro e v ⟨rfl,H⟩;cases S8:BU b with
     |true=>
      revert v H
      refine MW ?_;refine MK (fun⦃w v g G F P i⦄(H:Hid (CI w g G (GS.Ao G4 I) F P [] (U i) v))=>AdM H (by show J G4.Ab<=_;omega) (by rw[show(GS.Ao G4 I).cells=cells from ZA];exact B8)) ?_;obtain⟨G5,tL⟩:∃z,z=GS.Ei (GS.Ao G4 I):=⟨_,rfl⟩;have hl5:J G5.Ab<=997980:=by rw[tL,GS.F7];show J G4.Ab+(GS.cells G4).toNat*37+3<=_;rw[ZA];omega
      have hc5:G5.cells=cells:=by rw[tL];exact(Ar.Ei (Ar.refl _)).cells.trans ZA
      have HG5:=D (show G5=if BU b then GS.Ei (GS.Ao G4 I) else GS.Ao G4 I by rw[S8,tL];rfl);rw[<-tL];clear tL ZA S8;refine MK Af4 ?_;obtain⟨G6,hG6⟩:∃z,z=GS.Gf G5:=⟨_,rfl⟩;have hl6:J G6.Ab<=997990:=by rw[hG6,GS.PK];omega
      have lF:G6.cells=cells:=by rw[hG6];exact(Ar.Gf (Ar.refl G5)).cells.trans hc5
      rw[<-hG6];have HG6:=D hG6;clear hG6 hl5 hc5;intro v H
      intros
      refine(r6 H Y).mono ?_;clear H;rintro e v ⟨bm,bk,rfl,H⟩;obtain⟨c,⟨ap,ac⟩,AV,HJ⟩:=H.out;clear H;obtain⟨vs,ls,E,e1,e2,kE,an,_⟩:=HJ.ab rfl;obtain rfl:AV=vs:=e1;have Vj:G6.BM=ls:=e2;obtain⟨hc,hf,hlt⟩:=Dl (show Aq v (MG.Ay {g with c:=c,a:=⟨ap,ac⟩,av:=AV} G6.CW) from HJ.st.Ak);have PE:=D an.all;have PH:=D an.lt;have Hab:=D Vj;have HQ:=D (show CJ v0 ⟨g.mb,c1,⟨Z,0⟩,[]⟩ (GS.enter G3) ([].foldl GS.Ba G6.CW) c ⟨ap,ac⟩ AV (E++(F6 bk (J G6.Ab)::F5 bm g.mb::F)) [(p,#[m9 sp sn sc],255)] [] (U V) v from⟨HJ.st,HJ.kf.fP kE,HJ.kp,HJ.ab,HJ.hb,HJ.al⟩);have xz:J AV<=998000:=by have:=HJ.al;rw[GS.FC] at this;omega
      clear HJ kE an e2 Vj;dsimp only at hc hf hlt;go_wp2;clear hc hf hlt;go_loopw [106] (λi wr=>∃(k:Nat) (c:SG),i= iI k/\k<=J AV/\CJ v0 ⟨g.mb,c1,⟨Z,0⟩,[]⟩ (GS.enter G3) ((ls.take k).foldl GS.Ba G6.CW) c ⟨ap,ac⟩ AV (E++(F6 bk (J G6.Ab)::F5 bm g.mb::F)) [(p,#[m9 sp sn sc],255)] [] (U V) wr) (λi _=>J AV-(intOf i).toNat);case atStart=>exact⟨0,_,rfl,Jr _,HQ⟩
      case round=>
       exact maf
     |false=>
      revert v H
      refine MW ?_;obtain⟨G5,tL⟩:∃z,z=GS.Ao G4 I:=⟨_,rfl⟩;have hl5:J G5.Ab<=997980:=by rw[tL];show J G4.Ab<=_;omega
      have hc5:G5.cells=cells:=by rw[tL];exact ZA
      have HG5:=D (show G5=if BU b then GS.Ei (GS.Ao G4 I) else GS.Ao G4 I by rw[S8,tL];rfl);rw[<-tL];clear tL ZA S8;refine MK Af4 ?_;obtain⟨G6,hG6⟩:∃z,z=GS.Gf G5:=⟨_,rfl⟩;have hl6:J G6.Ab<=997990:=by rw[hG6,GS.PK];omega
      have lF:G6.cells=cells:=by rw[hG6];exact(Ar.Gf (Ar.refl G5)).cells.trans hc5
      rw[<-hG6];have HG6:=D hG6;clear hG6 hl5 hc5;intro v H
      intros
      refine(r6 H Y).mono ?_;clear H;rintro e v ⟨bm,bk,rfl,H⟩;obtain⟨c,⟨ap,ac⟩,AV,HJ⟩:=H.out;clear H;obtain⟨vs,ls,E,e1,e2,kE,an,_⟩:=HJ.ab rfl;obtain rfl:AV=vs:=e1;have Vj:G6.BM=ls:=e2;obtain⟨hc,hf,hlt⟩:=Dl (show Aq v (MG.Ay {g with c:=c,a:=⟨ap,ac⟩,av:=AV} G6.CW) from HJ.st.Ak);have PE:=D an.all;have PH:=D an.lt;have Hab:=D Vj;have HQ:=D (show CJ v0 ⟨g.mb,c1,⟨Z,0⟩,[]⟩ (GS.enter G3) ([].foldl GS.Ba G6.CW) c ⟨ap,ac⟩ AV (E++(F6 bk (J G6.Ab)::F5 bm g.mb::F)) [(p,#[m9 sp sn sc],255)] [] (U V) v from⟨HJ.st,HJ.kf.fP kE,HJ.kp,HJ.ab,HJ.hb,HJ.al⟩);have xz:J AV<=998000:=by have:=HJ.al;rw[GS.FC] at this;omega
      clear HJ kE an e2 Vj;dsimp only at hc hf hlt;go_wp2;clear hc hf hlt;go_loopw [106] (λi wr=>∃(k:Nat) (c:SG),i= iI k/\k<=J AV/\CJ v0 ⟨g.mb,c1,⟨Z,0⟩,[]⟩ (GS.enter G3) ((ls.take k).foldl GS.Ba G6.CW) c ⟨ap,ac⟩ AV (E++(F6 bk (J G6.Ab)::F5 bm g.mb::F)) [(p,#[m9 sp sn sc],255)] [] (U V) wr) (λi _=>J AV-(intOf i).toNat);case atStart=>exact⟨0,_,rfl,Jr _,HQ⟩
      case round=>
       exact maf
def VA (F:List (Nat×Obj)) (cells:Int):Prop:=
 ∀(b:Bj) (sp:Option Addr) (sn sc:Nat) (ws:List Value) (p:Nat) (w:World) (g:MG) (G:GS) (d:Nat),Aq w (g.Ay G)->AY w (g.Ay G) F->(p,qG #[m9 sp sn sc] 255 (0,0))∈F->
  J G.Ab+296+Ce b<=998000->J g.av<=J G.Ab->CF G.Ac->G.block=I->G.cells=cells->(0<=G.Af/\G.Af<=(d:Int))->d<3->WF cells b (d+1) V->RN F cells V (Ft b)->Ft b<=1000->
  Ew F (m9 sp sn sc) ws->D8 F b ws->Calls prog 142 #[iJ g.mb,iJ p] w (AdF (GS.Dh (.atomic b .nil) G) g G w)
theorem AgZ (t:Bj) (G:GS):GS.Dh t G=GS.Dh (tlS t) (GS.Dh (nh t) G):=by
 cases t<;>rfl
theorem AfD (t:Bj):Ce t=Ce (nh t)+Ce (tlS t):=by
 cases t<;>simp[Ce,nh,tlS]
theorem Ai6 (t:Bj):Ft (tlS t)<=Ft t:=by
 cases t<;>simp[Ft,tlS]
theorem AgB {t:Bj} {i:Bool} (h:WF cells t d i):WF cells (nh t) d i/\WF cells (tlS t) d i:=by
 cases t with
 |nil=>exact⟨trivial,trivial⟩
 |set v op a b r=>exact⟨⟨h.1,h.2.1,h.2.2.1,h.2.2.2.1,trivial⟩,h.2.2.2.2⟩
 |get v f s a r=>exact⟨⟨h.1,h.2.1,h.2.2.1,h.2.2.2.1,trivial⟩,h.2.2.2.2⟩
 |put f s a b r=>exact⟨⟨h.1,h.2.1,h.2.2.1,h.2.2.2.1,trivial⟩,h.2.2.2.2⟩
 |out a r=>exact⟨⟨h.1,trivial⟩,h.2⟩
 |atomic b r=>exact⟨⟨h.1,h.2.1,h.2.2.1,trivial⟩,h.2.2.2⟩
 |Es a b r=>exact⟨⟨h.1,h.2.1,h.2.2.1,trivial⟩,h.2.2.2⟩
 |loop n b r=>exact⟨⟨h.1,h.2.1,h.2.2.1,trivial⟩,h.2.2.2⟩
theorem oJ (F:List (Nat×Obj)) (cells:Int) (hA:VA F cells) (b:Bj) (sp:Option Addr) (sn sc:Nat) (ws:List Value) (p:Nat) (w:World) (g:MG) (G:GS) (d:Nat) (h:Aq w (g.Ay G)) (hK:AY w (g.Ay G) F) (hF:(p,qG #[m9 sp sn sc] 255 (0,0))∈F)
  (hn:J G.Ab+296+Ce b<=998000) (ha:J g.av<=J G.Ab) (hb:CF G.Ac) (Fb:G.block=I) (PG:G.cells=cells) (Xv:0<=G.Af/\G.Af<=(d:Int)) (hd:d<3) (Vb:WF cells b (d+1) V) (ih:RN F cells V (Ft b)) (hz:Ft b<=1000)
  (h3:Ew F (m9 sp sn sc) ws) (h4:D8 F b ws):
  Calls prog 104 #[iJ g.mb,.iface 253 (iJ p)] w (AdF (GS.Dh (.atomic b .nil) G) g G w):=by
 have HC:=D (hA b sp sn sc ws p w g G d h hK hF hn ha hb Fb PG Xv hd Vb ih hz h3 h4);clear h hK hF hn ha hb Fb PG Xv hd Vb ih h3 h4 hA;have ta0:=aG;have ta1:=aH;have ta2:=SU;have ta3:=SV;have ta4:=Oz;have ta5:=LO;have ta6:=NB;go_enter func104,ntmps104;go_wp2_with fail;refine HC.mono ?_;rintro e w1 ⟨rfl,c,a,av,st,ZB⟩;have S:=D st;have yZ:=D ZB;clear st ZB;go_wp2_with fail
 go_end0
 exact⟨rfl,c,a,av,S,yZ⟩
theorem vR (F:List (Nat×Obj)) (cells:Int) (B8:0<=cells/\cells<=6) (hA:VA F cells) (BY:Bool) (n:Nat) (hn9:n<=1000) (ihn:∀m,m<n->∀i,RN F cells i m) (t:Bj) (v:Value) (us:List Value) (d:Nat) (w:World) (g:MG) (G:GS) (Gp:Ft t<=n) (hs:D8 F t (v::us)) (hw:WF cells t d BY) (hd:d<=3)
  (h:Aq w (g.Ay G)) (hK:AY w (g.Ay G) F) (Fb:G.block=BY) (PG:G.cells=cells) (Xv:0<=G.Af/\G.Af<=(d:Int)) (hb:CF G.Ac) (hn:J G.Ab+Ce (nh t)<=998000) (ha:J g.av<=J G.Ab):
  Calls prog 104 #[iJ g.mb,v] w (rK BY (GS.Dh (nh t) G) g G w):=by
 cases t with
 |nil=>cases hs
 |set x op a b r=>
  obtain⟨p,q,h1,h2,_⟩:=hs;cases h1;simp only[Ce,nh] at hn;by_cases IV:op.size=0
  .exact Abn BY x op a b F p w g G h hK h2 Y ha hb hw.1 hw.2.2.1 hw.2.2.2.1 IV
  .exact Abm BY x op a b F p w g G h hK h2 Y ha hb hw.1 hw.2.2.1 hw.2.2.2.1 IV
 |get x f s a r=>
  obtain⟨p,q,h1,h2,_⟩:=hs;cases h1;simp only[Ce,nh] at hn;exact AeH BY x f s a F p w g G h hK h2 Y ha hb hw.2.2.1 hw.1
 |put f s i a r=>
  obtain⟨p,q,h1,h2,_⟩:=hs;cases h1;simp only[Ce,nh] at hn;exact AeG BY f s i a F p w g G h hK h2 Y ha hb hw.2.1 hw.2.2.1
 |out a r=>
  obtain⟨p,q,h1,h2,_⟩:=hs;cases h1;simp only[Ce,nh] at hn;cases BY with
  |false=>exact Abp a F p w g G h hK h2 Y ha hb hw.1 Fb
  |true=>exact Abo a F p w g G h hK h2 Y ha hb hw.1 Fb
 |atomic b r=>
  obtain⟨p,q,sl,ws,h1,h2,h3,h4,_⟩:=hs;cases h1;simp only[Ce,nh] at hn;simp only[Ft] at Gp;have hi:BY=I:=hw.1;subst hi;obtain⟨sp,sc,rfl⟩:=h3.L9;exact oJ F cells hA b sp _ sc ws p w g G d h hK h2 Y ha hb Fb PG Xv hw.2.1 hw.2.2.1 (ihn _ Y V) Y h3 h4
 |Es a b r=>
  obtain⟨p,q,sl,ws,h1,h2,h3,h4,_⟩:=hs;cases h1;simp only[Ce,nh] at hn;simp only[Ft] at Gp;obtain⟨sp,sc,rfl⟩:=h3.L9;exact AhA BY cells a b sp _ sc ws F p w g G h hK h2 Y ha hb hw.1 d B8 Fb PG Xv hw.2.1 hw.2.2.1 Y (ihn _ Y BY) h3 h4
 |loop m b r=>
  obtain⟨p,q,sl,ws,h1,h2,h3,h4,_⟩:=hs;cases h1;simp only[Ce,nh] at hn;simp only[Ft] at Gp;obtain⟨sp,sc,rfl⟩:=h3.L9;exact Abq BY cells m b sp _ sc ws F p w g G h hK h2 Y ha hb d B8 Fb PG Xv hw.2.1 hw.2.2.1 Y (ihn _ Y BY) h3 h4
structure Cur (BY:Bool) (F:List (Nat×Obj)) (w:World) (g:MG) (G G':GS) (c a:SG) (av:List Value) (wr:World):Prop where
 st:Ai w (g.Ay G) wr (MG.Ay {g with c:=c,a:=a,av:=av} G')
 AJ:AY wr (MG.Ay {g with c:=c,a:=a,av:=av} G') F
 len:J av<=J G'.Ab
 ab:BY=V->∃vs ls E,av=g.av++vs/\G'.BM=G.BM++ls/\AY wr (MG.Ay {g with c:=c,a:=a,av:=av} G') E/\VB E g.mb (J G'.Ab) vs ls/\J vs+J G.Ab<=J G'.Ab
theorem Cur.start (h:Aq w (g.Ay G)) (hK:AY w (g.Ay G) F) (ha:J g.av<=J G.Ab):Cur BY F w g G G g.c g.a g.av w:=
 ⟨Ai.refl h,hK,ha,λ_=>⟨[],[],[],(Jo _).symm,(Jo _).symm,AY.nil _ _,VB.nil _ _ _,EQ⟩⟩
theorem Cur.next {G1 G2:GS} {c a:SG} {av:List Value} {wr:World} {e:Ending} (h:Cur BY F w g G G1 c a av wr) (k:rK BY G2 {g with c:=c,a:=a,av:=av} G1 wr e w') (hl:J G1.Ab<=J G2.Ab):
  e= qF (qC #[])/\∃c' a' av',Cur BY F w g G G2 c' a' av' w':=by
 cases BY with
 |false=>
  obtain⟨rfl,c',a',av',st,ZB⟩:=k;exact⟨rfl,c',a',av',⟨h.st.trans st,h.AJ.step st,ZB,λh'=>by cases h'⟩⟩
 |true=>
  obtain⟨rfl,c',a',vs',ls',E',Vj,st,kn,an,hv⟩:=k;obtain⟨vs,ls,E,rfl,ab0,k0,an0,hv0⟩:=h.ab rfl;dsimp only at st kn an;refine⟨rfl,c',a',(g.av++vs)++vs',⟨h.st.trans st,h.AJ.step st,?_,λ_=>?_⟩⟩
  .have:=h.len;rw[GT] at this⊢;rw[GT];omega
  .exact⟨vs++vs',ls++ls',E'++E,Ji _ _ _,by rw[Vj,ab0,Ji],(k0.step st).fP kn,an0.FQ an hl,by rw[GT];omega⟩
theorem Cur.stop {BY:Bool} {F:List (Nat×Obj)} {w:World} {g:MG} {G G':GS} {c a:SG} {av:List Value} {wr:World} (h:Cur BY F w g G G' c a av wr):rK BY G' g G w (qF (qC #[])) wr:=by
 cases BY with
 |false=>exact⟨rfl,c,a,av,h.st,h.len⟩
 |true=>
  obtain⟨vs,ls,E,rfl,ab0,k0,an0,hv0⟩:=h.ab rfl;exact⟨rfl,c,a,vs,ls,E,ab0,h.st,k0,an0,hv0⟩
structure Left (BY:Bool) (cells:Int) (F:List (Nat×Obj)) (t:Bj) (d:Nat) (G:GS) (vs:List Value) (n k:Nat) (t':Bj) (G':GS):Prop where
 eq:GS.Dh t G=GS.Dh t' G'
 st:D8 F t' (vs.drop k)
 wf:WF cells t' d BY
 same:Ar G' G
 bud:J G'.Ab+Ce t'<=998000
 sz:Ft t'<=n
 lo:J G.Ab<=J G'.Ab
theorem oI (F:List (Nat×Obj)) (cells:Int) (B8:0<=cells/\cells<=6) (hA:VA F cells) (n:Nat) (hn9:n<=1000):∀BY,RN F cells BY n:=by
 induction n using Nat.strongRecOn with
 |_ n ih=>
 intro BY t sl vs d w g G Gp hr hs hw hd h hK Fb PG Xv hb hn ha;have hlen:J vs<=1000:=by have:=hs.len;omega
 have hM:=λt' v us w' g' G'=>vR F cells B8 hA BY n hn9 (λm hm i=>ih m hm Y i) t' v us d w' g' G'
 obtain⟨p,c,rfl⟩:=hr.L9;have HC:=D (Cur.start (BY:=BY) h hK ha);have HL:=D (show Left BY cells F t d G vs n 0 t G from⟨rfl,hs,hw,Ar.refl _,hn,Gp,Jf _⟩);have Hr:=D hr;have HM:=D hM;have Hb:=D hb;have Hde:=D Xv;have Hbl:=D Fb;have Hcs:=D PG;have Hd:=D hd;have nj:=D B8;clear hr hs hw hn Gp h hK Fb PG Xv hb ha ih hA hM hd B8;go_enter func80,ntmps80;go_wp2;go_loopw [8] (λi wr=>∃(k:Nat) (t':Bj) (G':GS) (c a:SG) (av:List Value),i= iI k/\k<=J vs/\Left BY cells F t d G vs n k t' G'/\Cur BY F w g G G' c a av wr) (λi _=>J vs-(intOf i).toNat);case atStart=>exact⟨0,t,G,_,_,_,rfl,Jr _,HL,HC⟩
 case round=>
  clear HL HC;obtain⟨k,t',G',c1,a1,av1,rfl,hk,hL,hC⟩:=hrel;have HL:=D hL;have HC:=D hC;clear hL hC;cases hd:vs.drop k with
  |nil=>
   have Kf:¬k<(J vs:Int):=by have:=Q7.1 hd;omega
   have ht:t'=.nil:=by
    have Aw:=HL.st;rw[hd] at Aw;exact man
   have He:=D (show GS.Dh t G=G' by rw[HL.out.eq,ht];rfl);clear ht hd;go_wp2
   go_end0
   rw[He.out];exact HC.stop
  |cons v us=>
   obtain⟨_,VE,b,hp,Te⟩:=Hr.AN HC.AJ hd;subst hp;have Kf:k<(J vs:Int):=Y
   have dw:us=vs.drop (k+1):=by rw[<-d8,hd];rfl
   have Aw:=HL.st;rw[hd] at Aw;have Xx:=CF.eq Hb HL.same.Ac;have tH:=AfD t';have Aik:=HL.bud;have Xv:=Hde.out;obtain⟨i1,i2,i3⟩:=RY cells (nh t') nj d BY G' (AgB HL.wf).1 (HL.same.block.trans Hbl) (HL.same.cells.trans Hcs);have HS:=D (HM t' v us wr {g with c:=c1,a:=a1,av:=av1} G' HL.sz Aw HL.wf Hd HC.st.Ak HC.AJ (HL.same.block.trans Hbl) (HL.same.cells.trans Hcs) (by rw[HL.out.same.Af];exact Xv) Xx Y HC.len);have HN:=D (show Left BY cells F t d G vs n (k+1) (tlS t') (GS.Dh (nh t') G') from
     ⟨HL.eq.trans (AgZ t' G'),dw▸Aw.hd.2,(AgB HL.wf).2,i1.trans HL.same,Y,QA (Ai6 t') HL.sz,QA HL.lo i2⟩)
   have Hi:=D i2;have inc:=fS k Y;clear hd dw Aw Xx tH Aik Xv i1 i2 i3;go_wp2_with fail;refine HS.mono ?_;intro e w1 he;obtain⟨rfl,c2,a2,av2,hC2⟩:=HC.next he Hi.out;have HC2:=D hC2;clear hC2 he HC HL HS;go_wp2_with fail;go_roundw;case rel=>(try rw[inc]);exact⟨k+1,tlS t',_,_,_,_,rfl,Y,HN,HC2⟩
   case measure=>(try rw[inc]);simp[intOf];omega
theorem Ae4:(prog.info? 158).map (λi=>(i.zero,i.size,i.bytes))=U (U (m9 Z 0 0),1,24):=Fd
def AgL (cells:Int) (ts:List Bj) (w:World) (e:Ending) (w':World):Prop:=
 ∃op oc cs,e= qF (m9 op (J ts) oc)/\J cs=J ts/\Ai w [] w' (Ky op (J ts) oc cs (CE cells ts (J ts)))
theorem xZ (F:List (Nat×Obj)) (cells:Int) (B8:0<=cells/\cells<=6) (hA:VA F cells) (ts:List Bj) (pb:Nat) (tp:Option Addr) (tc:Nat) (tvs:List Value) (w:World) (hK:AY w [] F)
  (hF:(pb,qG #[m9 tp (J ts) tc,iI cells] 146 (0,0))∈F) (hr:Ew F (m9 tp (J ts) tc) tvs) (hT:GZ F ts tvs) (h3:J ts<=3) (hw:∀t,t∈ts->WF cells t 0 I/\Ce t<=5000/\Ft t<=100):
  Calls prog 52 #[iJ pb] w (AgL cells ts w):=by
 obtain⟨j0,hj,Lc,Lb,Mm⟩:=info_parts Ae4;have kc:=hK.cell hF;have HK:=D hK;have HF:=D hF;have Hr:=D hr;have HT:=D hT;have Hw:=D hw;have HM:=D (oI F cells B8 hA 100 Y I);have Aff:=B8;clear hK hF hr hT hw hA B8;go_enter func52,ntmps52;go_wp2;clear kc;go_loopw [12,3] (λi o wr=>∃(k:Nat) (op:Option Addr) (oc:Nat) (cs:List SG),i= iI k/\o= m9 op k oc/\k<=J ts/\J cs=k/\Ai w [] wr (Ky op k oc cs (CE cells ts k))) (λi _ _=>J ts-(intOf i).toNat);case atStart=>
  exact⟨0,Z,0,[],rfl,rfl,Jr _,rfl,YS (Aq.nil w) (ownsRow_nil _ _ _ _) rfl⟩
 case round=>
  obtain⟨k,op,oc,cs,rfl,rfl,hk,PG,st⟩:=hrel;have Hcs:=D PG;clear PG;by_cases hlt:(k:Int)<(J ts:Int)
  .obtain⟨sl,ws,us,hd,yN,dt⟩:=HT.AN k Y;have K:=D (HK.step st);obtain⟨hzz,VE,tb,htp,Te⟩:=Hr.AN K hd;clear hzz;subst htp;have kc:=K.cell HF.out;have Nk:ts.getD k .nil∈ts:=by rw[Je,Ja Y];exact JP _
   have AhQ:=Hw.out _ Nk;have Aig:=gy cells ts k;obtain⟨t,hT⟩:∃t,t=ts.getD k .nil:=⟨_,rfl⟩;rw[<-hT] at dt AhQ Aig;have hwk:=D AhQ;have Anf:=D Aig;clear AhQ Aig;have S:=D st;have Hr1:=D yN;have Hs1:=D dt;have yY:=D (IntWalk.wrap64_in (64*k) Y);have gN:=D (IntWalk.wrap64_in (32+64*k) Y);clear st yN dt hd Nk hT;have hk5:k<=100:=Y
   have inc:=fS k Y;have Aia:k+1<=maxLen:=by unfold maxLen;omega
   have Ah9:(k+1)*24<=140737488355328:=Y
   have hsi:=RY cells t Aff 0 I (GS.start k cells) hwk.1 rfl rfl;have tJ:CF (GS.start k cells).Ac:=by show 0<=32+64*(k:Int)/\32+64*(k:Int)<=100000;omega
   have Ln:=hwk.2.1;have hl5:(GS.Dh t (GS.start k cells)).Ab.length<=5000:=by have:=hsi.2.2;have e0:(GS.start k cells).Ab.length=0:=rfl;omega
   have Aky:=KJ cells ts k;have Als:=D tJ;have yH:=D Ln;have Hl5:=D hl5;have AiR:=D Aky;clear hsi tJ Ln hl5 Aky;clear yY gN;go_wp2_with fail
   skip
   have a1:=Ai.NP S.Ak (qG #[m9 Z 0 0,iI (32+64*k),iI cells,qB I,m9 Z 0 0,iI 0] 169);have a2:=a1.trans (Ai.rJ (A:=[_]) (B:=Ky op k oc cs (CE cells ts k)) (o:=DR ⟨Z,0⟩ []) a1.Ak (ownsRow_nil _ _ _ _) rfl);have a3:Ai wr (Ky op k oc cs (CE cells ts k)) _ (MG.Ay ⟨wr.heap.size,⟨Z,0⟩,⟨Z,0⟩,[]⟩ (GS.start k cells)++Ky op k oc cs (CE cells ts k)):=
    a2.trans (Ai.rJ (A:=[_,_]) a2.Ak (ownsRow_nil _ _ _ _) rfl)
   replace S:=D (S.trans a3);replace K:=D (K.step a3);clear a1 a2 a3;refine(HM t sl ws 0 _ ⟨wr.heap.size,⟨Z,0⟩,⟨Z,0⟩,[]⟩ (GS.start k cells) hwk.2.2 Hr1 Hs1 hwk.1 Y S.Ak.left K.left rfl rfl ⟨by show(0:Int)<=0;omega,by show(0:Int)<=((0:Nat):Int);omega⟩ Als (by have:=yH.out;show 0+_<=_;omega) (Jf _)).mono ?_;rintro e w1 ⟨rfl,c1,a1,av1,st1,_⟩;dsimp only at st1;replace st1:=Ai.frame S.Ak st1;replace S:=D (S.trans st1);replace K:=D (K.step st1);clear st1;go_wp2_with fail;refine(L4 .halt _ ⟨wr.heap.size,c1,a1,av1⟩ (GS.Dh t (GS.start k cells)) S.Ak.left (by have:=Hl5.out;omega)).mono ?_;rintro e w2 ⟨rfl,c2,st2⟩;dsimp only at st2;replace st2:=Ai.frame S.Ak st2;replace S:=D (S.trans st2);replace K:=D (K.step st2);clear st2;have az:=(Dl S.Ak.left).c 0;go_wp2_with (first|(at_builtin;refine Bm 24 _ _ _ j0 _ #[.slice c2.p (GS.AQ (GS.Dh t (GS.start k cells)) .halt).Ab.length c2.c] _ S.Ak (k:=3) rfl Eq Eq underlying121 hj Lc Lb Mm rfl j6 Eq Eq rfl (by simp[Value.oneCell']) Aia Ah9 ?_;intro g6 AL w6 Aw _;rw[Nh] at Aw;have GK:=D Aw;clear Aw az));go_roundw;case rel=>
    obtain⟨x1,hx1⟩:∃x,x=((GS.Dh t (GS.start k cells)).AQ .halt).Ab:=⟨_,rfl⟩;have hco:Ga cells k t=x1:=by rw[hx1];rfl
    have hlen:J cs=(CE cells ts k).length:=by rw[Hcs.out,AiR.out]
    have s1:Ai w [] w6 ([.Ao wr.heap.size #[m9 c2.p ((GS.Dh t (GS.start k cells)).AQ .halt).Ab.length c2.c,iI ((GS.Dh t (GS.start k cells)).AQ .halt).Ac,iI ((GS.Dh t (GS.start k cells)).AQ .halt).cells,qB ((GS.Dh t (GS.start k cells)).AQ .halt).block,m9 a1.p (J av1) a1.c,iI ((GS.Dh t (GS.start k cells)).AQ .halt).Af] 169,
        DR c2 ((GS.Dh t (GS.start k cells)).AQ .halt).Ab,.row (m9 a1.p (J av1) a1.c) 1 1 (J av1) av1]++
        (.row (m9 (U ⟨g6,0,Z⟩) (k+1) AL) 158 1 (k+1) (BF cs (CE cells ts k)++[m9 c2.p ((GS.Dh t (GS.start k cells)).AQ .halt).Ab.length c2.c])::List.zipWith DR cs (CE cells ts k))):=S.trans GK.out
    rw[<-hx1] at s1;have p1:=Ai.VU s1.Ak (Aji _ _ _ _ _);have s2:=s1.trans (p1.trans (Ai.AJ p1.Ak));refine⟨k+1,U ⟨g6,0,Z⟩,AL,cs++[c2],rfl,rfl,Y,by rw[GT,Hcs.out];rfl,?_⟩;have e:Ky (U ⟨g6,0,Z⟩) (k+1) AL (cs++[c2]) (CE cells ts (k+1))=.row (m9 (U ⟨g6,0,Z⟩) (k+1) AL) 158 1 (k+1) (BF cs (CE cells ts k)++[m9 c2.p (J x1) c2.c])::(List.zipWith DR cs (CE cells ts k)++[DR c2 x1]):=by
     unfold Ky;rw[Anf.out,hco,Bu _ _ _ _ hlen,Qs hlen];rfl
    rw[e];exact s2
   case measure=>simp[intOf];omega
  .have Pt:k=J ts:=Y
   subst Pt;have GK:=D st;clear st;go_wp2_with fail;go_ret;exact⟨op,oc,cs,rfl,Hcs,GK⟩
theorem AfR (F:List (Nat×Obj)) (cells:Int) (B8:0<=cells/\cells<=6):VA F cells:=by
 intro b sp sn sc ws p w g G d h hK hF hn ha hb Fb PG Xv hd Vb ih hz h3 h4;exact kI cells b sp sn sc ws F p w g G h hK hF hn ha hb d B8 Fb PG Xv hd Vb ih h3 hz h4
theorem Ada (F:List (Nat×Obj)) (cells:Int) (B8:0<=cells/\cells<=6) (ts:List Bj) (pb:Nat) (tp:Option Addr) (tc:Nat) (tvs:List Value) (w:World) (hK:AY w [] F)
  (hF:(pb,qG #[m9 tp (J ts) tc,iI cells] 146 (0,0))∈F) (hr:Ew F (m9 tp (J ts) tc) tvs) (hT:GZ F ts tvs) (h3:J ts<=3) (hw:∀t,t∈ts->WF cells t 0 I/\Ce t<=5000/\Ft t<=100):
  Calls prog 52 #[iJ pb] w (AgL cells ts w):=xZ F cells B8 (AfR F cells B8) ts pb tp tc tvs w hK hF hr hT h3 hw
theorem sM (h:Oq k):i64 k:=by unfold Oq at h;unfold i64;omega
theorem Aa9 (h:D7 a):i64 a.v:=by
 unfold D7 at h;split at h
 .exact sM h
 .exact h
theorem Lt (l:By):(AU l).size=J l:=by simp[AU,ByteArray.size]
theorem XO {v:Int} (h:i64 v):(AU (Lib.itoa v)).size<=21:=by rw[Lt];exact Lib.itoa_length_le v h.1 h.2
theorem Ai9 {v:Int} (h:i64 v):(AU (Lib.itoa v)).size<=1000:=by have:=XO h;omega
theorem Af9 (h:D7 a):(AU (Kl a)).size<=1000:=by rw[Lt];have:=gG h;omega
theorem Ai7 (h:Oq k):(AU (Lj k)).size<=1000:=by rw[Lt,PQ h];omega
theorem Adm (a b:By):AU a++AU b=AU (a++b):=by
 apply O0;rw[Dk];simp[bs,AU]
theorem Aej (k:Int) (hk:i64 k) (w:World) (h:VJ w):Calls prog 260 #[iI k] w (Kn (qA (AU (Lj k))) w):=by
 have H:=D h;have hk:=D hk;clear h;go_enter func260,ntmps260;go_wp2_with fail;refine(V6 k hk _ H).mono ?_;rintro e w1 ⟨rfl,hm⟩;have hz:=XO hk.out;go_wp2;go_ret;exact⟨JM (λz=>qF (qA z)) (Adm [114] (Lib.itoa k)),hm⟩
theorem mF (a:Ag) (ha:D7 a) (w:World) (h:VJ w):Calls prog 251 #[qD #[qB a.Dd,iI a.v]] w (Kn (qA (AU (Kl a))) w):=by
 obtain⟨Dd,v⟩:=a;have hv:=D (Aa9 ha);have H:=D h;clear h ha;cases Dd with
 |false=>
  go_enter func251,ntmps251;go_wp2_with fail;refine(X6 v hv _ (H.quiet ((Az.refl _ _).alloc _))).mono ?_;rintro e w1 ⟨rfl,hm⟩;have kc:=(IM hm).cell (GE.2 rfl);have kl:=(IM hm).lt (GE.2 rfl);have hz:=XO hv.out;go_wp2;go_ret;exact⟨rfl,((Az.refl _ _).alloc _).Aj hm⟩
 |true=>
  go_enter func251,ntmps251;go_wp2_with fail;refine(X6 v hv _ (H.quiet ((Az.refl _ _).alloc _))).mono ?_;rintro e w1 ⟨rfl,hm⟩;have kc:=(IM hm).cell (GE.2 rfl);have kl:=(IM hm).lt (GE.2 rfl);have hz:=XO hv.out;go_wp2;go_ret;exact⟨JM (λz=>qF (qA z)) (Adm [114] (Lib.itoa v)),((Az.refl _ _).alloc _).Aj hm⟩
theorem wY (l:List By) (a:By):DF (l++[a])=if l=[] then a else DF l++32::a:=by
 induction l with
 |nil=>rfl
 |cons x l ih=>
  cases l with
  |nil=>rfl
  |cons y l=>
   rw[In EQ] at ih⊢;show x++32::DF (y::l++[a])=(x++32::DF (y::l))++32::a;rw[ih];simp
theorem AbP (l:List By) (h:∀a,a∈l->J a<=1000):(DF l).length<=J l*1001:=by
 induction l with
 |nil=>simp[DF]
 |cons x l ih=>
  cases l with
  |nil=>have:=h x EQ;simp[DF];omega
  |cons y l=>
   have h1:=h x EQ;have h2:=ih λa ha=>h a (Id _ ha)
   simp only[DF,GT,Jg] at h2⊢;omega
theorem wZ (l:List ByteArray) (k:Nat) (hl:J l<=1000) (h:∀a,a∈l->a.size<=1000):(AU (DF ((l.map bs).take k))).size<=1001000:=by
 rw[Lt];have:=AbP ((l.map bs).take k) (by
   intro a ha;obtain⟨x,hx,rfl⟩:=Qf.1 (List.mem_of_mem_take ha);have:=h x hx;exact this)
 have h2:((l.map bs).take k).length<=1000:=by simp;omega
 omega
theorem bS {α:Type} (l:List α) (k:Nat) (hk:k<J l):l.take (k+1)=l.take k++[l[k]]:=by
 rw[JK hk]
theorem Ab2 (k:Nat) (hk:k<=2000):wrap64 ((k:Int)+1)=k+1:=IntWalk.wrap64_in _ Y
theorem uN (l:List ByteArray) (w:World) (ok:Nat->Prop) (v:Value) (hs:Sl w ok v (Bq l)) (hl:J l<=1000) (hw:∀a,a∈l->a.size<=1000):
  Calls prog 253 #[v] w (Kn (qA (AU (DF (l.map bs)))) w):=by
 obtain⟨p,cap,rfl,_,_⟩:=hs.L9;have hlen:(Bq l).length=J l:=Cj l;rw[hlen];have HS:=D hs;have hj:=D (λk=>wZ l k hl hw);have hw:=D hw;clear hs;go_enter func253,ntmps253;go_wp2;go_loopw [2,7] (λs i wr=>∃k:Nat,i= iI k/\k<=J l/\s= qA (AU (DF ((l.map bs).take k)))/\wr=w) (λ_ i _=>J l-(intOf i).toNat);case atStart=>exact⟨0,rfl,Jr _,rfl,rfl⟩
 case round=>
  obtain⟨k,rfl,hk,rfl,rfl⟩:=hrel;by_cases hlt:(k:Int)<(J l:Int)
  .have C4:k<J l:=Y
   have ax:k<=2000:=Y
   obtain⟨_,⟨_,h2⟩|⟨b,off,cap',hv,h2,h3,h4,h5,h6⟩⟩:=HS.out
   .have:J l=0:=by rw[<-hlen,h2];rfl
    omega
   .cases hv;rw[hlen] at h2;have hc:wr.cell? ⟨b,off+k,Z⟩=U (qA l[k]):=by
     have:=h6 k (by rw[hlen];exact C4);rw[this];simp[Bq]
    have e:DF ((l.map bs).take (k+1))=DF ((l.map bs).take k++[bs l[k]]):=by rw[bS (l.map bs) k (by simpa using C4)];simp
    rw[wY] at e;obtain⟨x,hx⟩:∃x,x=l[k]:=⟨_,rfl⟩;have hxs:=hw.out l[k] (JP _);have hjs:=hj.out k;rw[<-hx] at hc e hxs;clear hx h6;have E:=D e;clear e;have VE:=JG k;unfold maxLen at h3;by_cases h0:k=0
    .subst h0;simp only[JX] at hc;clear hjs;have e0:AU (DF ((l.map bs).take 0))=⟨#[]⟩:=rfl;rw[e0];have E2:=E.out;rw[Jb EQ] at E2;replace E:=D E2;clear E2 e0;have inc:=Ab2 0 Y;go_wp2;go_roundw;case rel=>exact⟨1,rfl,C4,by rw[E.out,XL];exact JM qA (by apply O0;simp[bs]),trivial⟩
     case measure=>simp[intOf];omega
    .have h01:(0:Int)<(k:Int):=Y
     have E2:=E.out;rw[In (λe0=>by have:=JM List.length e0;rw[LE,JZ] at this;simp only[Jw] at this;omega)] at E2;replace E:=D E2;clear E2;have inc:=Ab2 k ax;go_wp2;go_roundw;case rel=>
      refine⟨k+1,rfl,C4,?_,trivial⟩;rw[E.out];refine JM qA ?_;apply O0;simp[bs,AU]
     case measure=>simp[intOf];omega
  .have Kf:k=J l:=Y
   subst Kf;go_wp2;go_ret;have e9:(l.map bs).take (J l)=l.map bs:=J6 EQ;refine⟨?_,Az.refl _ _⟩;show qF (qA (AU (DF ((l.map bs).take (J l)))))=_;rw[e9]
theorem Ai8 (ha:D7 a) (hk:i64 k):(AU (DF [Kl a,Lib.itoa k])).size<=1000:=by
 rw[Lt];have h1:=Af9 ha;have h2:=Ai9 hk;rw[Lt] at h1 h2;have h3:=gG ha;have h4:=Zj hk;simp[DF];omega
theorem AhL {v:Int} (h:i64 v): -9223372036854775808<=v/\v<=9223372036854775807:=h
theorem ER (l:List ByteArray) (n:Nat) (w:World) (hn:J l=n:=by rfl) (hb:n<=1000:=by decide) (hw:∀a,a∈l->a.size<=1000:=by
    simp only[Jl,Qm,or_false,forall_eq_or_imp,forall_eq]
    repeat' with_reducible first|exact Af9 (by assumption)|exact Ai7 (by assumption)|exact Ai9 (by assumption)|exact Ai8 (by assumption) (by assumption)|assumption|refine⟨?_,?_⟩
    all_goals decide):
  Calls prog 253 #[m9 (U ⟨w.heap.size,0,Z⟩) n n] (w.alloc (qG (Bq l).toArray 9)) (Kn (qA (AU (DF (l.map bs)))) (w.alloc (qG (Bq l).toArray 9))):=
 uN l _ (λ_=>True) _ (Sl.new (Bq l) 9 n ((Cj l).trans hn) hb _ trivial) (hn▸hb) hw
theorem sgo (h:p:=by
  have hm:∀{c:Obj},Az [] (w.alloc c) (w.alloc c).drew:=(Az.refl _ _).drew;repeat
    refine Ds ?_;intro K hK
    with_reducible first
      |refine(Aej _ (sM (by assumption)) _ (H.out.quiet (((Az.refl _ _).alloc _).Aj hm))).mono ?_
      |refine(mF _ (by assumption) _ (H.out.quiet (((Az.refl _ _).alloc _).Aj hm))).mono ?_
      |refine(X6 _ (AhL (by assumption)) _ (H.out.quiet (((Az.refl _ _).alloc _).Aj hm))).mono ?_
      |refine(V6 _ (AhL (by assumption)) _ (H.out.quiet (((Az.refl _ _).alloc _).Aj hm))).mono ?_
      |refine(oy _ _ (by assumption) (by assumption) _ (H.out.quiet (((Az.refl _ _).alloc _).Aj hm))).mono ?_
    rintro e w1 ⟨rfl,Dg⟩;replace hm:=hm.Aj Dg;clear Dg;refine hK _ _ (λ_=>(IM hm).cell (GE.2 rfl)) ?_;clear hK
  refine Ds ?_;intro K hK;refine hK _ _ (λ_=>(IM (hm.alloc _)).cell (GE.2 rfl)) ?_;clear hK;refine Ds ?_;intro K hK;refine(hW _).mono ?_;rintro e wz ⟨rfl,hmz⟩;replace hm:=(hm.alloc _).Aj hmz;clear hmz;refine hK _ _ (λ_=>(IM hm).cell (GE.2 rfl)) ?_;clear hK;refine AI rfl (λK hK=>?_);go_simp;refine hK _ _ (λh=>Jk rfl h) ?_;clear hK;simp only[BN];go_wp2;go_ret;refine⟨?_,((Az.refl _ _).alloc _).Aj hm⟩;refine JM (λz=>qF (qA (AU z))) ?_;simp[DF,GI.Ae,GI.ws,Dk,bs]):p:=h
theorem Ag3 (h:p:=by
  go_wp2_with fail
  with_reducible first
    |refine(mF _ (by assumption) _ (H.out.quiet ((Az.refl _ _).alloc _))).mono ?_
    |refine(V6 _ (AhL (by assumption)) _ (H.out.quiet ((Az.refl _ _).alloc _))).mono ?_
  rintro e w1 ⟨rfl,hm⟩;have kc:=(IM hm).cell (GE.2 rfl);have kl:=(IM hm).lt (GE.2 rfl);go_wp2_with fail;refine(hW _).mono ?_;rintro e wz ⟨rfl,hmz⟩;replace hm:=(hm.alloc _).Aj hmz;clear hmz kc kl;go_wp2;go_ret;refine⟨?_,((Az.refl _ _).alloc _).Aj hm⟩;refine JM (λz=>qF (qA (AU z))) ?_;simp[DF,GI.Ae,GI.ws,Dk,bs]):p:=h
theorem oy (a:Ag) (k:Int) (ha:D7 a) (hk:i64 k) (w:World) (h:VJ w):Calls prog 252 #[qD #[qB a.Dd,iI a.v,iI k]] w (Kn (qA (AU (DF [Kl a,Lib.itoa k]))) w):=by
 have H:=D h;have hW:=λv=>ER [AU (Kl a),AU (Lib.itoa k)] 2 v
 clear h;go_enter func252,ntmps252;go_upto_region 1 with fail
 refine Cf (l:=[(0,V),(1,V),(3,V),(4,V),(2,I),(5,I),(6,I),(7,I),(8,I)]) (λW=>∀i:Nat,W.cell? ⟨w.heap.size,i,Z⟩=(#[qB a.Dd,iI a.v,iI k]:Array Value)[i]?) 8 ((IM (Az.refl [] _).drew).cell (GE.2 rfl)) ?_;exact sgo
theorem Aai (d:Int) (a:Ag) (hd:Oq d) (ha:D7 a) (w:World) (h:VJ w):Calls prog 274 #[qD #[iI d,qB a.Dd,iI a.v]] w (Kn (qA (AU (GI.Ae (.Y4 d a)))) w):=by
 have H:=D h;have hW:=λv=>ER [⟨#[109,111,118]⟩,AU (Lj d),AU (Kl a)] 3 v
 clear h;go_enter func274,ntmps274;go_upto_region 1 with fail
 refine Cf (l:=[(0,V),(1,V),(3,V),(4,V),(2,I),(5,I),(6,I),(7,I),(8,I)]) (λW=>∀i:Nat,W.cell? ⟨w.heap.size,i,Z⟩=(#[iI d,qB a.Dd,iI a.v]:Array Value)[i]?) 8 ((IM (Az.refl [] _).drew).cell (GE.2 rfl)) ?_;exact sgo
theorem Ad7 (n:ByteArray) (d:Int) (a b:Ag) (hn:n.size<=1000) (hd:Oq d) (ha:D7 a) (hb:D7 b) (w:World) (h:VJ w):Calls prog 259 #[qD #[qA n,iI d,qB a.Dd,iI a.v,qB b.Dd,iI b.v]] w (Kn (qA (AU (GI.Ae (.op n d a b)))) w):=by
 have H:=D h;have hW:=λv=>ER [n,AU (Lj d),AU (Kl a),AU (Kl b)] 4 v
 clear h;go_enter func259,ntmps259;go_upto_region 1 with fail
 refine Cf (l:=[(0,V),(1,V),(2,V),(3,V),(5,V),(6,V),(8,V),(9,V),(4,I),(7,I),(10,I),(11,I),(12,I),(13,I)]) (λW=>∀i:Nat,W.cell? ⟨w.heap.size,i,Z⟩=(#[qA n,iI d,qB a.Dd,iI a.v,qB b.Dd,iI b.v]:Array Value)[i]?) 13 ((IM (Az.refl [] _).drew).cell (GE.2 rfl)) ?_;exact sgo
theorem u9 (d:Int) (a:Ag) (k:Int) (hd:Oq d) (ha:D7 a) (hk:i64 k) (w:World) (h:VJ w):Calls prog 266 #[qD #[iI d,qB a.Dd,iI a.v,iI k]] w (Kn (qA (AU (GI.Ae (.load d a k)))) w):=by
 have H:=D h;have hW:=λv=>ER [⟨#[108,111,97,100]⟩,AU (Lj d),AU (DF [Kl a,Lib.itoa k])] 3 v
 clear h;go_enter func266,ntmps266;go_upto_region 1 with fail
 refine Cf (l:=[(0,V),(1,V),(3,V),(4,V),(2,I),(5,I),(6,I),(7,I),(8,I)]) (λW=>∀i:Nat,W.cell? ⟨w.heap.size,i,Z⟩=(#[iI d,qB a.Dd,iI a.v,iI k]:Array Value)[i]?) 8 ((IM (Az.refl [] _).drew).cell (GE.2 rfl)) ?_;exact sgo
theorem nT (a:Ag) (k:Int) (b:Ag) (ha:D7 a) (hk:i64 k) (hb:D7 b) (w:World) (h:VJ w):Calls prog 262 #[qD #[qB a.Dd,iI a.v,iI k,qB b.Dd,iI b.v]] w (Kn (qA (AU (GI.Ae (.store a k b)))) w):=by
 have H:=D h;have hW:=λv=>ER [⟨#[115,116,111,114,101]⟩,AU (DF [Kl a,Lib.itoa k]),AU (Kl b)] 3 v
 clear h;go_enter func262,ntmps262;go_upto_region 1 with fail
 refine Cf (l:=[(0,V),(1,V),(3,V),(4,V),(2,I),(5,I),(6,I),(7,I),(8,I)]) (λW=>∀i:Nat,W.cell? ⟨w.heap.size,i,Z⟩=(#[qB a.Dd,iI a.v,iI k,qB b.Dd,iI b.v]:Array Value)[i]?) 8 ((IM (Az.refl [] _).drew).cell (GE.2 rfl)) ?_;exact sgo
theorem AaA (d:Int) (a:Ag) (k:Int) (b c:Ag) (hd:Oq d) (ha:D7 a) (hk:i64 k) (hb:D7 b) (hc:D7 c) (w:World) (h:VJ w):Calls prog 270 #[qD #[iI d,qB a.Dd,iI a.v,iI k,qB b.Dd,iI b.v,qB c.Dd,iI c.v]] w (Kn (qA (AU (GI.Ae (.KL d a k b c)))) w):=by
 have H:=D h;have hW:=λv=>ER [⟨#[99,97,115]⟩,AU (Lj d),AU (DF [Kl a,Lib.itoa k]),AU (Kl b),AU (Kl c)] 5 v
 clear h;go_enter func270,ntmps270;go_upto_region 1 with fail
 refine Cf (l:=[(0,V),(1,V),(3,V),(4,V),(6,V),(7,V),(9,V),(10,V),(2,I),(5,I),(8,I),(11,I),(12,I),(13,I),(14,I)]) (λW=>∀i:Nat,W.cell? ⟨w.heap.size,i,Z⟩=(#[iI d,qB a.Dd,iI a.v,iI k,qB b.Dd,iI b.v,qB c.Dd,iI c.v]:Array Value)[i]?) 14 ((IM (Az.refl [] _).drew).cell (GE.2 rfl)) ?_;exact sgo
theorem u0 (d:Int) (a:Ag) (k:Int) (b:Ag) (hd:Oq d) (ha:D7 a) (hk:i64 k) (hb:D7 b) (w:World) (h:VJ w):Calls prog 272 #[qD #[iI d,qB a.Dd,iI a.v,iI k,qB b.Dd,iI b.v]] w (Kn (qA (AU (GI.Ae (.Em d a k b)))) w):=by
 have H:=D h;have hW:=λv=>ER [⟨#[120,97,100,100]⟩,AU (Lj d),AU (DF [Kl a,Lib.itoa k]),AU (Kl b)] 4 v
 clear h;go_enter func272,ntmps272;go_upto_region 1 with fail
 refine Cf (l:=[(0,V),(1,V),(3,V),(4,V),(6,V),(7,V),(2,I),(5,I),(8,I),(9,I),(10,I),(11,I)]) (λW=>∀i:Nat,W.cell? ⟨w.heap.size,i,Z⟩=(#[iI d,qB a.Dd,iI a.v,iI k,qB b.Dd,iI b.v]:Array Value)[i]?) 11 ((IM (Az.refl [] _).drew).cell (GE.2 rfl)) ?_;exact sgo
theorem Aag (a:Ag) (ha:D7 a) (w:World) (h:VJ w):Calls prog 255 #[qD #[qB a.Dd,iI a.v]] w (Kn (qA (AU (GI.Ae (.out a)))) w):=by
 have H:=D h;have hW:=λv=>ER [⟨#[111,117,116]⟩,AU (Kl a)] 2 v
 clear h;go_enter func255,ntmps255;exact Ag3
theorem Aaj (k:Int) (hk:i64 k) (w:World) (h:VJ w):Calls prog 257 #[qD #[iI k]] w (Kn (qA (AU (GI.Ae (.GF k)))) w):=by
 have H:=D h;have hW:=λv=>ER [⟨#[106,109,112]⟩,AU (Lib.itoa k)] 2 v
 clear h;go_enter func257,ntmps257;exact Ag3
theorem Ad9 (a:Ag) (k:Int) (ha:D7 a) (hk:i64 k) (w:World) (h:VJ w):Calls prog 268 #[qD #[qB a.Dd,iI a.v,iI k]] w (Kn (qA (AU (GI.Ae (.jz a k)))) w):=by
 have H:=D h;have hW:=λv=>ER [⟨#[106,122]⟩,AU (Kl a),AU (Lib.itoa k)] 3 v
 clear h;go_enter func268,ntmps268;go_upto_region 1 with fail
 refine Cf (l:=[(0,V),(1,V),(3,V),(4,V),(5,V),(2,I),(6,I),(7,I),(8,I),(9,I)]) (λW=>∀i:Nat,W.cell? ⟨w.heap.size,i,Z⟩=(#[qB a.Dd,iI a.v,iI k]:Array Value)[i]?) 9 ((IM (Az.refl [] _).drew).cell (GE.2 rfl)) ?_;exact sgo
theorem u3 (k:Int) (hk:i64 k) (w:World) (h:VJ w):Calls prog 264 #[qD #[iI k]] w (Kn (qA (AU (GI.Ae (.CR k)))) w):=by
 have H:=D h;have hW:=λv=>ER [⟨#[116,114,97,112]⟩,AU (Lib.itoa k)] 2 v
 clear h;go_enter func264,ntmps264;exact Ag3
def Acc (B:Nat) (l:By) (w:World):Prop:=Lib.IsBuilder 157 5 B B (Lib.byteCells l) w
theorem Acc.quiet {B:Nat} (h:Acc B l w) (k:Az [] w w'):Acc B l w':=by
 have f:∀p,Lib.BuilderAt 157 5 B B p (Lib.byteCells l) w->Lib.BuilderAt 157 5 B B p (Lib.byteCells l) w':=by
  rintro p ⟨h1,v,h2,h3,h4⟩;exact⟨h1,v,k.heap h2 EQ,B7 h3 k EQ,h4⟩
 exact Or.imp (f _) (f _) h
theorem Az.VM {a b c:World} (h:Az [] a b) (k:Below a.heap.size b c):Az [] a c:=
 ⟨k.os.trans h.os,k.tape.trans h.tape,k.output.trans h.output,QA h.size k.size,λi hi _=>(k.block i hi).trans (h.block i hi EQ)⟩
theorem dT (l m:By):Lib.byteCells l++Lib.byteCells m=Lib.byteCells (l++m):=by simp[Lib.byteCells]
theorem dS (l:By):(Lib.byteCells l).length=J l:=by simp[Lib.byteCells]
theorem x7 (m:By):Lib.strCells (AU m)=Lib.byteCells m:=by simp[Lib.strCells,Lib.byteCells,AU]
def AlB (r:Value) (l:By) (w0:World) (e:Ending) (w':World):Prop:=e= qF r/\Acc w0.heap.size l w'/\Az [] w0 w'
theorem Ak1 (m:By) (h:Acc w0.heap.size l w) (k:Az [] w0 w) (hl:J l+J m<=1000000) (s:ByteArray) (hs:s=AU m):
  Calls prog 77 #[iJ w0.heap.size,qA s] w (AlB (qC #[iI s.size,.nilIface]) (l++m) w0):=by
 subst hs;refine(AfQ w0.heap.size w0.heap.size (Lib.byteCells l) (AU m) w h (by rw[dS,Lt];omega) k.size).mono ?_;rintro e w' ⟨rfl,h1,h2⟩;rw[x7,dT] at h1;exact⟨rfl,Or.inr h1,k.VM h2⟩
theorem AmQ (h:Acc w0.heap.size l w) (k:Az [] w0 w) (hl:J l<=1000000):
  Calls prog 78 #[iJ w0.heap.size,.int .u8 10] w (AlB .nilIface (l++[10]) w0):=by
 refine(AkX w0.heap.size w0.heap.size (Lib.byteCells l) 10 w h (by rw[dS];omega) k.size).mono ?_;rintro e w' ⟨rfl,h1,h2⟩;have e1:Lib.byteCells l++[.int .u8 10]=Lib.byteCells (l++[10]):=by rw[<-dT];rfl
 rw[e1] at h1;exact⟨rfl,Or.inr h1,k.VM h2⟩
theorem AmP (h:Acc w0.heap.size l w) (k:Az [] w0 w):
  Calls prog 79 #[iJ w0.heap.size] w (Kn (qA (AU l)) w0):=by
 refine(Tryz.Builder_String_any w0.heap.size w0.heap.size l w h k.size).mono ?_;rintro e w' ⟨rfl,h2⟩;exact⟨rfl,k.VM h2⟩
theorem VO {α:Type}:∀(cs:List SG) (ls:List (List α)) (k:Nat) (hc:k<J cs) (hl:k<J ls),(BF cs ls)[k]?=U (.slice cs[k].p ls[k].length cs[k].c)
 |[],_,_,hc,_=>by simp at hc
 |_::_,[],_,_,hl=>by simp at hl
 |c::cs,l::ls,0,_,_=>rfl
 |c::cs,l::ls,k+1,hc,hl=>by
  have:=VO cs ls k (by simpa using hc) (by simpa using hl);simpa[BF] using this
theorem y9:∀(cs:List SG) (ls:List (List GI)) (k:Nat) (hc:k<J cs) (hl:k<J ls),(List.zipWith DR cs ls)[k]?=U (DR cs[k] ls[k])
 |[],_,_,hc,_=>by simp at hc
 |_::_,[],_,_,hl=>by simp at hl
 |c::cs,l::ls,0,_,_=>rfl
 |c::cs,l::ls,k+1,hc,hl=>by
  have:=y9 cs ls k (by simpa using hc) (by simpa using hl);simpa using this
def okT (i:GI):Prop:=Sd 4000 i/\i≠ .Ma
def Gj (t:List GI) (q:Nat):By:=(t.take q).flatMap λi=>i.Ae++[10]
theorem U2 (t:List GI) (q:Nat) (hq:q<J t):Gj t (q+1)=Gj t q++t[q].Ae++[10]:=by
 unfold Gj;rw[bS t q hq,J9];simp
theorem iy (ls:List (List GI)) (k:Nat) (hk:k<J ls):DM (ls.take (k+1))=DM (ls.take k)++AE++[10]++Gj ls[k] ls[k].length:=by
 unfold DM;rw[JK hk];simp only[J9,JV,List.flatMap_nil,Jo];unfold XM Gj;rw[J2];simp
theorem kS (t:List GI) (q:Nat) (hq:q<J t):(Gj t q).length+t[q].Ae.length+1<=(Gj t (J t)).length:=by
 have e:Gj t (J t)=Gj t (q+1)++(t.drop (q+1)).flatMap λi=>i.Ae++[10]:=by
  unfold Gj;rw[J2,<-J9,QM]
 rw[e,U2 t q hq];simp;omega
theorem nF (ls:List (List GI)) (k:Nat):(DM (ls.take k)).length<=(DM ls).length:=by
 have e:DM ls=DM (ls.take k)++DM (ls.drop k):=by unfold DM;rw[<-J9,QM]
 rw[e];simp
theorem Ab1 (k:Nat) (hk:k<=100000):wrap64 ((k:Int)+1)=k+1:=IntWalk.wrap64_in _ Y
theorem fT {u:Int} (h:0<=k) (h2:k<=u) (hu:u<=4000:=by decide):i64 k:=by unfold i64;omega
theorem uP {n:ByteArray} (h:n∈B4):n.size<=1000:=by have:=Yh h;rw[show n.size=(bs n).length from rfl];omega
theorem ve (w:World) (_:VJ w):Calls prog 229 #[qD #[]] w (Kn (qA (AU (GI.Ae .halt))) w):=by
 go_enter func229,ntmps229;go_wp2;go_ret;exact⟨rfl,(Az.refl _ _).alloc _⟩
theorem Ai3:(⟨#[116,104,114,101,97,100,10]⟩:ByteArray)=AU (AE++[10]):=by decide+kernel
theorem AjK (i:GI) (k:okT i):∃Z99 a f,GI.val i=.iface Z99 a/\(f=274\/f=259\/f=266\/f=262\/f=270\/f=272\/f=255\/f=257\/f=268\/f=264\/f=229)/\(∀w,(method 492 Z99 a "String").run prog w=.ok (f,a) w)/\∀w,VJ w->Calls prog f #[a] w (Kn (qA (AU i.Ae)) w):=by
 have h:=k.1;cases i with
 |Y4 d a=>exact⟨_,_,_,rfl,Do,λ_=>Fd,Aai d a h.1 h.2⟩
 |op n d a b=>exact⟨_,_,_,rfl,Do,λ_=>Fd,Ad7 n d a b (uP h.1) h.2.1 h.2.2.1 h.2.2.2⟩
 |load d a k2=>exact⟨_,_,_,rfl,Do,λ_=>Fd,u9 d a k2 h.1 h.2.1 h.2.2⟩
 |store a k2 b=>exact⟨_,_,_,rfl,Do,λ_=>Fd,nT a k2 b h.1 h.2.1 h.2.2⟩
 |KL d a k2 b c=>exact⟨_,_,_,rfl,Do,λ_=>Fd,AaA d a k2 b c h.1 h.2.1 h.2.2.1 h.2.2.2.1 h.2.2.2.2⟩
 |Em d a k2 b=>exact⟨_,_,_,rfl,Do,λ_=>Fd,u0 d a k2 b h.1 h.2.1 h.2.2.1 h.2.2.2⟩
 |out a=>exact⟨_,_,_,rfl,Do,λ_=>Fd,Aag a h⟩
 |GF k2=>exact⟨_,_,_,rfl,Do,λ_=>Fd,Aaj k2 (fT h.1 h.2)⟩
 |jz a k2=>exact⟨_,_,_,rfl,Do,λ_=>Fd,Ad9 a k2 h.1 (fT h.2.1 h.2.2)⟩
 |CR k2=>exact⟨_,_,_,rfl,Do,λ_=>Fd,u3 k2 (fT (Int.le_trans Do h.1) h.2)⟩
 |halt=>exact⟨_,_,_,rfl,Do,λ_=>Fd,ve⟩
 |Ma=>exact Jk rfl k.2
theorem zS (ls:List (List GI)) (op:Option Addr) (oc:Nat) (cs:List SG) (w:World) (h:Aq w (Ky op (J ls) oc cs ls)) (PG:J cs=J ls) (ht:VJ w)
  (hok:∀l,l∈ls->∀i,i∈l->okT i) (hl:(DM ls).length<=131072) (h3:J ls<=1000) (h4:∀l,l∈ls->J l<=10000):Calls prog 51 #[m9 op (J ls) oc] w (Kn (qA (AU (DM ls))) w):=by
 have H:=D h;have T:=D ht;have Hok:=D hok;have Hcs:=D PG;have Hl:=D hl;have H4:=D h4;clear h ht hok PG hl h4;go_enter func51,ntmps51;go_wp2;have hA:Acc w.heap.size (DM (ls.take 0)) _:=Lib.fresh_isBuilder 157 5 w;go_loopw [10] (λi wr=>∃k:Nat,i= iI k/\k<=J ls/\Acc w.heap.size (DM (ls.take k)) wr/\Az [] w wr) (λi _=>J ls-(intOf i).toNat);case atStart=>exact⟨0,rfl,Jr _,hA,(Az.refl _ _).alloc _⟩
 case round=>
  clear hA;obtain⟨k,rfl,hk,hA,hM⟩:=hrel;by_cases hlt:(k:Int)<(J ls:Int)
  .have C4:k<J ls:=Y
   have ax:k<=2000:=Y
   have hck:k<J cs:=by rw[Hcs.out];exact C4
   have ho:=H.quiet hM;obtain⟨ob,oc',hov,_,rl,_,_,rc,rf⟩:=Av (ho.row (i:=0) rfl) Y;cases hov;have az:wr.cell? ⟨ob,k,Z⟩=U (.slice cs[k].p ls[k].length cs[k].c):=by
    have e1:=VO cs ls k hck C4;obtain⟨e2,e3⟩:=Jn.1 e1;rw[rc k e2,e3]
   have EX:(Ky (U ⟨ob,0,Z⟩) (J ls) oc cs ls)[k+1]?=U (DR cs[k] ls[k]):=y9 cs ls k hck C4;have O9:=Hl.out;have gX:=nF ls (k+1);have SZ:=iy ls k C4;rw[SZ] at gX;have Ah1:=Hok.out ls[k] (JP _);have h4k:=H4.out ls[k] (JP _);have hg:Aq w [DR cs[k] ls[k]]:=⟨λo nf=>by rw[GE] at nf;subst nf;exact H.holds _ (JL EX),by simp[Et,Ob.fp,DR,Value.ownBlock];split<;>simp⟩;obtain⟨t,hT⟩:∃t,t=ls[k]:=⟨_,rfl⟩;obtain⟨⟨cp,cc⟩,hC⟩:∃c,c=cs[k]:=⟨_,rfl⟩;obtain⟨X,hX⟩:∃X,X=DM (ls.take k):=⟨_,rfl⟩;rw[<-hT,<-hC] at az hg;rw[<-hT,<-hX] at gX SZ;rw[<-hT] at Ah1 h4k;rw[<-hX] at hA;clear hT hC hX EX rc rf hck ho;have HA:=D hA;have HM:=D hM;have Hg:=D hg;have Hts:=D SZ;have Am9:=D Ah1;simp only[GT,JN] at gX;have hX1:J X+J AE+1+(Gj t (J t)).length<=131072:=Y
   have hX2:=D hX1;clear hA hM hg SZ Ah1 gX O9 hX1;have VE:=JG k;go_wp2_with fail;refine(Ak1 (AE++[10]) HA HM (by have:=hX2.out;simp only[GT,JN];omega) _ Ai3).mono ?_;rintro e w1 ⟨rfl,hA,hM⟩;clear HA HM az;have hA0:=hA;go_wp2;rw[<-Ji] at hA0;go_loopw [17] (λi wr=>∃q:Nat,i= iI q/\q<=J t/\Acc w.heap.size (X++AE++[10]++Gj t q) wr/\Az [] w wr) (λi _=>J t-(intOf i).toNat);case atStart=>exact⟨0,rfl,Jr _,by have:Gj t 0=[]:=rfl;rw[this,Jo];exact hA0,hM⟩
   case round=>
    clear hA hM hA0;obtain⟨q,rfl,hq,hA,hM⟩:=hrel;by_cases hqt:(q:Int)<(J t:Int)
    .have Ae9:q<J t:=Y
     have hq9:q<=100000:=Y
     obtain⟨gb,gc,hgv,_,gl,_,_,gcell,gfr⟩:=Av ((Hg.quiet hM).row (i:=0) rfl) Y;cases hgv;have hgi:(hY t).length=J t:=Lr t;have ay:wr.cell? ⟨gb,q,Z⟩=U (GI.val t[q]):=by rw[gcell q (by rw[hgi];exact Ae9)];simp[hY]
     have hLl:=kS t q Ae9;have Xc:=U2 t q Ae9;have Ah2:=Am9.out t[q] (JP _);obtain⟨i,hi⟩:∃i,i=t[q]:=⟨_,rfl⟩;rw[<-hi] at ay hLl Xc Ah2;have HA:=D hA;have HM:=D hM;have rU:=D Xc;have HLl:=D hLl;have Alk:=D Ah2;clear hi gcell gfr hgi hLl Xc Ah2 hA hM;have hqn:=JG q;obtain⟨Z99,a,f,hiv,hf,hmt,Agx⟩:=AjK i Alk.out;rw[hiv] at ay;have Akv:=D Agx;clear hiv Agx Alk;rcases hf with rfl|rfl|rfl|rfl|rfl|rfl|rfl|rfl|rfl|rfl|rfl;all_goals
      go_wp2_with fail;refine(Akv _ (T.quiet HM)).mono ?_;rintro e w2 ⟨rfl,FM⟩;clear Akv hmt ay;have HA2:=D (HA.quiet FM);have SQ:=D (HM.Aj FM);clear HA HM FM;go_wp2_with fail;refine(Ak1 (i.Ae) HA2 SQ (by have:=hX2.out;have:=HLl.out;simp only[GT,JN];omega) _ rfl).mono ?_;rintro e w3 ⟨rfl,hA3,gZ⟩;clear HA2 SQ;have HA3:=D hA3;have mT:=D gZ;clear hA3 gZ;go_wp2_with fail;refine(AmQ HA3 mT (by have:=hX2.out;have:=HLl.out;simp only[GT,JN];omega)).mono ?_;rintro e w4 ⟨rfl,hA4,hM4⟩;clear HA3 mT;have HA4:=D hA4;have HM4:=D hM4;clear hA4 hM4;obtain⟨s1,dt⟩:∃s,s=AU (i.Ae):=⟨_,rfl⟩;rw[<-dt];clear dt;obtain⟨z1,Lb⟩:∃z,z=s1.size:=⟨_,rfl⟩;rw[<-Lb];clear Lb;have inc:True->wrap64 ((q:Int)+1)=q+1:=λ_=>Ab1 q hq9
      go_wp2;go_roundw;case rel=>exact⟨q+1,rfl,Ae9,by rw[rU.out];simpa only[Ji] using HA4.out,HM4⟩
      case measure=>simp[intOf];omega
    .have hqc:q=J t:=Y
     subst hqc;have HA:=D hA;have HM:=D hM;clear hA hM;have inc:True->wrap64 ((k:Int)+1)=k+1:=λ_=>Ab1 k (QA ax Do)
     go_wp2;go_roundw;case rel=>exact⟨k+1,rfl,C4,by rw[Hts.out];exact HA.out,HM⟩
     case measure=>simp[intOf];omega
  .have Pt:k=J ls:=Y
   subst Pt;rw[J2] at hA;have HA:=D hA;have HM:=D hM;clear hA hM;go_wp2_with fail;refine(AmP HA HM).mono ?_;rintro e w1 ⟨rfl,hm⟩;go_wp2;go_ret;exact⟨rfl,hm⟩
