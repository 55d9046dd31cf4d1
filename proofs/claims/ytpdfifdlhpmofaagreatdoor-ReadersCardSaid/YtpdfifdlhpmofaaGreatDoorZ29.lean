/-
  Part 29 of the proof.
-/
import Derived.Test.YtpdfifdlhpmofaaGreatDoorZ28
set_option linter.unusedVariables false
set_option linter.unusedSimpArgs false
set_option maxHeartbeats 3200000
set_option maxRecDepth 100000
namespace Go.Proofs.YtpdfifdlhpmofaaGreatDoor
open Go.RowKit Tryz
open Go.Lib (hid)
variable {w v:World} {g:MG} {G O:GS} {F:List (Nat×Obj)} {L:List Ob} {c:Array Value} {T:TypeId} {B4:Bool} {P:List QB} {i:Option Bool} {k:Nat} {xs:List Value}
def wK (G':GS) (g:MG) (G:GS) (w:World) (e:Ending) (w':World):Prop:=
 e= .returned (.tuple #[])/\∃c a av,Ak w (g.Ar G) w' (MG.Ar {g with c:=c,a:=a,av:=av} G')/\av.length<=G'.Ab.length
def jJ (B4:Bool) (G':GS) (g:MG) (G:GS) (w:World) (e:Ending) (w':World):Prop:=match B4 with
 | true=>StS G' g G w e w'
 | false=>wK G' g G w e w'
theorem A5.Rz (h:A5 w (g.Ar G) F) {b:Nat} {o:Obj} (hb:(b,o)∈F):b≠g.mb:=fun e=>h.out b o hb (by rw[e];simp[MG.Ar,D4,Ob.fp])
theorem A5.Xx {p:Nat} (h:A5 w L F) (hp:(p,Obj.cells c T (0,0))∈F):A5 w L ([(p,c,T)].map qob):=h.sub fun x hx=>by rw[Z.1 hx];exact hp
def OU (F:List (Nat×Obj)) (cells:Int) (B4:Bool) (n:Nat):Prop:=
 ∀(t:Bt) (sl:Value) (vs:List Value) (d:Nat) (w:World) (g:MG) (G:GS),FH t<=n->EE F sl vs->Ef F t vs->WF cells t d B4->d<=3->Az w (g.Ar G)->A5 w (g.Ar G) F->G.block=B4->G.cells=cells->
  (0<=G.Aj/\G.Aj<=(d:Int))->C2 G.Ac->G.Ab.length+Cg t<=998000->g.av.length<=G.Ab.length->
  Calls prog 80 #[i6 g.mb,sl] w (jJ B4 (GS.Dr t G) g G w)
section
variable {w v:World} {g:MG} {G O O':GS} {F:List (Nat×Obj)} {P:List QB} {B4:Bool} {fn:Nat} {args:Array Value}
theorem CI.stx (h:CI w g G O F P [] (some B4) v):jJ B4 O g G w (.returned (.tuple #[])) v:=by
 cases B4 with
 | true=>exact h.Dr
 | false=>obtain⟨c,a,AV,h⟩:=h;exact⟨rfl,c,a,AV,h.st,h.al⟩
theorem CI.x (H:Hid (CI w g G O F P [] (some B4) v)) (hb:O'.Ac=O.Ac)
  (k:∀c a AV,Az v (MG.Ar {g with c:=c,a:=a,av:=AV} O)->A5 v (MG.Ar {g with c:=c,a:=a,av:=AV} O) F->C2 O.Ac->AV.length<=O.Ab.length->Calls prog fn args v (jJ B4 O' {g with c:=c,a:=a,av:=AV} O v)):
  Calls prog fn args v (fun e v'=>e= .returned (.tuple #[])/\Hid (CI w g G O' F P [] (some B4) v')):=by
 obtain⟨c,a,AV,h⟩:=H.out;have k1:=k c a AV h.st.Am h.kf h.hb h.al;cases B4 with
 | true=>
  refine(show Calls prog fn args v (StS O' {g with c:=c,a:=a,av:=AV} O v) from k1).mono ?_;exact maG
 | false=>
  refine(show Calls prog fn args v (wK O' {g with c:=c,a:=a,av:=AV} O v) from k1).mono ?_;rintro e v' ⟨rfl,c',a',av',s,hl⟩;exact⟨rfl,⟨c',a',av',h.st.trans s,h.kf.step s,h.kp.step s,(fun hi=>by cases hi),h.hb.eq hb,hl⟩⟩
end
theorem Aar (f s:Int) (a:At)⦃w v:World⦄⦃g:MG⦄⦃G O:GS⦄⦃F:List (Nat×Obj)⦄⦃P:List QB⦄⦃R:List Ob⦄⦃i:Option Bool⦄(H:Hid (CI w g G O F P R i v)) (hn:O.Ab.length<=999900:=by (try simp only[NT]);omega) (hok:FR a:=by assumption):
  Calls prog 136 #[i6 g.mb,.agg #[i5 f,i5 s,.bool a.AR,i5 a.v]] v (fun e v'=>e= .returned (.tuple #[])/\Hid (CI w g G (O.E7 f s a) F P R i v')):=
 CI.mk H (GS.fq _ _ _ _) (GS.jA _ _ _ _) (by have:=GS.Ec O a 0;rw[GS.Mk];omega) fun c1 a1 A1 h hb ha=>ig f s a v {g with c:=c1,a:=a1,av:=A1} O h hn ha hb hok
theorem AeQ⦃w v:World⦄⦃g:MG⦄⦃G O:GS⦄⦃F:List (Nat×Obj)⦄⦃P:List QB⦄⦃i:Bool⦄(H:Hid (CI w g G O F P [] (some i) v)) (hn:O.Ab.length<=999900:=by (try simp only[NT]);omega):
  Calls prog 137 #[i6 g.mb] v (fun e v'=>e= .returned (.tuple #[])/\Hid (CI w g G O.PK F P [] (some i) v')):=
 CI.ab H (GS.oT _) fun c1 a1 A1 h hb ha=>nB v {g with c:=c1,a:=a1,av:=A1} O h hn ha hb
theorem yw (B4:Bool) (x f s:Int) (a:At) (F:List (Nat×Obj)) (p:Nat) (w:World) (g:MG) (G:GS) (h:Az w (g.Ar G)) (hK:A5 w (g.Ar G) F) (hF:(p,Obj.cells #[i5 x,i5 f,i5 s,.bool a.AR,i5 a.v] 245 (0,0))∈F) (hn:G.Ab.length<=998000) (ha:g.av.length<=G.Ab.length) (FT:C2 G.Ac) (hok:FR a) (hv:0<=x/\x < 4):
  Calls prog 104 #[i6 g.mb,.iface 243 (i6 p)] w (jJ B4 (GS.Dr (.get x f s a .nil) G) g G w):=by
 have XB:=hK.Rz hF;have Cq:=hK.lt hF;have KL:=GS.DF G a 0;have xg:wrap64 (0+x)=x:=by rw[IntWalk.wrap64_in _ Y];omega
 have Pz:wrap64 x=x:=IntWalk.wrap64_in _ Y;refine CI.begin [] [(p,#[i5 x,i5 f,i5 s,.bool a.AR,i5 a.v],245)] (some B4) h (A5.nil _ _) (hK.Xx hF) FT ha ?_;clear h FT hK hF;intro v H;have ta0:=gv;have ta1:=gy;go_enter func104,ntmps104
 revert v H
 refine MW ?_;refine MK (Aar f s a) ?_;refine MK (AeQ) ?_;refine MK (Kr x) ?_;refine MK (xR 1) ?_;refine MK (jX x (.r 1)) ?_;intro v H
 intros
 go_end0
 rw[show GS.Dr (.get x f s a .nil) G=((G.E7 f s a).PK).st x (.r 1) from rfl];exact H.out.stx
theorem sO (a:At) (F:List (Nat×Obj)) (p:Nat) (w:World) (g:MG) (G:GS) (h:Az w (g.Ar G)) (hK:A5 w (g.Ar G) F) (hF:(p,Obj.cells #[.bool a.AR,i5 a.v] 251 (0,0))∈F) (hn:G.Ab.length<=998000) (ha:g.av.length<=G.Ab.length) (FT:C2 G.Ac) (hok:FR a) (Fs:G.block=false):
  Calls prog 104 #[i6 g.mb,.iface 249 (i6 p)] w (jJ false (GS.Dr (.out a .nil) G) g G w):=by
 have XB:=hK.Rz hF;have Cq:=hK.lt hF;have KL:=GS.DF G a 1;have Hbl:=hid Fs;have AfJ:True->(G.Cz a 1).block=false:=fun _=>((Aw.refl G).Cz a 1).block.trans Fs
 clear Fs;refine CI.begin [] [(p,#[.bool a.AR,i5 a.v],251)] (some false) h (A5.nil _ _) (hK.Xx hF) FT ha ?_;clear h FT hK hF;intro v H;have ta0:=VE;have ta1:=VF;have ta2:=Qg;have ta3:=Qh;go_enter func104,ntmps104
 revert v H
 refine MW ?_;refine MK (NZ a 1) ?_;refine MA #[.bool (GS.BF a 1).B0,i5 (GS.BF a 1).v] 264 ?_;intro b hb;refine MK (XI (.out (GS.BF a 1))) ?_;intro v H
 intros
 go_end0
 rw[show GS.Dr (.out a .nil) G=(G.Cz a 1).AP (.out (GS.BF a 1)) by simp[GS.Dr,Hbl.out]];exact H.out.stx
theorem sM (a:At) (F:List (Nat×Obj)) (p:Nat) (w:World) (g:MG) (G:GS) (h:Az w (g.Ar G)) (hK:A5 w (g.Ar G) F) (hF:(p,Obj.cells #[.bool a.AR,i5 a.v] 251 (0,0))∈F) (hn:G.Ab.length<=998000) (ha:g.av.length<=G.Ab.length) (FT:C2 G.Ac) (hok:FR a) (Fs:G.block=true):
  Calls prog 104 #[i6 g.mb,.iface 249 (i6 p)] w (jJ true (GS.Dr (.out a .nil) G) g G w):=by
 have XB:=hK.Rz hF;have Cq:=hK.lt hF;have KL:=GS.DF G a 1;have Hbl:=hid Fs;have AfJ:True->(G.Cz a 1).block=true:=fun _=>((Aw.refl G).Cz a 1).block.trans Fs
 clear Fs;refine CI.begin [] [(p,#[.bool a.AR,i5 a.v],251)] (some true) h (A5.nil _ _) (hK.Xx hF) FT ha ?_;clear h FT hK hF;intro v H;have ta0:=VE;have ta1:=VF;have ta2:=Qg;have ta3:=Qh;go_enter func104,ntmps104
 revert v H
 refine MW ?_;refine MK (NZ a 1) ?_;refine MA #[.bool (GS.BF a 1).B0,i5 (GS.BF a 1).v] 264 ?_;intro b hb;refine MK (Kr 39) ?_;refine MK (xy 2 39) ?_;refine MR [(0,true),(1,true),(3,true),(2,false),(4,false)] 4 ?_;refine ME (xof 40 2) ?_;refine ML (qE 40 2 (GS.BF a 1)) ?_;refine MK (xR 2) ?_;refine MK (xN 1) ?_;refine MK (ck Ja 2 (.r 2) (.n 1)) ?_;refine MK (Kr 39) ?_;refine MK (xR 2) ?_;refine MK (jX 39 (.r 2)) ?_;intro v H
 intros
 go_end0
 rw[show GS.Dr (.out a .nil) G=(((((G.Cz a 1).lo 2 39).IL 40 2 (GS.BF a 1)).Ix Ja 2 (.r 2) (.n 1)).st 39 (.r 2)) by simp[GS.Dr,Hbl.out]];exact H.out.stx
theorem yv (B4:Bool) (f s:Int) (ix a:At) (F:List (Nat×Obj)) (p:Nat) (w:World) (g:MG) (G:GS) (h:Az w (g.Ar G)) (hK:A5 w (g.Ar G) F) (hF:(p,Obj.cells #[i5 f,i5 s,.bool ix.AR,i5 ix.v,.bool a.AR,i5 a.v] 248 (0,0))∈F) (hn:G.Ab.length<=998000) (ha:g.av.length<=G.Ab.length) (FT:C2 G.Ac) (iP:FR ix) (hoa:FR a):
  Calls prog 104 #[i6 g.mb,.iface 246 (i6 p)] w (jJ B4 (GS.Dr (.put f s ix a .nil) G) g G w):=by
 have XB:=hK.Rz hF;have Cq:=hK.lt hF;have KL:=GS.DF G ix 0;have LG:=GS.DF (G.E7 f s ix) a 1;have iS:=GS.Mk G f s ix;refine CI.begin [] [(p,#[i5 f,i5 s,.bool ix.AR,i5 ix.v,.bool a.AR,i5 a.v],248)] (some B4) h (A5.nil _ _) (hK.Xx hF) FT ha ?_;clear h FT hK hF;intro v H;have ta0:=gq;have ta1:=gu;have ta2:=VD;go_enter func104,ntmps104
 revert v H
 refine MW ?_;refine MK (Aar f s ix) ?_;refine MR [(0,true),(1,true),(3,true),(4,true),(5,true),(6,true),(7,true),(2,false),(8,false),(9,false)] 9 ?_;refine ME (xof 14 0) ?_;refine ME (NZ a 1) ?_;refine ML (qD (.r 0) ((G.E7 f s ix).Ac+14) (GS.BF a 1)) ?_;refine MK (xof 8 0) ?_;refine MK (xN 1) ?_;refine MK (qE 8 0 (.n 1)) ?_;intro v H
 intros
 go_end0
 rw[show GS.Dr (.put f s ix a .nil) G=(((G.E7 f s ix).Cz a 1).AP (.store (.r 0) ((G.E7 f s ix).Ac+14) (GS.BF a 1))).IL 8 0 (.n 1) by simp only[GS.Dr,GS.IL,GS.Zv,GS.Yn]];exact H.out.stx
theorem fZ {cells:Int} {b:Bt} {sl:Value} {ws:List Value} {d:Nat} {G0:GS} (IH:Hid (OU F cells B4 (FH b))) (H3:Hid (EE F sl ws)) (H4:Hid (Ef F b ws)) (hw:WF cells b d B4) (hd:d<=3) (Fs:G0.block=B4) (Mv:G0.cells=cells) (UF:0<=G0.Aj/\G0.Aj<=(d:Int)) (hbg:G0.Ab.length+Cg b<=998000)
  (hb:(GS.Dr b G0).Ac=G0.Ac)⦃w v:World⦄⦃g:MG⦄⦃G:GS⦄⦃E:List (Nat×Obj)⦄⦃P:List QB⦄(H:Hid (CI w g G G0 E P [] (some B4) v)) (hE:∀x,x∈F->x∈E:=by (intro x hx;simp[hx])):
  Calls prog 80 #[i6 g.mb,sl] v (fun e v'=>e= .returned (.tuple #[])/\Hid (CI w g G (GS.Dr b G0) E P [] (some B4) v')):=
 CI.x H hb fun c1 a1 A1 h K hb ha=>IH.out b sl ws d v {g with c:=c1,a:=a1,av:=A1} G0 (LE _) H3 H4 hw hd h (K.sub hE) Fs Mv UF hb hbg ha
theorem Abz (B4:Bool) (cells:Int) (a:At) (b:Bt) (sp:Option Addr) (sn sc:Nat) (ws:List Value) (F:List (Nat×Obj)) (p:Nat) (w:World) (g:MG) (G:GS) (h:Az w (g.Ar G)) (hK:A5 w (g.Ar G) F) (hF:(p,Obj.cells #[.bool a.AR,i5 a.v,.slice sp sn sc] 258 (0,0))∈F) (hn:G.Ab.length<=998000) (ha:g.av.length<=G.Ab.length) (FT:C2 G.Ac) (hok:FR a) (d:Nat) (Db:0<=cells/\cells<=6) (Fs:G.block=B4) (Mv:G.cells=cells) (UF:0<=G.Aj/\G.Aj<=(d:Int)) (hd:d < 3) (P0:WF cells b (d+1) B4) (Acg:G.Ab.length+2+Cg b<=998000) (ih:OU F cells B4 (FH b)) (h3:EE F (.slice sp sn sc) ws) (h4:Ef F b ws):
  Calls prog 104 #[i6 g.mb,.iface 256 (i6 p)] w (jJ B4 (GS.Dr (.EA a b .nil) G) g G w):=by
 have XB:=hK.Rz hF;have Cq:=hK.lt hF;have IH:=hid ih;have H3:=hid h3;have H4:=hid h4;clear ih h3 h4;have KL:=GS.DF G a 1;have LG:=GS.Ec G a 1;have bj:Hid (Aw ((G.Cz a 1).CV (GS.BF a 1)) G):=((Aw.refl G).Cz a 1).AP (.jz (GS.BF a 1) 0);obtain⟨KJ,WK,hhi⟩:=O0 cells b Db (d+1) B4 ((G.Cz a 1).CV (GS.BF a 1)) P0 (bj.block.trans Fs) (bj.cells.trans Mv);have ZS:=hid KJ;clear KJ;try simp only[NT] at WK hhi
 have bB:0<=((G.Cz a 1).CV (GS.BF a 1)).Aj/\((G.Cz a 1).CV (GS.BF a 1)).Aj<=((d+1:Nat):Int):=by rw[show((G.Cz a 1).CV (GS.BF a 1)).Aj=G.Aj from bj.out.Aj];omega
 have hbg:((G.Cz a 1).CV (GS.BF a 1)).Ab.length+Cg b<=998000:=by (try simp only[NT]);omega
 refine CI.begin F [(p,#[.bool a.AR,i5 a.v,.slice sp sn sc],258)] (some B4) h hK (hK.Xx hF) FT ha ?_;clear h FT hK hF;intro v H;have ta0:=mg;have ta1:=mh;have ta2:=Yu;have ta3:=Yv;have ta4:=VJ;go_enter func104,ntmps104
 revert v H
 refine MW ?_;refine MK (NZ a 1) ?_;refine MZ (Tz (GS.BF a 1)) ?_;intro bas bms bks;refine MK (fZ (G0:=(G.Cz a 1).CV (GS.BF a 1)) IH H3 H4 P0 Y (bj.block.trans Fs) (bj.cells.trans Mv) bB hbg ZS.Ac) ?_;refine MK (JN (GS.BF a 1) bas bms bks _) ?_;intro v H
 intros
 go_end0
 rw[show GS.Dr (.EA a b .nil) G=(GS.Dr b ((G.Cz a 1).CV (GS.BF a 1))).Bd ⟨(G.Cz a 1).Ab.length,some (GS.BF a 1)⟩ from rfl];exact H.out.stx
theorem yF (n:Int) (b:Bt) (G X:GS) (hX:X=GS.Dr b (GS.dp (GS.st G (48+G.Aj) (.n n)) (G.Aj+1))) (hd:X.Aj=G.Aj+1) (hb:X.Ac=G.Ac):
  GS.Dr (.loop n b .nil) G=GS.Bd (GS.AP (GS.CV (GS.AP (GS.Ix (GS.AP (X.dp G.Aj) (.load 1 (.n (G.Ac+(48+G.Aj))) 0)) I9 1 (.r 1) (.n 1)) (.store (.n (G.Ac+(48+G.Aj))) 0 (.r 1))) (.r 1)) (.Gb (GS.Ab (GS.st G (48+G.Aj) (.n n))).length))
   ⟨(GS.Ab (GS.AP (GS.Ix (GS.AP (X.dp G.Aj) (.load 1 (.n (G.Ac+(48+G.Aj))) 0)) I9 1 (.r 1) (.n 1)) (.store (.n (G.Ac+(48+G.Aj))) 0 (.r 1)))).length,some (.r 1)⟩:=by
 have e:X.dp G.Aj=GS.Z2 X:=by unfold GS.Z2 GS.dp;rw[hd,Int.add_sub_cancel]
 rw[e,<-hb];subst hX;rfl
theorem sP (B4:Bool) (cells n:Int) (b:Bt) (sp:Option Addr) (sn sc:Nat) (ws:List Value) (F:List (Nat×Obj)) (p:Nat) (w:World) (g:MG) (G:GS) (h:Az w (g.Ar G)) (hK:A5 w (g.Ar G) F) (hF:(p,Obj.cells #[i5 n,.slice sp sn sc] 261 (0,0))∈F) (hn:G.Ab.length<=998000) (ha:g.av.length<=G.Ab.length) (FT:C2 G.Ac) (d:Nat) (Db:0<=cells/\cells<=6) (Fs:G.block=B4) (Mv:G.cells=cells) (UF:0<=G.Aj/\G.Aj<=(d:Int)) (hd:d < 3) (P0:WF cells b (d+1) B4) (Acg:G.Ab.length+2+Cg b<=998000) (ih:OU F cells B4 (FH b)) (h3:EE F (.slice sp sn sc) ws) (h4:Ef F b ws):
  Calls prog 104 #[i6 g.mb,.iface 259 (i6 p)] w (jJ B4 (GS.Dr (.loop n b .nil) G) g G w):=by
 have XB:=hK.Rz hF;have Cq:=hK.lt hF;have IH:=hid ih;have H3:=hid h3;have H4:=hid h4;clear ih h3 h4;have bj:Hid (Aw (GS.st G (48+G.Aj) (.n n)) G):=(Aw.refl G).AP _;obtain⟨KJ,WK,hhi⟩:=O0 cells b Db (d+1) B4 (GS.dp (GS.st G (48+G.Aj) (.n n)) (G.Aj+1)) P0 Fs Mv;have ZS:=hid KJ;clear KJ;try simp only[NT] at WK hhi
 have bB:0<=(GS.dp (GS.st G (48+G.Aj) (.n n)) (G.Aj+1)).Aj/\(GS.dp (GS.st G (48+G.Aj) (.n n)) (G.Aj+1)).Aj<=((d+1:Nat):Int):=by show 0<=G.Aj+1/\G.Aj+1<=_;omega
 have hbg:(GS.dp (GS.st G (48+G.Aj) (.n n)) (G.Aj+1)).Ab.length+Cg b<=998000:=by (try simp only[NT]);omega
 have p7:True->(GS.Dr b (GS.dp (GS.st G (48+G.Aj) (.n n)) (G.Aj+1))).Aj=G.Aj+1:=fun _=>ZS.Aj
 have bC:True->(GS.st G (48+G.Aj) (.n n)).Aj=G.Aj:=fun _=>rfl
 have xg:True->wrap64 (48+G.Aj)=48+G.Aj:=fun _=>IntWalk.wrap64_in _ Y
 have Pz:True->wrap64 (G.Aj+1)=G.Aj+1:=fun _=>IntWalk.wrap64_in _ Y
 have aX:True->wrap64 G.Aj=G.Aj:=fun _=>IntWalk.wrap64_in _ Y
 have Ot:True->wrap64 (G.Aj+1 - 1)=G.Aj:=fun _=>by rw[Int.add_sub_cancel];exact aX trivial
 refine CI.begin F [(p,#[i5 n,.slice sp sn sc],261)] (some B4) h hK (hK.Xx hF) FT ha ?_;clear h FT hK hF;intro v H;have ta0:=cG;have ta1:=cH;have ta2:=TJ;have ta3:=TL;have ta4:=Qi;have ta5:=MH;go_enter func104,ntmps104
 revert v H
 refine MW ?_;refine MK (Kr (48+G.Aj)) ?_;refine MA #[.bool false,i5 (G.Ac+(48+G.Aj)),i5 0] 270 ?_;intro pl Cq;refine MR [(0,true),(1,true),(2,true),(3,true),(4,true),(5,true),(6,false),(7,false)] 7 ?_;refine ME (xN n) ?_;refine MLL (jX (48+G.Aj) (.n n)) ?_;intro cc;refine MD (G.Aj+1) ?_;refine MK (fZ (G0:=GS.dp (GS.st G (48+G.Aj) (.n n)) (G.Aj+1)) IH H3 H4 P0 Y Fs Mv bB hbg ZS.Ac) ?_;refine MD G.Aj ?_;refine MK (jY 1 (.n (G.Ac+(48+G.Aj))) 0) ?_;refine MK (xR 1) ?_;refine MK (xN 1) ?_;refine MK (ck I9 1 (.r 1) (.n 1)) ?_;refine MR [(0,true),(1,true),(2,false),(3,false)] 3 ?_;refine ME (xR 1) ?_;refine ML (qD (.n (G.Ac+(48+G.Aj))) 0 (.r 1)) ?_;refine MK (xR 1) ?_;refine MZ (Tz (.r 1)) ?_;intro badn bmdn bkdn;refine MK (XI (.Gb (GS.Ab (GS.st G (48+G.Aj) (.n n))).length)) ?_;refine MK (JN (.r 1) badn bmdn bkdn _) ?_;intro v H
 intros
 go_end0
 rw[yF n b G _ rfl ZS.out.Aj ZS.out.Ac];exact H.out.stx
theorem A5.j5 {b:Nat} (h:A5 w L ((b,Obj.cells c T (0,0))::F)) (hf:∀q o,(q,o)∈F->q≠b) (i:Nat) (v:Value):
  A5 (w.setCell ⟨b,i,none⟩ v) L ((b,Obj.cells (c.setIfInBounds i v) T (0,0))::F):=by
 refine⟨fun q o hq=> ?_,fun q o hq=> ?_⟩
 ·rcases Pi.1 hq with hq | hq
  ·cases hq;exact BM.set (h.heap b _ (J ..)) i v
  ·exact((Av.refl [b] w).setCell (.inl EQ) v).heap (h.heap q o (U _ hq)) (by simp[hf q o hq])
 ·rcases Pi.1 hq with hq | hq
  ·cases hq;exact h.out b _ (J ..)
  ·exact h.out q o (U _ hq)
section
variable {w v:World} {g:MG} {G O:GS} {P:List QB} {b p:Nat} {cs ds:Array Value} {T Z99:TypeId} {F:List (Nat×Obj)} {R:List Ob} {i:Option Bool}
theorem CI.free (h:CI w g G O F ((b,cs,T)::P) R i v):∀k:Nat,v.frozen? ⟨b,k,none⟩=false:=let ⟨_,_,_,h⟩:=h;h.kp.free (J ..)
theorem CI.j5 (h:CI w g G O [] [(b,cs,T),(p,ds,Z99)] [] none v) (hb:w.heap.size<=b) (hp:p≠b) (k:Nat) (x:Value):CI w g G O [] [(b,cs.setIfInBounds k x,T),(p,ds,Z99)] [] none (v.setCell ⟨b,k,none⟩ x):=by
 obtain⟨c,a,AV,h⟩:=h;exact⟨c,a,AV,h.st.VP hb (h.kp.out b _ (J ..)) k x,A5.nil _ _,h.kp.j5 (fun q o hq=>by rw[Z.1 hq |> Qao Prod.fst |> fun e=>(e:q=p)];exact hp) k x,h.ab,h.hb,h.al⟩
theorem CI.AcW (h:CI w g G O F P [] none v) (Su:O.BL=G.BL) (hlen:G.Ab.length<=O.Ab.length) (ha:g.av.length<=G.Ab.length):jJ B4 O g G w (.returned (.tuple #[])) v:=by
 obtain⟨_,c,st⟩:=h.mks (ret:= .tuple #[]);cases B4 with
 | false=>exact⟨rfl,c,g.a,g.av,st,Y⟩
 | true=>exact⟨rfl,c,g.a,[],[],[],by rw[Su,i7],by rw[i7];exact st,A5.nil _ _,So.nil _ _ _,by simpa using hlen⟩
end
theorem sL (B4:Bool) (x:Int) (op:ByteArray) (a b:At) (F:List (Nat×Obj)) (p:Nat) (w:World) (g:MG) (G:GS) (h:Az w (g.Ar G)) (hK:A5 w (g.Ar G) F) (hF:(p,Obj.cells #[i5 x,.string op,.bool a.AR,i5 a.v,.bool b.AR,i5 b.v] 238 (0,0))∈F) (hn:G.Ab.length<=998000) (ha:g.av.length<=G.Ab.length) (FT:C2 G.Ac) (hv:0<=x/\x < 4) (hoa:FR a) (ee:FR b) (Kj:op.size=0):
  Calls prog 104 #[i6 g.mb,.iface 233 (i6 p)] w (jJ B4 (GS.Dr (.set x op a b .nil) G) g G w):=by
 have XB:=hK.Rz hF;have Cq:=hK.lt hF;have xg:True->IntKind.i64.wrap (0+x)=x:=fun _=>by rw[IntWalk.i64_in _ Y];omega
 have Pz:True->IntKind.i64.wrap x=x:=fun _=>IntWalk.i64_in _ Y
 have KL:=GS.DF G a 1;have iS:=GS.Ec G a 1;have hq:(op.toList==[])=true:=by rw[ByteArray.toList_eq];have:op.data= #[]:=Array.size_eq_zero_iff.1 Kj;rw[this];rfl
 have Hop:=hid Kj;clear Kj;refine CI.begin [] [(p,#[i5 x,.string op,.bool a.AR,i5 a.v,.bool b.AR,i5 b.v],238)] none h (A5.nil _ _) (hK.Xx hF) FT ha ?_;clear h FT hK hF;intro v H;have ta0:=VC;go_enter func104,ntmps104
 revert v H
 refine MW ?_;refine MK (NZ a 1) ?_;refine MA #[.bool (GS.BF a 1).B0,i5 (GS.BF a 1).v] 264 ?_;intro q ct;refine MR [(0,true),(1,true),(2,true),(3,true),(4,true),(5,true),(6,true),(8,true),(7,false),(9,false)] 9 ?_;refine ME (Kr x) ?_;refine ML (jX x (GS.BF a 1)) ?_;intro v H
 intros
 go_end0
 rw[show GS.Dr (.set x op a b .nil) G=GS.st ((G.Cz a 1)) x (GS.BF a 1) by simp[GS.Dr,Hop.out]];exact H.out.AcW (by rw[GS.cM,GS.Kt]) (by simp only[NT];omega) ha
theorem sK (B4:Bool) (x:Int) (op:ByteArray) (a b:At) (F:List (Nat×Obj)) (p:Nat) (w:World) (g:MG) (G:GS) (h:Az w (g.Ar G)) (hK:A5 w (g.Ar G) F) (hF:(p,Obj.cells #[i5 x,.string op,.bool a.AR,i5 a.v,.bool b.AR,i5 b.v] 238 (0,0))∈F) (hn:G.Ab.length<=998000) (ha:g.av.length<=G.Ab.length) (FT:C2 G.Ac) (hv:0<=x/\x < 4) (hoa:FR a) (ee:FR b) (Kj:¬op.size=0):
  Calls prog 104 #[i6 g.mb,.iface 233 (i6 p)] w (jJ B4 (GS.Dr (.set x op a b .nil) G) g G w):=by
 have XB:=hK.Rz hF;have Cq:=hK.lt hF;have xg:True->IntKind.i64.wrap (0+x)=x:=fun _=>by rw[IntWalk.i64_in _ Y];omega
 have Pz:True->IntKind.i64.wrap x=x:=fun _=>IntWalk.i64_in _ Y
 have KL:=GS.DF G a 1;have iS:=GS.Ec G a 1;have hq:(op.toList==[])=false:=by
  rw[ByteArray.toList_eq,NE];intro h';apply Kj;have:op.data.toList.length=0:=by rw[h'];rfl
  simpa using this
 have LG:=GS.DF (G.Cz a 1) b 2;have hl4:=GS.Ec (G.Cz a 1) b 2;have Hop:=hid Kj;clear Kj;refine CI.begin [] [(p,#[i5 x,.string op,.bool a.AR,i5 a.v,.bool b.AR,i5 b.v],238)] none h (A5.nil _ _) (hK.Xx hF) FT ha ?_;clear h FT hK hF;intro v H;have ta0:=VC;go_enter func104,ntmps104
 revert v H
 refine MW ?_;refine MK (NZ a 1) ?_;refine MA #[.bool (GS.BF a 1).B0,i5 (GS.BF a 1).v] 264 ?_;intro q ct;refine MR [(0,true),(1,true),(2,true),(3,true),(4,true),(5,true),(6,true),(7,true),(8,true),(9,true),(10,true),(11,false),(12,false)] 12 ?_;refine ME (NZ b 2) ?_;refine ML (ck op 1 (GS.BF a 1) (GS.BF b 2)) ?_;intro v H
 intros
 refine(xR 1 H).mono ?_;clear H;rintro e v ⟨rfl,H⟩;have kf:=H.out.free;obtain⟨q1,q2,q3,q4,q5,q6,q7,q8,q9,q10⟩:=H.out.Mf;go_wp2_with (with_reducible refine Nz ?_);have hpq:p≠q:=Y
 obtain⟨v2,uf⟩:∃z,z=(v.setCell ⟨q,0,none⟩ (.bool true)).setCell ⟨q,1,none⟩ (i5 1):=⟨_,rfl⟩;have H2:=hid ((H.out.j5 ct.2 hpq 0 (.bool true)).j5 ct.2 hpq 1 (i5 1));rw[<-uf] at H2⊢;clear kf q1 q2 q3 q4 q5 q6 q7 q8 q9 q10 hpq uf H
 revert v2 H2
 refine MR [(0,true),(1,true),(2,true),(3,true),(4,true),(5,true),(6,true),(8,true),(7,false),(9,false)] 9 ?_;refine ME (Kr x) ?_;refine ML (jX x (.r 1)) ?_;intro v H
 intros
 go_end0
 rw[show GS.Dr (.set x op a b .nil) G=GS.st (((G.Cz a 1).Cz b 2).Ix op 1 (GS.BF a 1) (GS.BF b 2)) x (.r 1) by simp[GS.Dr,Hop.out]];exact H.out.AcW (by show(GS.st _ _ _).BL=_;rw[GS.cM,GS.YS,GS.Kt,GS.Kt]) (by simp only[NT];omega) ha
def skR (sp:Option Addr) (sc k:Nat) (xs:List Value):List Ob:=[.row (.slice sp k sc) 1 1 k xs]
theorem CI.Aeq (h:CI w g G O F P [] i v):CI w g G O F P (skR none 0 0 []) i v:=
 let ⟨c,a,AV,h⟩:=h
 have s:=V5 (o:= .row (.slice none 0 0) 1 1 0 []) (show Az v (MG.Ar {g with c:=c,a:=a,av:=AV} O) from h.st.Am) (Da _ _ _ _) rfl
 ⟨c,a,AV,h.st.trans s,h.kf.step s,h.kp.step s,h.ab.step s rfl (LE _),h.hb,h.al⟩
theorem CJ.AcY {v':World} {c a:SG} {AV:List Value} {sp sq:Option Addr} {sc sd l:Nat} {ys:List Value} (h:CJ w g G O c a AV F P (skR sp sc k xs) i v)
  (s:Ak v (MG.Ar {g with c:=c,a:=a,av:=AV} O++skR sp sc k xs) v' (MG.Ar {g with c:=c,a:=a,av:=AV} O++skR sq sd l ys)):CI w g G O F P (skR sq sd l ys) i v':=
 ⟨c,a,AV,h.st.trans s,h.kf.step s,h.kp.step s,h.ab.step s rfl (LE _),h.hb,h.al⟩
theorem rP {g:Nat} {v:Value} (Cu:∀i,(hi:i < (xs++[v]).length)->w.cell? ⟨g,i,none⟩=some (xs++[v])[i]) (h:xs.length=k):w.cell? ⟨g,k,none⟩=some v:=by
 subst h;rw[Cu xs.length EQ];simp
theorem dE (w:World) (g:MG) (G:GS) (h:Az w (g.Ar G)) (hn:G.Ab.length<=999000) (ha:g.av.length<=G.Ab.length) (FT:C2 G.Ac) (Db:0<=G.cells/\G.cells<=6):
  Calls prog 156 #[i6 g.mb] w (StS (G.Eu) g G w):=by
 refine CI.begin [] [] (some true) h (A5.nil _ _) (A5.nil _ _) FT ha ?_;clear h FT;intro v H;go_enter func156,ntmps156
 revert v H
 refine MW ?_;refine MA #[i6 g.mb] 166 ?_;intro bx JK;intro v H
 intros
 go_loopw [19] (fun iv wr=>LR GS.Om G.cells w g G G [] [(bx,#[i6 g.mb],166)] [] (some true) iv wr) (fun iv _=>(G.cells:Int).toNat - (intOf iv).toNat);case atStart=>exact LR.start Db.1 H.out
 case round=>
  clear H;obtain⟨k,Gk,rfl,Sr,hl,HG,HC,H⟩:=LR.open hrel GS.Y5 (Aw.Om);clear hrel;by_cases hk:(k:Int) < G.cells
  ·have Vg:Gk.Ab.length<=999100:=Y
   have Ta:k<=100:=Y
   obtain⟨z0,z1,z2,z3,z4,z5,z6,z7,y0,y1,y2,y3,zi⟩:=wrs k Ta;clear hl
   revert wr H
   refine MW ?_;refine MZ (cA (k:Int) 8 bx) ?_;intro bas bms bks;refine MK (xN (8+(k:Int))) ?_;refine MA #[.bool false,i5 (8+(k:Int)),i5 0] 270 ?_;intro pl Cq;refine MK (qI 2 (8+(k:Int))) ?_;refine MK (qG 2) ?_;refine MR [(0,true),(1,false),(2,false),(3,false)] 3 ?_;refine ME (xR 2) ?_;refine ME (xN 1) ?_;refine ML (ck sJ 3 (.r 2) (.n 1)) ?_;refine MR [(0,true),(1,true),(2,false),(3,false),(4,true),(5,true),(6,false)] 6 ?_;refine ME (xR 2) ?_;refine ME (xR 3) ?_;refine ML (XI (.JL 3 (.n (8+(k:Int))) 0 (.r 2) (.r 3))) ?_;refine MK (ZV 3) ?_;refine MR [(0,true),(1,true),(2,true),(3,true),(4,false),(5,false),(6,false)] 6 ?_;refine ME (Kr (26+(k:Int))) ?_;refine ME (xN 1) ?_;refine ML (jX (26+(k:Int)) (.n 1)) ?_;refine MR [(0,true),(1,true),(2,true),(3,true),(4,false),(5,false),(6,false)] 6 ?_;refine ME (Kr (32+(k:Int))) ?_;refine ME (xR 2) ?_;refine ML (jX (32+(k:Int)) (.r 2)) ?_;refine MK (JN (.r 1) bas bms bks _) ?_;exact maF
  ·have NS:k=(G.cells:Int).toNat:=Y
   rw[NS] at HG;have Vg:Gk.Ab.length<=999100:=Y
   replace hk:=Qal hk;clear hl Sr NS;obtain⟨G1,hG1⟩:∃z,z=Gk:=⟨_,rfl⟩;rw[<-hG1] at HG HC H Vg;have HG1:=HG;have jS:=HC;clear hG1 HG HC;have KM:True->G1.cells=G.cells:=fun _=>jS.out.cells
   revert wr H
   refine MW ?_;refine MR [(0,true),(1,false),(2,true),(3,false),(4,true),(5,true),(6,false)] 6 ?_;refine ME (xN 16) ?_;refine ME (xN 1) ?_;refine ML (XI (.DL 5 (.n 16) 0 (.n 1))) ?_;refine MR [(0,true),(1,false),(2,false),(3,false)] 3 ?_;refine ME (xR 5) ?_;refine ME (xN 1) ?_;refine ML (ck Ja 5 (.r 5) (.n 1)) ?_;refine MR [(0,true),(1,false),(2,false),(3,false)] 3 ?_;refine ME (xR 5) ?_;refine ME (xN 1) ?_;have JC:True->(GS.Ix (GS.Ix (GS.AP G1 (.DL 5 (.n 16) 0 (.n 1))) Ja 5 (.r 5) (.n 1)) Qy 5 (.r 5) (.n 1)).cells=G.cells:=KM;refine ML (ck Qy 5 (.r 5) (.n 1)) ?_;obtain⟨G2,xp⟩:∃z,z=GS.Ix (GS.Ix (GS.AP G1 (.DL 5 (.n 16) 0 (.n 1))) Ja 5 (.r 5) (.n 1)) Qy 5 (.r 5) (.n 1):=⟨_,rfl⟩;have AgM:G2.Ab.length<=999110:=by rw[xp];simp only[NT];omega
   rw[<-xp] at JC⊢;have HG2:=hid xp;clear xp;intro v H
   intros
   go_loopw [83] (fun iv wr=>LR GS.Ol G.cells w g G G2 [] [(bx,#[i6 g.mb],166)] [] (some true) iv wr) (fun iv _=>(G.cells:Int).toNat - (intOf iv).toNat);case atStart=>exact LR.start Db.1 H.out
   case round=>
    clear H;obtain⟨k,Gk,rfl,Sr,hl,HG,HC,H⟩:=LR.open hrel GS.Y4 (Aw.Ol);clear hrel;by_cases hk:(k:Int) < G.cells
    ·have Vg:Gk.Ab.length<=999200:=Y
     have Ta:k<=100:=Y
     obtain⟨z0,z1,z2,z3,z4,z5,z6,z7,y0,y1,y2,y3,zi⟩:=wrs k Ta;clear hl
     revert wr H
     refine MW ?_;refine MZ (cA (k:Int) 20 bx) ?_;intro bas bms bks;refine MZ (cA (k:Int) 26 bx) ?_;intro bam bmm bkm;refine MJJ jZ ?_;intro bmo bko;refine MK (JN (.r 1) bam bmm bkm _) ?_;refine MR [(0,true),(1,true),(2,true),(3,false),(4,true),(5,false)] 5 ?_;refine ME (xN (8+(k:Int))) ?_;refine ML (qI 2 (8+(k:Int))) ?_;refine MK (qG 2) ?_;refine MK (qK bmo bko _) ?_;refine MK (JN (.r 1) bas bms bks _) ?_;exact maF
    ·have NS:k=(G.cells:Int).toNat:=Y
     rw[NS] at HG;have Vg:Gk.Ab.length<=999200:=Y
     replace hk:=Qal hk;clear hl Sr NS;obtain⟨G3,zB⟩:∃z,z=Gk:=⟨_,rfl⟩;rw[<-zB] at HG HC H Vg;have HG3:=HG;have Agf:=HC;clear zB HG HC;have xo:True->G3.cells=G.cells:=fun _=>Agf.out.cells.trans (JC trivial)
     revert wr H
     refine MW ?_;intro v H
     intros
     go_loopw [113,2] (fun iv s wr=>∃(k:Nat) (sp:Option Addr) (sc:Nat) (xs:List Value),iv= i5 k/\s= .slice sp k sc/\(k:Int)<=G.cells/\CI w g G (GS.LW GS.Uw k G3) [] [(bx,#[i6 g.mb],166)] (skR sp sc k xs) (some true) wr) (fun i _ _=>G.cells.toNat - (intOf i).toNat);case atStart=>exact⟨0,none,0,[],rfl,rfl,Db.1,H.Aeq⟩
     case round=>
      clear H;obtain⟨k,sp,sc,xs,rfl,rfl,Sr,hI⟩:=hrel;obtain⟨k1,Gk,Iu,Afw,hl,HG,HC,H⟩:=LR.open (show LR GS.Uw G.cells w g G G3 [] [(bx,#[i6 g.mb],166)] (skR sp sc k xs) (some true) (i5 k) wr from⟨k,rfl,Sr,hI⟩) GS.di Aw.Uw;obtain rfl:k=k1:=by simp at Iu;omega
      clear hI Afw Iu;by_cases hk:(k:Int) < G.cells
      ·have Vg:Gk.Ab.length<=999230:=Y
       have Ta:k<=100:=Y
       obtain⟨z0,z1,z2,z3,z4,z5,z6,z7,y0,y1,y2,y3,zi⟩:=wrs k Ta;obtain⟨j0,hj,KW,Fo,K7⟩:=info_parts kI;have Ab7:k+1<=maxLen:=by unfold maxLen;omega
       have Ab6:(k+1)*8<=140737488355328:=Y
       clear hl
       revert wr H
       refine MW ?_;intro v H
       intros
       refine(cA (k:Int) 8 bx H).mono ?_;clear H;rintro e v ⟨ba,bm,bk,rfl,H⟩;obtain⟨c,a,AV,HJ⟩:=H.out;have hg:=hid HJ;obtain⟨q1,q2,q3,q4,q5,q6,q7,q8,q9⟩:=H.Mf;clear HJ;go_wp2_with (first | (with_reducible refine Nz ?_) | (at_builtin;refine B6 8 _ _ _ j0 _ #[.func (.func 154) #[] #[i6 ba,i6 bm,i6 bk]] _ hg.st.Am (k:=3) rfl Do Do underlying167 hj KW Fo K7 rfl Nat.zero_lt_one Do Do rfl (by simp[Value.oneCell']) Ab7 Ab6 ?_;intro g6 AZ w6 AD hx9;clear hx9;rw[LA] at AD;have KT:=hid AD;clear AD q1 q2 q3 q4 q5 q6 q7 q8 q9));replace H:=hid (hg.AcY KT);clear KT hg j0 hj KW Fo K7
       revert w6 H
       refine MR [(0,true),(1,true),(2,true),(3,true),(4,false),(5,false)] 5 ?_;refine ME (Kr (14+(k:Int))) ?_;refine ML (xy 2 (14+(k:Int))) ?_;refine MR [(0,true),(1,true),(2,false),(3,true),(4,false),(5,false)] 5 ?_;refine ME (xN (k:Int)) ?_;refine ME (xR 2) ?_;intro v H
       intros
       refine Ai rfl (fun zK hK=> ?_);go_simp;refine(qF (k:Int) (.r 2) H).mono ?_;clear H;rintro e v ⟨rfl,H⟩;obtain⟨c2,a2,AV2,HJ⟩:=H.out;have hrw:=HJ.st.Am.row (i:=3) rfl;obtain⟨Cu,C6,P2⟩:=Bm hrw;have hrk:v.cell? ⟨g6,k,none⟩=some (.func (.func 154) #[] #[i6 ba,i6 bm,i6 bk]):=rP Cu (by simpa using hrw.1);clear hrw Cu HJ;refine hK _ _ (fun h=>UV rfl h) ?_;clear hK zK;simp only[BB];go_wp2_with (with_reducible refine Nz ?_);clear hrk C6 P2
       revert v H
       refine MK (JN (.r 1) ba bm bk _) ?_;intro v H;go_roundw;case rel=>exact⟨k+1,_,_,_,rfl,rfl,Y,by rw[GS.LW,<-HG.out];exact H.sub EQ EQ⟩
       case measure=>simp[intOf];omega
      ·have NS:k=(G.cells:Int).toNat:=Y
       rw[NS] at HG;have Vg:Gk.Ab.length<=999230:=Y
       replace hk:=Qal hk;clear hl Sr NS;obtain⟨G4,hG4⟩:∃z,z=Gk:=⟨_,rfl⟩;rw[<-hG4] at HG HC H Vg;have HG4:=HG;have WR:True->G4.cells=G.cells:=fun _=>HC.out.cells.trans (xo trivial)
       clear hG4 HG HC;replace H:=hid H.Aek
       revert wr H
       refine MW ?_;intro v H
       intros
       go_loopw [144] (fun iv wr=>LR GS.OH G.cells w g G G4 [] [(bx,#[i6 g.mb],166)] [] (some true) iv wr) (fun iv _=>(G.cells:Int).toNat - (intOf iv).toNat);case atStart=>exact LR.start Db.1 H.out
       case round=>
        clear H;obtain⟨k,Gk,rfl,Sr,hl,HG,HC,H⟩:=LR.open hrel GS.Zn (Aw.OH);clear hrel;by_cases hk:(k:Int) < G.cells
        ·have Vg:Gk.Ab.length<=999260:=Y
         have Ta:k<=100:=Y
         obtain⟨z0,z1,z2,z3,z4,z5,z6,z7,y0,y1,y2,y3,zi⟩:=wrs k Ta;clear hl
         revert wr H
         refine MW ?_;refine MZ (cA (k:Int) 8 bx) ?_;intro bas bms bks;refine MR [(0,true),(1,true),(2,true),(3,false),(4,true),(5,false),(6,false)] 6 ?_;refine ME (xN (8+(k:Int))) ?_;refine ME (xR 5) ?_;refine ML (qF (8+(k:Int)) (.r 5)) ?_;refine MK (JN (.r 1) bas bms bks _) ?_;exact maF
        ·have NS:k=(G.cells:Int).toNat:=Y
         rw[NS] at HG;have Vg:Gk.Ab.length<=999260:=Y
         replace hk:=Qal hk;clear hl Sr NS;obtain⟨G5,kV⟩:∃z,z=Gk:=⟨_,rfl⟩;rw[<-kV] at HG HC H Vg;have HG5:=HG;have Ag5:=HC;clear kV HG HC
         revert wr H
         refine MW ?_;intro v H
         intros
         go_end0
         have e:G.Eu=G5:=by rw[HG5.out,HG4.out,HG3.out,HG2.out,HG1.out];rfl
         rw[e];exact H.Dr
end Go.Proofs.YtpdfifdlhpmofaaGreatDoor
