/-
  Part 30 of the proof.
-/
import Derived.Test.YtpdfifdlhpmofaaGreatDoorZ29
set_option linter.unusedVariables false
set_option linter.unusedSimpArgs false
set_option maxHeartbeats 3200000
set_option maxRecDepth 100000
namespace Go.Proofs.YtpdfifdlhpmofaaGreatDoor
open Go.RowKit Tryz
open Go.Lib (hid)
variable {B4:Bool} {F:List (Nat×Obj)} {w wr:World} {g:MG} {G:GS} {c a:SG} {av:List Value}
def Sn (F:List (Nat×Obj)) (cells:Int):Prop:=
 ∀(b:Bt) (sp:Option Addr) (sn sc:Nat) (ws:List Value) (p:Nat) (w:World) (g:MG) (G:GS) (d:Nat),Az w (g.Ar G)->A5 w (g.Ar G) F->(p,Obj.cells #[.slice sp sn sc] 255 (0,0))∈F->
  G.Ab.length+296+Cg b<=998000->g.av.length<=G.Ab.length->C2 G.Ac->G.block=false->G.cells=cells->(0<=G.Aj/\G.Aj<=(d:Int))->d < 3->WF cells b (d+1) true->OU F cells true (FH b)->FH b<=1000->
  EE F (.slice sp sn sc) ws->Ef F b ws->Calls prog 142 #[i6 g.mb,i6 p] w (wK (GS.Dr (.atomic b .nil) G) g G w)
theorem Aba (t:Bt) (G:GS):GS.Dr t G=GS.Dr (xH t) (GS.Dr (fU t) G):=by
 cases t <;>rfl
theorem zV (t:Bt):Cg t=Cg (fU t)+Cg (xH t):=by
 cases t <;>simp[Cg,fU,xH]
theorem AcV (t:Bt):FH (xH t)<=FH t:=by
 cases t <;>simp[FH,xH]
theorem AaQ {cells:Int} {t:Bt} {d:Nat} {i:Bool} (h:WF cells t d i):WF cells (fU t) d i/\WF cells (xH t) d i:=by
 cases t with
 | nil=>exact⟨trivial,trivial⟩
 | set v op a b r=>exact⟨⟨h.1,h.2.1,h.2.2.1,h.2.2.2.1,trivial⟩,h.2.2.2.2⟩
 | get v f s a r=>exact⟨⟨h.1,h.2.1,h.2.2.1,h.2.2.2.1,trivial⟩,h.2.2.2.2⟩
 | put f s a b r=>exact⟨⟨h.1,h.2.1,h.2.2.1,h.2.2.2.1,trivial⟩,h.2.2.2.2⟩
 | out a r=>exact⟨⟨h.1,trivial⟩,h.2⟩
 | atomic b r=>exact⟨⟨h.1,h.2.1,h.2.2.1,trivial⟩,h.2.2.2⟩
 | EA a b r=>exact⟨⟨h.1,h.2.1,h.2.2.1,trivial⟩,h.2.2.2⟩
 | loop n b r=>exact⟨⟨h.1,h.2.1,h.2.2.1,trivial⟩,h.2.2.2⟩
theorem gZ (F:List (Nat×Obj)) (cells:Int) (hA:Sn F cells) (b:Bt) (sp:Option Addr) (sn sc:Nat) (ws:List Value) (p:Nat) (w:World) (g:MG) (G:GS) (d:Nat) (h:Az w (g.Ar G)) (hK:A5 w (g.Ar G) F) (hF:(p,Obj.cells #[.slice sp sn sc] 255 (0,0))∈F)
  (hn:G.Ab.length+296+Cg b<=998000) (ha:g.av.length<=G.Ab.length) (hb:C2 G.Ac) (Fs:G.block=false) (Mv:G.cells=cells) (UF:0<=G.Aj/\G.Aj<=(d:Int)) (hd:d < 3) (P0:WF cells b (d+1) true) (ih:OU F cells true (FH b)) (hz:FH b<=1000)
  (h3:EE F (.slice sp sn sc) ws) (h4:Ef F b ws):
  Calls prog 104 #[i6 g.mb,.iface 253 (i6 p)] w (wK (GS.Dr (.atomic b .nil) G) g G w):=by
 have HC:=hid (hA b sp sn sc ws p w g G d h hK hF hn ha hb Fs Mv UF hd P0 ih hz h3 h4);clear h hK hF hn ha hb Fs Mv UF hd P0 ih h3 h4 hA;have ta0:=XO;have ta1:=XP;have ta2:=PX;have ta3:=PY;have ta4:=MN;have ta5:=Kv;have ta6:=LQ;go_enter func104,ntmps104;go_wp2_with fail;refine HC.mono ?_;rintro e w1 ⟨rfl,c,a,av,st,hav⟩;have S:=hid st;have qy:=hid hav;clear st hav;go_wp2_with fail
 go_end0
 exact⟨rfl,c,a,av,S,qy⟩
theorem nj (F:List (Nat×Obj)) (cells:Int) (Db:0<=cells/\cells<=6) (hA:Sn F cells) (B4:Bool) (n:Nat) (hn9:n<=1000) (ihn:∀m,m < n->∀i,OU F cells i m) (t:Bt) (v:Value) (us:List Value) (d:Nat) (w:World) (g:MG) (G:GS) (Ia:FH t<=n) (hs:Ef F t (v::us)) (hw:WF cells t d B4) (hd:d<=3)
  (h:Az w (g.Ar G)) (hK:A5 w (g.Ar G) F) (Fs:G.block=B4) (Mv:G.cells=cells) (UF:0<=G.Aj/\G.Aj<=(d:Int)) (hb:C2 G.Ac) (hn:G.Ab.length+Cg (fU t)<=998000) (ha:g.av.length<=G.Ab.length):
  Calls prog 104 #[i6 g.mb,v] w (jJ B4 (GS.Dr (fU t) G) g G w):=by
 cases t with
 | nil=>cases hs
 | set x op a b r=>
  obtain⟨p,q,h1,h2,_⟩:=hs;cases h1;simp only[Cg,fU] at hn;by_cases Kj:op.size=0
  ·exact sL B4 x op a b F p w g G h hK h2 Y ha hb hw.1 hw.2.2.1 hw.2.2.2.1 Kj
  ·exact sK B4 x op a b F p w g G h hK h2 Y ha hb hw.1 hw.2.2.1 hw.2.2.2.1 Kj
 | get x f s a r=>
  obtain⟨p,q,h1,h2,_⟩:=hs;cases h1;simp only[Cg,fU] at hn;exact yw B4 x f s a F p w g G h hK h2 Y ha hb hw.2.2.1 hw.1
 | put f s i a r=>
  obtain⟨p,q,h1,h2,_⟩:=hs;cases h1;simp only[Cg,fU] at hn;exact yv B4 f s i a F p w g G h hK h2 Y ha hb hw.2.1 hw.2.2.1
 | out a r=>
  obtain⟨p,q,h1,h2,_⟩:=hs;cases h1;simp only[Cg,fU] at hn;cases B4 with
  | false=>exact sO a F p w g G h hK h2 Y ha hb hw.1 Fs
  | true=>exact sM a F p w g G h hK h2 Y ha hb hw.1 Fs
 | atomic b r=>
  obtain⟨p,q,sl,ws,h1,h2,h3,h4,_⟩:=hs;cases h1;simp only[Cg,fU] at hn;simp only[FH] at Ia;have hi:B4=false:=hw.1;subst hi;obtain⟨sp,sc,rfl⟩:=h3.KO;exact gZ F cells hA b sp _ sc ws p w g G d h hK h2 Y ha hb Fs Mv UF hw.2.1 hw.2.2.1 (ihn _ Y true) Y h3 h4
 | EA a b r=>
  obtain⟨p,q,sl,ws,h1,h2,h3,h4,_⟩:=hs;cases h1;simp only[Cg,fU] at hn;simp only[FH] at Ia;obtain⟨sp,sc,rfl⟩:=h3.KO;exact Abz B4 cells a b sp _ sc ws F p w g G h hK h2 Y ha hb hw.1 d Db Fs Mv UF hw.2.1 hw.2.2.1 Y (ihn _ Y B4) h3 h4
 | loop m b r=>
  obtain⟨p,q,sl,ws,h1,h2,h3,h4,_⟩:=hs;cases h1;simp only[Cg,fU] at hn;simp only[FH] at Ia;obtain⟨sp,sc,rfl⟩:=h3.KO;exact sP B4 cells m b sp _ sc ws F p w g G h hK h2 Y ha hb d Db Fs Mv UF hw.2.1 hw.2.2.1 Y (ihn _ Y B4) h3 h4
structure Cur (B4:Bool) (F:List (Nat×Obj)) (w:World) (g:MG) (G G':GS) (c a:SG) (av:List Value) (wr:World):Prop where
 st:Ak w (g.Ar G) wr (MG.Ar {g with c:=c,a:=a,av:=av} G')
 AN:A5 wr (MG.Ar {g with c:=c,a:=a,av:=av} G') F
 len:av.length<=G'.Ab.length
 ab:B4=true->∃vs ls E,av=g.av++vs/\G'.BL=G.BL++ls/\A5 wr (MG.Ar {g with c:=c,a:=a,av:=av} G') E/\So E g.mb G'.Ab.length vs ls/\vs.length+G.Ab.length<=G'.Ab.length
theorem Cur.start (h:Az w (g.Ar G)) (hK:A5 w (g.Ar G) F) (ha:g.av.length<=G.Ab.length):Cur B4 F w g G G g.c g.a g.av w:=
 ⟨Ak.refl h,hK,ha,fun _=>⟨[],[],[],(i7 _).symm,(i7 _).symm,A5.nil _ _,So.nil _ _ _,EQ⟩⟩
theorem Cur.next {G1 G2:GS} {w':World} {e:Ending} (h:Cur B4 F w g G G1 c a av wr) (k:jJ B4 G2 {g with c:=c,a:=a,av:=av} G1 wr e w') (hl:G1.Ab.length<=G2.Ab.length):
  e= .returned (.tuple #[])/\∃c' a' av',Cur B4 F w g G G2 c' a' av' w':=by
 cases B4 with
 | false=>
  obtain⟨rfl,c',a',av',st,hav⟩:=k;exact⟨rfl,c',a',av',⟨h.st.trans st,h.AN.step st,hav,fun h'=>by cases h'⟩⟩
 | true=>
  obtain⟨rfl,c',a',vs',ls',E',Su,st,kn,an,hv⟩:=k;obtain⟨vs,ls,E,rfl,ab0,k0,an0,hv0⟩:=h.ab rfl;dsimp only at st kn an;refine⟨rfl,c',a',(g.av++vs)++vs',⟨h.st.trans st,h.AN.step st,?_,fun _=> ?_⟩⟩
  ·have:=h.len;rw[V] at this⊢;rw[V];omega
  ·exact⟨vs++vs',ls++ls',E'++E,PP _ _ _,by rw[Su,ab0,PP],(k0.step st).aS kn,an0.Fj an hl,by rw[V];omega⟩
theorem Cur.stop {G':GS} (h:Cur B4 F w g G G' c a av wr):jJ B4 G' g G w (.returned (.tuple #[])) wr:=by
 cases B4 with
 | false=>exact⟨rfl,c,a,av,h.st,h.len⟩
 | true=>
  obtain⟨vs,ls,E,rfl,ab0,k0,an0,hv0⟩:=h.ab rfl;exact⟨rfl,c,a,vs,ls,E,ab0,h.st,k0,an0,hv0⟩
structure Left (B4:Bool) (cells:Int) (F:List (Nat×Obj)) (t:Bt) (d:Nat) (G:GS) (vs:List Value) (n k:Nat) (t':Bt) (G':GS):Prop where
 eq:GS.Dr t G=GS.Dr t' G'
 st:Ef F t' (vs.drop k)
 wf:WF cells t' d B4
 same:Aw G' G
 bud:G'.Ab.length+Cg t'<=998000
 sz:FH t'<=n
 lo:G.Ab.length<=G'.Ab.length
theorem gY (F:List (Nat×Obj)) (cells:Int) (Db:0<=cells/\cells<=6) (hA:Sn F cells) (n:Nat) (hn9:n<=1000):∀B4,OU F cells B4 n:=by
 induction n using Nat.strongRecOn with
 | _ n ih=>
 intro B4 t sl vs d w g G Ia hr hs hw hd h hK Fs Mv UF hb hn ha;have hlen:vs.length<=1000:=by have:=hs.len;omega
 have hM:=fun t' v us w' g' G'=>nj F cells Db hA B4 n hn9 (fun m hm i=>ih m hm Y i) t' v us d w' g' G'
 obtain⟨p,c,rfl⟩:=hr.KO;have HC:=hid (Cur.start (B4:=B4) h hK ha);have HL:=hid (show Left B4 cells F t d G vs n 0 t G from⟨rfl,hs,hw,Aw.refl _,hn,Ia,LE _⟩);have Hr:=hid hr;have HM:=hid hM;have Hb:=hid hb;have Hde:=hid UF;have Hbl:=hid Fs;have Hcs:=hid Mv;have Hd:=hid hd;have Hcl:=hid Db;clear hr hs hw hn Ia h hK Fs Mv UF hb ha ih hA hM hd Db;go_enter func80,ntmps80;go_wp2;go_loopw [8] (fun i wr=>∃(k:Nat) (t':Bt) (G':GS) (c a:SG) (av:List Value),i= i5 k/\k<=vs.length/\Left B4 cells F t d G vs n k t' G'/\Cur B4 F w g G G' c a av wr) (fun i _=>vs.length - (intOf i).toNat);case atStart=>exact⟨0,t,G,_,_,_,rfl,d6 _,HL,HC⟩
 case round=>
  clear HL HC;obtain⟨k,t',G',c1,a1,av1,rfl,hk,hL,hC⟩:=hrel;have HL:=hid hL;have HC:=hid hC;clear hL hC;cases hd:vs.drop k with
  | nil=>
   have Jc:¬(k:Int) < (vs.length:Int):=by have:=Qcu.1 hd;omega
   have ht:t'= .nil:=by
    have AD:=HL.st;rw[hd] at AD;exact mat
   have He:=hid (show GS.Dr t G=G' by rw[HL.out.eq,ht];rfl);clear ht hd;go_wp2
   go_end0
   rw[He.out];exact HC.stop
  | cons v us=>
   obtain⟨_,Sr,b,hp,Lm⟩:=Hr.AW HC.AN hd;subst hp;have Jc:(k:Int) < (vs.length:Int):=Y
   have fV:us=vs.drop (k+1):=by rw[<-Qc4,hd];rfl
   have AD:=HL.st;rw[hd] at AD;have Zi:C2 G'.Ac:=C2.eq Hb HL.same.Ac;have kR:=zV t';have Acg:=HL.bud;have UF:=Hde.out;obtain⟨i1,i2,i3⟩:=O0 cells (fU t') Hcl d B4 G' (AaQ HL.wf).1 (HL.same.block.trans Hbl) (HL.same.cells.trans Hcs);have HS:=hid (HM t' v us wr {g with c:=c1,a:=a1,av:=av1} G' HL.sz AD HL.wf Hd HC.st.Am HC.AN (HL.same.block.trans Hbl) (HL.same.cells.trans Hcs) (by rw[HL.out.same.Aj];exact UF) Zi Y HC.len);have HN:=hid (show Left B4 cells F t d G vs n (k+1) (xH t') (GS.Dr (fU t') G') from
     ⟨HL.eq.trans (Aba t' G'),fV▸AD.hd.2,(AaQ HL.wf).2,i1.trans HL.same,Y,Qb6 (AcV t') HL.sz,Qb6 HL.lo i2⟩)
   have Hi:=hid i2;have inc:=Wv k Y;clear hd fV AD Zi kR Acg UF i1 i2 i3;go_wp2_with fail;refine HS.mono ?_;intro e w1 he;obtain⟨rfl,c2,a2,av2,hC2⟩:=HC.next he Hi.out;have HC2:=hid hC2;clear hC2 he HC HL HS;go_wp2_with fail;go_roundw;case rel=>(try rw[inc]);exact⟨k+1,xH t',_,_,_,_,rfl,Y,HN,HC2⟩
   case measure=>(try rw[inc]);simp[intOf];omega
end Go.Proofs.YtpdfifdlhpmofaaGreatDoor
