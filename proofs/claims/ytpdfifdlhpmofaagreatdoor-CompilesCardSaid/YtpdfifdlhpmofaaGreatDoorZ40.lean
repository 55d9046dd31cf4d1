/-
  Part 40 of the proof, packed by program out of G15, G16.
-/
import Derived.Test.YtpdfifdlhpmofaaGreatDoorZ39
set_option linter.unusedVariables false
set_option linter.unusedSimpArgs false
set_option maxHeartbeats 3200000
set_option maxRecDepth 100000
namespace Go.Proofs.YtpdfifdlhpmofaaGreatDoor
open Go.RowKit
open Go.Lib (hid)
def OL (F:List (Nat×Obj)) (cells:Int):Prop:=
 ∀(b:Ck) (sp:Option Addr) (sn sc:Nat) (ws:List Value) (p:Nat) (w:World) (g:MG) (G:GS) (d:Nat),AK w (g.Ax G)→Ba w (g.Ax G) F→(p,Obj.cells #[.slice sp sn sc] 255 (0,0))∈F→
  G.Af.length+296+Ci b≤998000→g.av.length≤G.Af.length→Ap G.Ah→G.block=false→G.cells=cells→(0≤G.Aj∧G.Aj≤(d:Int))→d < 3→WF cells b (d+1) true→Lx F cells true (EX b)→EX b≤1000→
  D4 F (.slice sp sn sc) ws→DI F b ws→Calls Tryz.prog 142 #[.pointer (some ⟨g.mb,0,none⟩),.pointer (some ⟨p,0,none⟩)] w (dM (GS.BX (.atomic b .nil) G) g G w)
theorem Te.qF {CJ:Bool} {G':GS} {g:MG} {G:GS} {w:World} {e:Ending} {w':World} (h:Te (.tuple #[]) G' g G w e w') (Hh:G'.Be=G.Be) (hlen:G.Af.length≤G'.Af.length) (ha:g.av.length≤G.Af.length):sQ CJ G' g G w e w':=by
 obtain⟨rfl,c,st⟩:=h;cases CJ with
 | false=>exact⟨rfl,c,g.a,g.av,st,by omega⟩
 | true=>exact⟨rfl,c,g.a,[],[],[],by rw[Hh,List.append_nil],by rw[List.append_nil];exact st,Ba.nil _ _,Io.nil _ _ _,by simpa using hlen⟩
theorem nB (t:Ck) (G:GS):GS.BX t G=GS.BX (jZ t) (GS.BX (Qc t) G):=by
 cases t <;>rfl
theorem lJ (t:Ck):Ci t=Ci (Qc t)+Ci (jZ t):=by
 cases t <;>simp[Ci,Qc,jZ]
theorem qC (t:Ck):EX (jZ t)≤EX t:=by
 cases t <;>simp[EX,jZ]
theorem jv {cells:Int} {t:Ck} {d:Nat} {i:Bool} (h:WF cells t d i):WF cells (Qc t) d i∧WF cells (jZ t) d i:=by
 cases t with
 | nil=>exact⟨trivial,trivial⟩
 | set v op a b r=>exact⟨⟨h.1,h.2.1,h.2.2.1,h.2.2.2.1,trivial⟩,h.2.2.2.2⟩
 | get v f s a r=>exact⟨⟨h.1,h.2.1,h.2.2.1,h.2.2.2.1,trivial⟩,h.2.2.2.2⟩
 | put f s a b r=>exact⟨⟨h.1,h.2.1,h.2.2.1,h.2.2.2.1,trivial⟩,h.2.2.2.2⟩
 | out a r=>exact⟨⟨h.1,trivial⟩,h.2⟩
 | atomic b r=>exact⟨⟨h.1,h.2.1,h.2.2.1,trivial⟩,h.2.2.2⟩
 | ES a b r=>exact⟨⟨h.1,h.2.1,h.2.2.1,trivial⟩,h.2.2.2⟩
 | loop n b r=>exact⟨⟨h.1,h.2.1,h.2.2.1,trivial⟩,h.2.2.2⟩
theorem YL (F:List (Nat×Obj)) (cells:Int) (hA:OL F cells) (b:Ck) (sp:Option Addr) (sn sc:Nat) (ws:List Value) (p:Nat) (w:World) (g:MG) (G:GS) (d:Nat) (h:AK w (g.Ax G)) (hK:Ba w (g.Ax G) F) (hF:(p,Obj.cells #[.slice sp sn sc] 255 (0,0))∈F)
  (hn:G.Af.length+296+Ci b≤998000) (ha:g.av.length≤G.Af.length) (hb:Ap G.Ah) (Ey:G.block=false) (JZ:G.cells=cells) (OM:0≤G.Aj∧G.Aj≤(d:Int)) (hd:d < 3) (P7:WF cells b (d+1) true) (ih:Lx F cells true (EX b)) (hz:EX b≤1000)
  (h3:D4 F (.slice sp sn sc) ws) (h4:DI F b ws):
  Calls Tryz.prog 104 #[.pointer (some ⟨g.mb,0,none⟩),.iface 253 (.pointer (some ⟨p,0,none⟩))] w (dM (GS.BX (.atomic b .nil) G) g G w):=by
 have HC:=hid (hA b sp sn sc ws p w g G d h hK hF hn ha hb Ey JZ OM hd P7 ih hz h3 h4);clear h hK hF hn ha hb Ey JZ OM hd P7 ih h3 h4 hA;have ta0:=Tl;have ta1:=Tm;have ta2:=M5;have ta3:=M6;have ta4:=KZ;have ta5:=Jm;have ta6:=Kp;go_enter Tryz.func104,Tryz.ntmps104;go_wp2_with fail;refine HC.out.mono ?_;rintro e w1 ⟨rfl,c,a,av,st,mN⟩;have S:=hid st;have Hav:=hid mN;clear st mN;go_wp2_with fail
 go_end0
 exact⟨rfl,c,a,av,S.out,Hav.out⟩
theorem bS (F:List (Nat×Obj)) (cells:Int) (Dp:0≤cells∧cells≤6) (hA:OL F cells) (CJ:Bool) (n:Nat) (rL:n≤1000) (ihn:∀m,m < n→∀i,Lx F cells i m) (t:Ck) (v:Value) (us:List Value) (d:Nat) (w:World) (g:MG) (G:GS) (GK:EX t≤n) (hs:DI F t (v::us)) (hw:WF cells t d CJ) (hd:d≤3)
  (h:AK w (g.Ax G)) (hK:Ba w (g.Ax G) F) (Ey:G.block=CJ) (JZ:G.cells=cells) (OM:0≤G.Aj∧G.Aj≤(d:Int)) (hb:Ap G.Ah) (hn:G.Af.length+Ci (Qc t)≤998000) (ha:g.av.length≤G.Af.length):
  Calls Tryz.prog 104 #[.pointer (some ⟨g.mb,0,none⟩),v] w (sQ CJ (GS.BX (Qc t) G) g G w):=by
 obtain⟨i1,i2,i3⟩:=IY cells (Qc t) Dp d CJ G (jv hw).1 Ey JZ;cases t with
 | nil=>cases hs
 | set x op a b r=>
  obtain⟨p,q,h1,h2,_⟩:=hs;cases h1;have Hh:(GS.BX (Qc (.set x op a b r)) G).Be=G.Be:=by
   by_cases II:op.size=0
   ·simp only[Qc,GS.BX,II,if_true];rw[GS.Jo,GS.Ft]
   ·simp only[Qc,GS.BX,II,if_false];rw[GS.Jo,GS.DO,GS.Ft,GS.Ft]
  simp only[Ci,Qc] at hn;by_cases II:op.size=0
  ·exact(fO x op a b F p w g G h hK h2 (by omega) ha hb hw.1 hw.2.2.1 hw.2.2.2.1 II).mono fun e w' k=>Te.qF k Hh i2 ha
  ·exact(fN x op a b F p w g G h hK h2 (by omega) ha hb hw.1 hw.2.2.1 hw.2.2.2.1 II).mono fun e w' k=>Te.qF k Hh i2 ha
 | get x f s a r=>
  obtain⟨p,q,h1,h2,_⟩:=hs;cases h1;simp only[Ci,Qc] at hn;have hi:CJ=true:=hw.2.2.2.1;subst hi;exact kK x f s a F p w g G h hK h2 (by omega) ha hb hw.2.2.1 hw.1
 | put f s i a r=>
  obtain⟨p,q,h1,h2,_⟩:=hs;cases h1;simp only[Ci,Qc] at hn;have Hh:(GS.BX (Qc (.put f s i a r)) G).Be=G.Be:=by
   simp only[Qc,GS.BX];rw[GS.K7,GS.K7,GS.Ft,GS.Qi]
  exact(kH f s i a F p w g G h hK h2 (by omega) ha hb hw.2.1 hw.2.2.1).mono fun e w' k=>Te.qF k Hh i2 ha
 | out a r=>
  obtain⟨p,q,h1,h2,_⟩:=hs;cases h1;simp only[Ci,Qc] at hn;cases CJ with
  | false=>
   have Hh:(GS.BX (Qc (.out a r)) G).Be=G.Be:=by simp only[Qc,GS.BX,Ey];exact GS.Ft G a 1
   exact(fQ a F p w g G h hK h2 (by omega) ha hb hw.1 Ey).mono fun e w' k=>Te.qF k Hh i2 ha
  | true=>
   have Hh:(GS.BX (Qc (.out a r)) G).Be=G.Be:=by simp only[Qc,GS.BX,Ey,if_true];rw[GS.Jo,GS.DO,GS.K7,GS.IB,GS.Ft]
   exact(fP a F p w g G h hK h2 (by omega) ha hb hw.1 Ey).mono fun e w' k=>Te.qF k Hh i2 ha
 | atomic b r=>
  obtain⟨p,q,sl,ws,h1,h2,h3,h4,_⟩:=hs;cases h1;simp only[Ci,Qc] at hn;simp only[EX] at GK;have hi:CJ=false:=hw.1;subst hi;obtain⟨sp,sc,rfl⟩:=h3.JF;exact YL F cells hA b sp _ sc ws p w g G d h hK h2 (by omega) ha hb Ey JZ OM hw.2.1 hw.2.2.1 (ihn _ (by omega) true) (by omega) h3 h4
 | ES a b r=>
  obtain⟨p,q,sl,ws,h1,h2,h3,h4,_⟩:=hs;cases h1;simp only[Ci,Qc] at hn;simp only[EX] at GK;obtain⟨sp,sc,rfl⟩:=h3.JF;cases CJ with
  | true=>exact kI cells a b sp _ sc ws F p w g G h hK h2 (by omega) ha hb hw.1 d Dp Ey JZ OM hw.2.1 hw.2.2.1 (by omega) (ihn _ (by omega) true) h3 h4
  | false=>exact kJ cells a b sp _ sc ws F p w g G h hK h2 (by omega) ha hb hw.1 d Dp Ey JZ OM hw.2.1 hw.2.2.1 (by omega) (ihn _ (by omega) false) h3 h4
 | loop m b r=>
  obtain⟨p,q,sl,ws,h1,h2,h3,h4,_⟩:=hs;cases h1;simp only[Ci,Qc] at hn;simp only[EX] at GK;obtain⟨sp,sc,rfl⟩:=h3.JF;cases CJ with
  | true=>exact bT cells m b sp _ sc ws F p w g G h hK h2 (by omega) ha hb d Dp Ey JZ OM hw.2.1 hw.2.2.1 (by omega) (ihn _ (by omega) true) h3 h4
  | false=>exact bU cells m b sp _ sc ws F p w g G h hK h2 (by omega) ha hb d Dp Ey JZ OM hw.2.1 hw.2.2.1 (by omega) (ihn _ (by omega) false) h3 h4
structure l8 (CJ:Bool) (F:List (Nat×Obj)) (w:World) (g:MG) (G G':GS) (c a:SG) (av:List Value) (wr:World):Prop where
 st:Ad w (g.Ax G) wr (MG.Ax {g with c:=c,a:=a,av:=av} G')
 AT:Ba wr (MG.Ax {g with c:=c,a:=a,av:=av} G') F
 len:av.length≤G'.Af.length
 ab:CJ=true→∃vs ls E,av=g.av++vs∧G'.Be=G.Be++ls∧Ba wr (MG.Ax {g with c:=c,a:=a,av:=av} G') E∧Io E g.mb G'.Af.length vs ls∧vs.length+G.Af.length≤G'.Af.length
theorem l8.start {CJ:Bool} {F:List (Nat×Obj)} {w:World} {g:MG} {G:GS} (h:AK w (g.Ax G)) (hK:Ba w (g.Ax G) F) (ha:g.av.length≤G.Af.length):l8 CJ F w g G G g.c g.a g.av w:=
 ⟨Ad.refl h,hK,ha,fun _=>⟨[],[],[],(List.append_nil _).symm,(List.append_nil _).symm,Ba.nil _ _,Io.nil _ _ _,by simp⟩⟩
theorem l8.next {CJ:Bool} {F:List (Nat×Obj)} {w:World} {g:MG} {G G1 G2:GS} {c a:SG} {av:List Value} {wr w':World} {e:Ending} (h:l8 CJ F w g G G1 c a av wr) (k:sQ CJ G2 {g with c:=c,a:=a,av:=av} G1 wr e w') (hl:G1.Af.length≤G2.Af.length):
  e= .returned (.tuple #[])∧∃c' a' av',l8 CJ F w g G G2 c' a' av' w':=by
 cases CJ with
 | false=>
  obtain⟨rfl,c',a',av',st,mN⟩:=k;exact⟨rfl,c',a',av',⟨h.st.trans st,h.AT.step st,mN,fun h'=>by cases h'⟩⟩
 | true=>
  obtain⟨rfl,c',a',vs',ls',E',Hh,st,kn,an,hv⟩:=k;obtain⟨vs,ls,E,rfl,ab0,k0,an0,XU⟩:=h.ab rfl;dsimp only at st kn an;refine⟨rfl,c',a',(g.av++vs)++vs',⟨h.st.trans st,h.AT.step st,?_,fun _=> ?_⟩⟩
  ·have:=h.len;rw[List.length_append] at this⊢;rw[List.length_append];omega
  ·exact⟨vs++vs',ls++ls',E'++E,List.append_assoc _ _ _,by rw[Hh,ab0,List.append_assoc],(k0.step st).Gq kn,an0.Ec an hl,by rw[List.length_append];omega⟩
theorem l8.stop {CJ:Bool} {F:List (Nat×Obj)} {w:World} {g:MG} {G G':GS} {c a:SG} {av:List Value} {wr:World} (h:l8 CJ F w g G G' c a av wr):sQ CJ G' g G w (.returned (.tuple #[])) wr:=by
 cases CJ with
 | false=>exact⟨rfl,c,a,av,h.st,h.len⟩
 | true=>
  obtain⟨vs,ls,E,rfl,ab0,k0,an0,XU⟩:=h.ab rfl;exact⟨rfl,c,a,vs,ls,E,ab0,h.st,k0,an0,XU⟩
structure Left (CJ:Bool) (cells:Int) (F:List (Nat×Obj)) (t:Ck) (d:Nat) (G:GS) (vs:List Value) (n k:Nat) (t':Ck) (G':GS):Prop where
 eq:GS.BX t G=GS.BX t' G'
 st:DI F t' (vs.drop k)
 wf:WF cells t' d CJ
 same:AJ G' G
 bud:G'.Af.length+Ci t'≤998000
 sz:EX t'≤n
 lo:G.Af.length≤G'.Af.length
theorem YK (F:List (Nat×Obj)) (cells:Int) (Dp:0≤cells∧cells≤6) (hA:OL F cells) (n:Nat) (rL:n≤1000):∀CJ,Lx F cells CJ n:=by
 induction n using Nat.strongRecOn with
 | _ n ih=>
 intro CJ t sl vs d w g G GK hr hs hw hd h hK Ey JZ OM hb hn ha;have hlen:vs.length≤1000:=by have:=hs.len;omega
 have hM:=fun t' v us w' g' G'=>bS F cells Dp hA CJ n rL (fun m hm i=>ih m hm (by omega) i) t' v us d w' g' G'
 obtain⟨p,c,rfl⟩:=hr.JF;have HC:=hid (l8.start (CJ:=CJ) h hK ha);have HL:=hid (show Left CJ cells F t d G vs n 0 t G from⟨rfl,hs,hw,AJ.refl _,hn,GK,Nat.le_refl _⟩);have Hr:=hid hr;have HM:=hid hM;have Hb:=hid hb;have xQ:=hid OM;have pT:=hid Ey;have nj:=hid JZ;have Hd:=hid hd;have xU:=hid Dp;clear hr hs hw hn GK h hK Ey JZ OM hb ha ih hA hM hd Dp;go_enter Tryz.func80,Tryz.ntmps80;go_wp2;go_loopw [8] (fun i wr=>∃(k:Nat) (t':Ck) (G':GS) (c a:SG) (av:List Value),i= .int .i64 k∧k≤vs.length∧Left CJ cells F t d G vs n k t' G'∧l8 CJ F w g G G' c a av wr) (fun i _=>vs.length - (intOf i).toNat);case atStart=>exact⟨0,t,G,_,_,_,rfl,Nat.zero_le _,HL.out,HC.out⟩
 case round=>
  clear HL HC;obtain⟨k,t',G',c1,a1,pF,rfl,hk,hL,hC⟩:=hrel;have HL:=hid hL;have HC:=hid hC;clear hL hC;cases hd:vs.drop k with
  | nil=>
   have QP:¬(k:Int) < (vs.length:Int):=by have:=List.drop_eq_nil_iff.1 hd;omega
   have ht:t'= .nil:=by
    have AI:=HL.out.st;rw[hd] at AI;cases t' with
    | nil=>rfl
    | set v op a b r=>obtain⟨q,us,h1,_⟩:=AI;cases h1
    | get v f s a r=>obtain⟨q,us,h1,_⟩:=AI;cases h1
    | put f s i a r=>obtain⟨q,us,h1,_⟩:=AI;cases h1
    | out a r=>obtain⟨q,us,h1,_⟩:=AI;cases h1
    | atomic b r=>obtain⟨q,us,sl,ws,h1,_⟩:=AI;cases h1
    | ES a b r=>obtain⟨q,us,sl,ws,h1,_⟩:=AI;cases h1
    | loop m b r=>obtain⟨q,us,sl,ws,h1,_⟩:=AI;cases h1
   have He:=hid (show GS.BX t G=G' by rw[HL.out.eq,ht];rfl);clear ht hd;go_wp2
   go_end0
   rw[He.out];exact HC.out.stop
  | cons v us=>
   obtain⟨_,XY,b,hp,Qd⟩:=Hr.out.A5 HC.out.AT hd;subst hp;have QP:(k:Int) < (vs.length:Int):=by omega
   have cU:us=vs.drop (k+1):=by rw[←List.tail_drop,hd];rfl
   have AI:=HL.out.st;rw[hd] at AI;have FD:Ap G'.Ah:=Ap.eq Hb.out HL.out.same.Ah;have aq:=lJ t';have iC:=HL.out.bud;have OM:=xQ.out;obtain⟨i1,i2,i3⟩:=IY cells (Qc t') xU.out d CJ G' (jv HL.out.wf).1 (HL.out.same.block.trans pT.out) (HL.out.same.cells.trans nj.out);have HS:=hid (HM.out t' v us wr {g with c:=c1,a:=a1,av:=pF} G' HL.out.sz AI HL.out.wf Hd.out HC.out.st.Al HC.out.AT (HL.out.same.block.trans pT.out) (HL.out.same.cells.trans nj.out) (by rw[HL.out.same.Aj];exact OM) FD (by omega) HC.out.len);have HN:=hid (show Left CJ cells F t d G vs n (k+1) (jZ t') (GS.BX (Qc t') G') from
     ⟨HL.out.eq.trans (nB t' G'),cU▸AI.hd.2,(jv HL.out.wf).2,i1.trans HL.out.same,by omega,Nat.le_trans (qC t') HL.out.sz,Nat.le_trans HL.out.lo i2⟩)
   have Hi:=hid i2;have inc:=RZ k (by omega);clear hd cU AI FD aq iC OM i1 i2 i3;go_wp2_with fail;refine HS.out.mono ?_;intro e w1 he;obtain⟨rfl,c2,a2,av2,zm⟩:=HC.out.next he Hi.out;have HC2:=hid zm;clear zm he HC HL HS;go_wp2_with fail;go_roundw;case rel=>(try rw[inc]);exact⟨k+1,jZ t',_,_,_,_,rfl,by omega,HN.out,HC2.out⟩
   case measure=>(try rw[inc]);simp[intOf];omega
end Go.Proofs.YtpdfifdlhpmofaaGreatDoor
