/-
  Part 43 of the proof, packed by program out of G14, K1.
-/
import Derived.Test.YtpdfifdlhpmofaaGreatDoorZ41
import Derived.Test.YtpdfifdlhpmofaaGreatDoorZ42
import Derived.Test.YtpdfifdlhpmofaaGreatDoorZ39
import Derived.Test.YtpdfifdlhpmofaaGreatDoorZ15
set_option linter.unusedVariables false
set_option linter.unusedSimpArgs false
set_option maxHeartbeats 3200000
set_option maxRecDepth 100000
namespace Go.Proofs.YtpdfifdlhpmofaaGreatDoor
open Go.RowKit
open Go.Lib (hid)
theorem GS.Ys (g:GS) (c:Nat):(GS.FR c g).Ah=g.Ah:=rfl
theorem GS.Wr (g:GS) (c:Nat):(GS.FR c g).cells=g.cells:=rfl
theorem GS.XB (g:GS) (c:Nat):(GS.D3 c g).Ah=g.Ah:=rfl
theorem GS.VS (g:GS) (c:Nat):(GS.D3 c g).cells=g.cells:=rfl
theorem gx (k:Nat) (hk:k≤1000000):wrap64 ((k:Int)+1)=k+1:=IntWalk.wrap64_in _ (by omega)
theorem GS.Yr (g:GS) (c:Nat):(GS.FR c g).Aj=g.Aj:=rfl
theorem GS.XA (g:GS) (c:Nat):(GS.D3 c g).Aj=g.Aj:=rfl
theorem Wy {f:Nat→GS→GS} (hf:∀i x,(f i x).Aj=x.Aj) (n:Nat) (g:GS):(GS.EO f n g).Aj=g.Aj:=by
 induction n with
 | zero=>rfl
 | succ n ih=>exact(hf n _).trans ih
def GS.AP (g:GS) (b:Bool):GS:={g with block:=b}
def GS.enter (g:GS):GS:={g with block:=true,Be:=[]}
theorem Ad.enter {w:World} {g:MG} {G:GS} (h:AK w (g.Ax G)):Ad w (g.Ax G) ((w.setCell ⟨g.mb,3,none⟩ (.bool true)).setCell ⟨g.mb,4,none⟩ (.slice none 0 0)) (MG.Ax {g with a:=⟨none,0⟩,av:=[]} G.enter):=by
 have s1:=h.set (i:=0) rfl 3 (.bool true);have s2:=s1.Al.set (i:=0) rfl 4 (.slice none 0 0);have s3:=s2.Al.swap (i:=2) (o':= .row (.slice none 0 0) 1 1 0 []) rfl (Av.refl _ _) (Db _ _ _ _) (by simp[Ob.fp,Value.ownBlock]) (by intro b hb;simp[Ob.fp,Value.ownBlock] at hb);exact(s1.trans s2).trans s3
theorem Ad.AP {w:World} {g:MG} {G:GS} (h:AK w (g.Ax G)) (b:Bool):Ad w (g.Ax G) (w.setCell ⟨g.mb,3,none⟩ (.bool b)) (MG.Ax g (G.AP b)):=h.set (i:=0) rfl 3 (.bool b)
theorem XS.len {F:List (Nat×Obj)} {mb:Nat} {vs:List Value} {ls:List D8} (h:XS F mb vs ls):vs.length=ls.length:=by
 induction h with
 | nil=>rfl
 | cons _ _ ih=>simp[ih]
theorem XS.A5 {F:List (Nat×Obj)} {mb:Nat} {vs:List Value} {ls:List D8} (h:XS F mb vs ls):∀(k:Nat) (hv:k < vs.length) (hl:k < ls.length),Pq F vs[k] mb ls[k]:=by
 induction h with
 | nil=>intro k hv;simp at hv
 | cons a _ ih=>
  intro k hv hl;cases k with
  | zero=>exact a
  | succ k=>exact ih k (by simpa using hv) (by simpa using hl)
theorem Ce (g:GS) (l:D8):(g.AM l).Ah=g.Ah:=rfl
theorem Sq (l:List D8) (g:GS):(l.foldl GS.AM g).Ah=g.Ah:=by
 induction l generalizing g with
 | nil=>rfl
 | cons a r ih=>rw[List.foldl_cons,ih];rfl
theorem Qb (l:List D8) (g:GS):(l.foldl GS.AM g).cells=g.cells:=by
 induction l generalizing g with
 | nil=>rfl
 | cons a r ih=>rw[List.foldl_cons,ih];rfl
theorem Sp (l:List D8) (g:GS) (k:Nat) (hk:k < l.length):(l.take (k+1)).foldl GS.AM g=((l.take k).foldl GS.AM g).AM l[k]:=by
 rw[List.take_succ_eq_append_getElem hk,List.foldl_append];rfl
theorem Q9 (g:GS):g.G0.cells=g.cells:=by unfold GS.G0;simp only[GS.A2,GS.lo,GS.Bj,GS.An,GS.AM,GS.Aq]
theorem TM (g:GS):g.G0.Ah=g.Ah:=by unfold GS.G0;simp only[GS.A2,GS.lo,GS.Bj,GS.An,GS.AM,GS.Aq]
theorem Rb (g:GS):g.G0.Be=g.Be:=by unfold GS.G0;simp only[GS.A2,GS.lo,GS.Bj,GS.An,GS.AM,GS.Aq]
theorem UR (b:Ck) (cells:Int) (G G1 G2 G4 G5:GS) (h1:G1=GS.EO GS.FR 4 G) (h2:G2=GS.EO GS.D3 cells.toNat G1) (hc:G1.cells=cells) (h4:G4=GS.BX b (GS.enter (GS.st (GS.C7 (GS.st G2 39 (.n 0)) 1 16) 38 (.r 1))))
  (h5:G5=if Du b then GS.EM (GS.AP G4 false) else GS.AP G4 false):
  GS.BX (.atomic b .nil) G=GS.AM (GS.Ke ((GS.G0 G5).Be.foldl GS.AM (GS.Bc (GS.G0 G5))) G1.Af.length) ⟨(GS.Af (GS.G0 G5)).length,none⟩:=by
 have e1:GS.BV G=G1:=h1.symm;have e2:GS.NM G1=GS.enter (GS.st (GS.C7 (GS.st G2 39 (.n 0)) 1 16) 38 (.r 1)):=by
  unfold GS.NM;rw[hc];rw[←h2];rfl
 show GS.Lv (GS.BX b (GS.NM (GS.BV G))) (GS.BV G).Af.length (Du b)=_;rw[e1,e2,←h4];unfold GS.Lv;subst h5;rfl
theorem WT (cells:Int) (b:Ck) (sp:Option Addr) (sn sc:Nat) (ws:List Value) (F:List (Nat×Obj)) (p:Nat) (w:World) (g:MG) (G:GS) (h:AK w (g.Ax G)) (hK:Ba w (g.Ax G) F) (hF:(p,Obj.cells #[.slice sp sn sc] 255 (0,0))∈F) (hn:G.Af.length+296+Ci b≤998000) (ha:g.av.length≤G.Af.length) (Gd:Ap G.Ah)
  (d:Nat) (Dp:0≤cells∧cells≤6) (Ey:G.block=false) (JZ:G.cells=cells) (OM:0≤G.Aj∧G.Aj≤(d:Int)) (hd:d < 3) (P7:WF cells b (d+1) true) (ih:Lx F cells true (EX b)) (h3:D4 F (.slice sp sn sc) ws) (GK:EX b≤1000) (h4:DI F b ws):
  Calls Tryz.prog 142 #[.pointer (some ⟨g.mb,0,none⟩),.pointer (some ⟨p,0,none⟩)] w (dM (GS.BX (.atomic b .nil) G) g G w):=by
 have H:=hid h;have hb:=hid Gd;have HF:=hid hF;have IH:=hid ih;have H3:=hid h3;have H4:=hid h4;have S:=hid (Ad.refl h);have K:=hid hK;have zv:=hid P7;clear h Gd hK hF ih h3 h4 P7;go_enter Tryz.func142,Tryz.ntmps142;go_wp2;have BK:=hid JZ;clear JZ;go_loopw [10] (fun i wr=>∃(k:Nat) (c:SG),i= .int .i64 k∧(k:Int)≤4∧Ad w (g.Ax G) wr (MG.Ax {g with c:=c} (GS.EO GS.FR k G))∧Ba wr (MG.Ax {g with c:=c} (GS.EO GS.FR k G)) F) (fun i _=>(4:Int).toNat - (intOf i).toNat);case atStart=>exact⟨0,_,rfl,(by decide),S.out,K.out⟩
 case round=>
  clear S K;obtain⟨k,c0,rfl,XY,st,kn⟩:=hrel;have hl:=EC (fun i x=>GS.T6 x i) k G;have FD:=Ap.eq hb.out (Ix (fun i x=>GS.Ys x i) k G);have Kd:=(Je (fun i x=>GS.Wr x i) k G).trans BK.out;have JM:GS.EO GS.FR (k+1) G=GS.FR k (GS.EO GS.FR k G):=rfl;by_cases hk:(k:Int) < 4
  ·obtain⟨Gk,Su⟩:∃z,z=GS.EO GS.FR k G:=⟨_,rfl⟩;rw[←Su] at hl FD Kd JM st kn;have JI:=hid JM;clear JM Su;have Xd:Gk.Af.length+Ci b≤997712:=by omega
   replace hb:=hid FD;have S:=hid st;have K:=hid kn;have C8:k≤100:=by omega
   clear st kn FD hl Kd BK;obtain⟨Au,AQ⟩:=K.out.cl p #[.slice sp sn sc] 255 (by first | exact HF.out | simp[HF.out]);have DR:True→wrap64 (4+(k:Int))=4+(k:Int):=fun _=>ER 4 k (by decide) C8
   have I9:True→_:=fun _=>(ZQ k C8).1
   have EK:True→_:=fun _=>(ZQ k C8).2
   go_wp2_with fail;clear I9 EK;clear DR;clear Au AQ;refine(Co (k:Int) _ {g with c:=c0} Gk S.out.Al (Ch (k:=(k:Int)) hb.out (by omega))).mono ?_;rintro e w1 ⟨rfl,hm⟩;replace K:=hid (K.out.step (Ad.quiet S.out.Al hm));replace S:=hid (S.out.trans (Ad.quiet S.out.Al hm));clear hm;obtain⟨Au,AQ⟩:=K.out.cl p #[.slice sp sn sc] 255 (by first | exact HF.out | simp[HF.out]);have DR:True→wrap64 (4+(k:Int))=4+(k:Int):=fun _=>ER 4 k (by decide) C8
   have I9:True→_:=fun _=>(ZQ k C8).1
   have EK:True→_:=fun _=>(ZQ k C8).2
   go_wp2_with fail;clear I9 EK;clear DR;clear Au AQ;refine(Cv 1 (.n (GS.Ah Gk+(k:Int))) 0 _ {g with c:=c0} Gk S.out.Al (by (try simp only[BH]);omega)).mono ?_;rintro e w2 ⟨rfl,c3,st⟩;replace K:=hid (K.out.step st);replace S:=hid (S.out.trans st);clear st;replace hb:=hid (Ap.eq hb.out (GS.DF Gk 1 (k:Int)));obtain⟨Au,AQ⟩:=K.out.cl p #[.slice sp sn sc] 255 (by first | exact HF.out | simp[HF.out]);have DR:True→wrap64 (4+(k:Int))=4+(k:Int):=fun _=>ER 4 k (by decide) C8
   go_wp2_with fail;clear DR;clear Au AQ;refine(Co (4+(k:Int)) _ {g with c:=c3} (GS.lo Gk 1 (k:Int)) S.out.Al (Ch (k:=(4+(k:Int))) hb.out (by omega))).mono ?_;rintro e w4 ⟨rfl,hm⟩;replace K:=hid (K.out.step (Ad.quiet S.out.Al hm));replace S:=hid (S.out.trans (Ad.quiet S.out.Al hm));clear hm;obtain⟨Au,AQ⟩:=K.out.cl p #[.slice sp sn sc] 255 (by first | exact HF.out | simp[HF.out]);have DR:True→wrap64 (4+(k:Int))=4+(k:Int):=fun _=>ER 4 k (by decide) C8
   go_wp2_with fail;clear DR;clear Au AQ;refine(A3 1 _).mono ?_;rintro e w5 ⟨rfl,hm⟩;replace K:=hid (K.out.step (Ad.quiet S.out.Al hm));replace S:=hid (S.out.trans (Ad.quiet S.out.Al hm));clear hm;obtain⟨Au,AQ⟩:=K.out.cl p #[.slice sp sn sc] 255 (by first | exact HF.out | simp[HF.out]);have DR:True→wrap64 (4+(k:Int))=4+(k:Int):=fun _=>ER 4 k (by decide) C8
   go_wp2_with fail;clear DR;clear Au AQ;refine(BM (.n (GS.Ah (GS.lo Gk 1 (k:Int))+(4+(k:Int)))) 0 (.r 1) _ {g with c:=c3} (GS.lo Gk 1 (k:Int)) S.out.Al (by (try simp only[BH]);omega)).mono ?_;rintro e w6 ⟨rfl,c7,st⟩;dsimp only at st;replace K:=hid (K.out.step st);replace S:=hid (S.out.trans st);clear st;replace hb:=hid (Ap.eq hb.out (GS.EB (GS.lo Gk 1 (k:Int)) (4+(k:Int)) (.r 1)));obtain⟨Au,AQ⟩:=K.out.cl p #[.slice sp sn sc] 255 (by first | exact HF.out | simp[HF.out]);have DR:True→wrap64 (4+(k:Int))=4+(k:Int):=fun _=>ER 4 k (by decide) C8
   go_wp2_with fail;clear DR;clear Au AQ;have hC:Ad w (g.Ax G) w6 (MG.Ax {g with c:=c7} (GS.EO GS.FR (k+1) G))∧Ba w6 (MG.Ax {g with c:=c7} (GS.EO GS.FR (k+1) G)) F:=by rw[JI.out];exact⟨S.out,K.out⟩
   clear S K JI;go_roundw;case rel=>(try rw[LA k C8]);exact⟨k+1,_,rfl,by omega,hC⟩
   case measure=>(try rw[LA k C8]);simp[intOf];omega
  ·have Pc:k=4:=by omega
   subst Pc;clear JM;have HG:=hid (show∃z,z=GS.EO GS.FR (4) G from⟨_,rfl⟩);obtain⟨G1,Pe⟩:=HG.out;rw[←Pe] at hl FD Kd st kn;have jT:=hid Pe;replace hb:=hid FD;replace BK:=hid Kd;have S:=hid st;have K:=hid kn;have Xd:G1.Af.length+Ci b≤997712:=by omega
   clear st kn FD hl Kd Pe HG;have zO:=hid BK.out;obtain⟨Au,AQ⟩:=K.out.cl p #[.slice sp sn sc] 255 (by first | exact HF.out | simp[HF.out]);have LB:wr.cell? ⟨g.mb,2,none⟩=some (.int .i64 cells):=((AW S.out.Al).c 2).trans (congrArg (fun z=>some (Value.int .i64 z)) BK.out);have QR:=(AW S.out.Al).c 0;go_wp2_with fail;clear LB QR;clear Au AQ;go_loopw [36] (fun i wr=>∃(k:Nat) (c:SG),i= .int .i64 k∧(k:Int)≤cells∧Ad w (g.Ax G) wr (MG.Ax {g with c:=c} (GS.EO GS.D3 k G1))∧Ba wr (MG.Ax {g with c:=c} (GS.EO GS.D3 k G1)) F) (fun i _=>(cells:Int).toNat - (intOf i).toNat);case atStart=>exact⟨0,_,rfl,Dp.1,S.out,K.out⟩
   case round=>
    clear S K;obtain⟨k,c0,rfl,XY,st,kn⟩:=hrel;have hl:=EC (fun i x=>GS.SJ x i) k G1;have FD:=Ap.eq hb.out (Ix (fun i x=>GS.XB x i) k G1);have Kd:=(Je (fun i x=>GS.VS x i) k G1).trans BK.out;have JM:GS.EO GS.D3 (k+1) G1=GS.D3 k (GS.EO GS.D3 k G1):=rfl;by_cases hk:(k:Int) < cells
    ·obtain⟨Gk,Su⟩:∃z,z=GS.EO GS.D3 k G1:=⟨_,rfl⟩;rw[←Su] at hl FD Kd JM st kn;have JI:=hid JM;clear JM Su;have Xd:Gk.Af.length+Ci b≤997730:=by omega
     replace hb:=hid FD;have S:=hid st;have K:=hid kn;have C8:k≤100:=by omega
     clear st kn FD hl Kd BK;obtain⟨Au,AQ⟩:=K.out.cl p #[.slice sp sn sc] 255 (by first | exact HF.out | simp[HF.out]);have DR:True→wrap64 (8+(k:Int))=8+(k:Int):=fun _=>ER 8 k (by decide) C8
     have DK:True→wrap64 (20+(k:Int))=20+(k:Int):=fun _=>ER 20 k (by decide) C8
     have Ew:True→wrap64 (26+(k:Int))=26+(k:Int):=fun _=>ER 26 k (by decide) C8
     go_wp2_with fail;clear DR DK Ew;clear Au AQ;refine(Co (8+(k:Int)) _ {g with c:=c0} Gk S.out.Al (Ch (k:=(8+(k:Int))) hb.out (by omega))).mono ?_;rintro e w1 ⟨rfl,hm⟩;replace K:=hid (K.out.step (Ad.quiet S.out.Al hm));replace S:=hid (S.out.trans (Ad.quiet S.out.Al hm));clear hm;obtain⟨Au,AQ⟩:=K.out.cl p #[.slice sp sn sc] 255 (by first | exact HF.out | simp[HF.out]);have DR:True→wrap64 (8+(k:Int))=8+(k:Int):=fun _=>ER 8 k (by decide) C8
     have DK:True→wrap64 (20+(k:Int))=20+(k:Int):=fun _=>ER 20 k (by decide) C8
     have Ew:True→wrap64 (26+(k:Int))=26+(k:Int):=fun _=>ER 26 k (by decide) C8
     go_wp2_with fail;clear DR DK Ew;clear Au AQ;refine(BD 0 _).mono ?_;rintro e w2 ⟨rfl,hm⟩;replace K:=hid (K.out.step (Ad.quiet S.out.Al hm));replace S:=hid (S.out.trans (Ad.quiet S.out.Al hm));clear hm;obtain⟨Au,AQ⟩:=K.out.cl p #[.slice sp sn sc] 255 (by first | exact HF.out | simp[HF.out]);have DR:True→wrap64 (8+(k:Int))=8+(k:Int):=fun _=>ER 8 k (by decide) C8
     have DK:True→wrap64 (20+(k:Int))=20+(k:Int):=fun _=>ER 20 k (by decide) C8
     have Ew:True→wrap64 (26+(k:Int))=26+(k:Int):=fun _=>ER 26 k (by decide) C8
     go_wp2_with fail;clear DR DK Ew;clear Au AQ;refine(BM (.n (GS.Ah Gk+(8+(k:Int)))) 0 (.n 0) _ {g with c:=c0} Gk S.out.Al (by (try simp only[BH]);omega)).mono ?_;rintro e w3 ⟨rfl,c4,st⟩;replace K:=hid (K.out.step st);replace S:=hid (S.out.trans st);clear st;replace hb:=hid (Ap.eq hb.out (GS.EB Gk (8+(k:Int)) (.n 0)));obtain⟨Au,AQ⟩:=K.out.cl p #[.slice sp sn sc] 255 (by first | exact HF.out | simp[HF.out]);have DR:True→wrap64 (8+(k:Int))=8+(k:Int):=fun _=>ER 8 k (by decide) C8
     have DK:True→wrap64 (20+(k:Int))=20+(k:Int):=fun _=>ER 20 k (by decide) C8
     have Ew:True→wrap64 (26+(k:Int))=26+(k:Int):=fun _=>ER 26 k (by decide) C8
     go_wp2_with fail;clear DR DK Ew;clear Au AQ;refine(Co (20+(k:Int)) _ {g with c:=c4} (GS.st Gk (8+(k:Int)) (.n 0)) S.out.Al (Ch (k:=(20+(k:Int))) hb.out (by omega))).mono ?_;rintro e w5 ⟨rfl,hm⟩;replace K:=hid (K.out.step (Ad.quiet S.out.Al hm));replace S:=hid (S.out.trans (Ad.quiet S.out.Al hm));clear hm;obtain⟨Au,AQ⟩:=K.out.cl p #[.slice sp sn sc] 255 (by first | exact HF.out | simp[HF.out]);have DR:True→wrap64 (8+(k:Int))=8+(k:Int):=fun _=>ER 8 k (by decide) C8
     have DK:True→wrap64 (20+(k:Int))=20+(k:Int):=fun _=>ER 20 k (by decide) C8
     have Ew:True→wrap64 (26+(k:Int))=26+(k:Int):=fun _=>ER 26 k (by decide) C8
     go_wp2_with fail;clear DR DK Ew;clear Au AQ;refine(BD 0 _).mono ?_;rintro e w6 ⟨rfl,hm⟩;replace K:=hid (K.out.step (Ad.quiet S.out.Al hm));replace S:=hid (S.out.trans (Ad.quiet S.out.Al hm));clear hm;obtain⟨Au,AQ⟩:=K.out.cl p #[.slice sp sn sc] 255 (by first | exact HF.out | simp[HF.out]);have DR:True→wrap64 (8+(k:Int))=8+(k:Int):=fun _=>ER 8 k (by decide) C8
     have DK:True→wrap64 (20+(k:Int))=20+(k:Int):=fun _=>ER 20 k (by decide) C8
     have Ew:True→wrap64 (26+(k:Int))=26+(k:Int):=fun _=>ER 26 k (by decide) C8
     go_wp2_with fail;clear DR DK Ew;clear Au AQ;refine(BM (.n (GS.Ah (GS.st Gk (8+(k:Int)) (.n 0))+(20+(k:Int)))) 0 (.n 0) _ {g with c:=c4} (GS.st Gk (8+(k:Int)) (.n 0)) S.out.Al (by (try simp only[BH]);omega)).mono ?_;rintro e w7 ⟨rfl,c8,st⟩;dsimp only at st;replace K:=hid (K.out.step st);replace S:=hid (S.out.trans st);clear st;replace hb:=hid (Ap.eq hb.out (GS.EB (GS.st Gk (8+(k:Int)) (.n 0)) (20+(k:Int)) (.n 0)));obtain⟨Au,AQ⟩:=K.out.cl p #[.slice sp sn sc] 255 (by first | exact HF.out | simp[HF.out]);have DR:True→wrap64 (8+(k:Int))=8+(k:Int):=fun _=>ER 8 k (by decide) C8
     have DK:True→wrap64 (20+(k:Int))=20+(k:Int):=fun _=>ER 20 k (by decide) C8
     have Ew:True→wrap64 (26+(k:Int))=26+(k:Int):=fun _=>ER 26 k (by decide) C8
     go_wp2_with fail;clear DR DK Ew;clear Au AQ;refine(Co (26+(k:Int)) _ {g with c:=c8} (GS.st (GS.st Gk (8+(k:Int)) (.n 0)) (20+(k:Int)) (.n 0)) S.out.Al (Ch (k:=(26+(k:Int))) hb.out (by omega))).mono ?_;rintro e w9 ⟨rfl,hm⟩;replace K:=hid (K.out.step (Ad.quiet S.out.Al hm));replace S:=hid (S.out.trans (Ad.quiet S.out.Al hm));clear hm;obtain⟨Au,AQ⟩:=K.out.cl p #[.slice sp sn sc] 255 (by first | exact HF.out | simp[HF.out]);have DR:True→wrap64 (8+(k:Int))=8+(k:Int):=fun _=>ER 8 k (by decide) C8
     have DK:True→wrap64 (20+(k:Int))=20+(k:Int):=fun _=>ER 20 k (by decide) C8
     have Ew:True→wrap64 (26+(k:Int))=26+(k:Int):=fun _=>ER 26 k (by decide) C8
     go_wp2_with fail;clear DR DK Ew;clear Au AQ;refine(BD 0 _).mono ?_;rintro e w10 ⟨rfl,hm⟩;replace K:=hid (K.out.step (Ad.quiet S.out.Al hm));replace S:=hid (S.out.trans (Ad.quiet S.out.Al hm));clear hm;obtain⟨Au,AQ⟩:=K.out.cl p #[.slice sp sn sc] 255 (by first | exact HF.out | simp[HF.out]);have DR:True→wrap64 (8+(k:Int))=8+(k:Int):=fun _=>ER 8 k (by decide) C8
     have DK:True→wrap64 (20+(k:Int))=20+(k:Int):=fun _=>ER 20 k (by decide) C8
     have Ew:True→wrap64 (26+(k:Int))=26+(k:Int):=fun _=>ER 26 k (by decide) C8
     go_wp2_with fail;clear DR DK Ew;clear Au AQ;refine(BM (.n (GS.Ah (GS.st (GS.st Gk (8+(k:Int)) (.n 0)) (20+(k:Int)) (.n 0))+(26+(k:Int)))) 0 (.n 0) _ {g with c:=c8} (GS.st (GS.st Gk (8+(k:Int)) (.n 0)) (20+(k:Int)) (.n 0)) S.out.Al (by (try simp only[BH]);omega)).mono ?_;rintro e w11 ⟨rfl,c12,st⟩;dsimp only at st;replace K:=hid (K.out.step st);replace S:=hid (S.out.trans st);clear st;replace hb:=hid (Ap.eq hb.out (GS.EB (GS.st (GS.st Gk (8+(k:Int)) (.n 0)) (20+(k:Int)) (.n 0)) (26+(k:Int)) (.n 0)));obtain⟨Au,AQ⟩:=K.out.cl p #[.slice sp sn sc] 255 (by first | exact HF.out | simp[HF.out]);have DR:True→wrap64 (8+(k:Int))=8+(k:Int):=fun _=>ER 8 k (by decide) C8
     have DK:True→wrap64 (20+(k:Int))=20+(k:Int):=fun _=>ER 20 k (by decide) C8
     have Ew:True→wrap64 (26+(k:Int))=26+(k:Int):=fun _=>ER 26 k (by decide) C8
     go_wp2_with fail;clear DR DK Ew;clear Au AQ;have hC:Ad w (g.Ax G) w11 (MG.Ax {g with c:=c12} (GS.EO GS.D3 (k+1) G1))∧Ba w11 (MG.Ax {g with c:=c12} (GS.EO GS.D3 (k+1) G1)) F:=by rw[JI.out];exact⟨S.out,K.out⟩
     clear S K JI;go_roundw;case rel=>(try rw[LA k C8]);exact⟨k+1,_,rfl,by omega,hC⟩
     case measure=>(try rw[LA k C8]);simp[intOf];omega
    ·have Pc:k=cells.toNat:=by omega
     subst Pc;clear JM;have HG:=hid (show∃z,z=GS.EO GS.D3 (cells.toNat) G1 from⟨_,rfl⟩);obtain⟨G2,Pe⟩:=HG.out;rw[←Pe] at hl FD Kd st kn;have jG:=hid Pe;replace hb:=hid FD;replace BK:=hid Kd;have S:=hid st;have K:=hid kn;have Xd:G2.Af.length+Ci b≤997730:=by omega
     clear st kn FD hl Kd Pe HG;obtain⟨Au,AQ⟩:=K.out.cl p #[.slice sp sn sc] 255 (by first | exact HF.out | simp[HF.out]);go_wp2_with fail;clear Au AQ;refine(Co 39 _ {g with c:=c0} G2 S.out.Al (Ch (k:=39) hb.out (by omega))).mono ?_;rintro e w1 ⟨rfl,hm⟩;replace K:=hid (K.out.step (Ad.quiet S.out.Al hm));replace S:=hid (S.out.trans (Ad.quiet S.out.Al hm));clear hm;obtain⟨Au,AQ⟩:=K.out.cl p #[.slice sp sn sc] 255 (by first | exact HF.out | simp[HF.out]);go_wp2_with fail;clear Au AQ;refine(BD 0 _).mono ?_;rintro e w2 ⟨rfl,hm⟩;replace K:=hid (K.out.step (Ad.quiet S.out.Al hm));replace S:=hid (S.out.trans (Ad.quiet S.out.Al hm));clear hm;obtain⟨Au,AQ⟩:=K.out.cl p #[.slice sp sn sc] 255 (by first | exact HF.out | simp[HF.out]);go_wp2_with fail;clear Au AQ;refine(BM (.n (GS.Ah G2+39)) 0 (.n 0) _ {g with c:=c0} G2 S.out.Al (by (try simp only[BH]);omega)).mono ?_;rintro e w3 ⟨rfl,c4,st⟩;replace K:=hid (K.out.step st);replace S:=hid (S.out.trans st);clear st;replace hb:=hid (Ap.eq hb.out (GS.EB G2 39 (.n 0)));obtain⟨Au,AQ⟩:=K.out.cl p #[.slice sp sn sc] 255 (by first | exact HF.out | simp[HF.out]);go_wp2_with fail;clear Au AQ;refine(BD 16 _).mono ?_;rintro e w5 ⟨rfl,hm⟩;replace K:=hid (K.out.step (Ad.quiet S.out.Al hm));replace S:=hid (S.out.trans (Ad.quiet S.out.Al hm));clear hm;obtain⟨Au,AQ⟩:=K.out.cl p #[.slice sp sn sc] 255 (by first | exact HF.out | simp[HF.out]);go_wp2_with fail;clear Au AQ;refine(Cv 1 (.n 16) 0 _ {g with c:=c4} (GS.st G2 39 (.n 0)) S.out.Al (by (try simp only[BH]);omega)).mono ?_;rintro e w6 ⟨rfl,c7,st⟩;dsimp only at st;replace K:=hid (K.out.step st);replace S:=hid (S.out.trans st);clear st;replace hb:=hid (Ap.eq hb.out (GS.Kz (GS.st G2 39 (.n 0)) 1 16));obtain⟨Au,AQ⟩:=K.out.cl p #[.slice sp sn sc] 255 (by first | exact HF.out | simp[HF.out]);go_wp2_with fail;clear Au AQ;refine(Co 38 _ {g with c:=c7} (GS.C7 (GS.st G2 39 (.n 0)) 1 16) S.out.Al (Ch (k:=38) hb.out (by omega))).mono ?_;rintro e w8 ⟨rfl,hm⟩;replace K:=hid (K.out.step (Ad.quiet S.out.Al hm));replace S:=hid (S.out.trans (Ad.quiet S.out.Al hm));clear hm;obtain⟨Au,AQ⟩:=K.out.cl p #[.slice sp sn sc] 255 (by first | exact HF.out | simp[HF.out]);go_wp2_with fail;clear Au AQ;refine(A3 1 _).mono ?_;rintro e w9 ⟨rfl,hm⟩;replace K:=hid (K.out.step (Ad.quiet S.out.Al hm));replace S:=hid (S.out.trans (Ad.quiet S.out.Al hm));clear hm;obtain⟨Au,AQ⟩:=K.out.cl p #[.slice sp sn sc] 255 (by first | exact HF.out | simp[HF.out]);go_wp2_with fail;clear Au AQ;refine(BM (.n (GS.Ah (GS.C7 (GS.st G2 39 (.n 0)) 1 16)+38)) 0 (.r 1) _ {g with c:=c7} (GS.C7 (GS.st G2 39 (.n 0)) 1 16) S.out.Al (by (try simp only[BH]);omega)).mono ?_;rintro e w10 ⟨rfl,c11,st⟩;dsimp only at st;replace K:=hid (K.out.step st);replace S:=hid (S.out.trans st);clear st;replace hb:=hid (Ap.eq hb.out (GS.EB (GS.C7 (GS.st G2 39 (.n 0)) 1 16) 38 (.r 1)));obtain⟨Au,AQ⟩:=K.out.cl p #[.slice sp sn sc] 255 (by first | exact HF.out | simp[HF.out]);obtain⟨hc,hf,Bi⟩:=AW S.out.Al;have BQ:=K.out.PU HF.out;go_wp2_with fail;clear hc hf Bi BQ;clear Au AQ;have st:=Ad.enter S.out.Al;dsimp only at st;replace K:=hid (K.out.step st);replace S:=hid (S.out.trans st);clear st;obtain⟨G3,mR⟩:∃z,z=(GS.st (GS.C7 (GS.st G2 39 (.n 0)) 1 16) 38 (.r 1)):=⟨_,rfl⟩;have VF:GS.cells G3=cells:=by rw[mR];exact BK.out
     have vE:(GS.Af G3).length+Ci b≤997740:=by rw[mR];simp only[GS.Gi,GS.LZ];omega
     have iv:0≤GS.Aj G3∧GS.Aj G3≤((d+1:Nat):Int):=by
      have:GS.Aj G3=GS.Aj G:=by rw[mR];show G2.Aj=_;rw[jG.out,Wy (fun i x=>GS.XA x i),jT.out,Wy (fun i x=>GS.Yr x i)]
      rw[this];omega
     have cV:=hb.out;rw[←mR] at cV;have vY:Ap (GS.enter G3).Ah:=cV;have S3:Ad w (g.Ax G) ((World.setCell w10 ⟨g.mb,3,none⟩ (.bool true)).setCell ⟨g.mb,4,none⟩ (.slice none 0 0)) (MG.Ax {g with c:=c11,a:=⟨none,0⟩,av:=[]} (GS.enter G3)):=by rw[mR];exact S.out
     have K3:Ba ((World.setCell w10 ⟨g.mb,3,none⟩ (.bool true)).setCell ⟨g.mb,4,none⟩ (.slice none 0 0)) (MG.Ax {g with c:=c11,a:=⟨none,0⟩,av:=[]} (GS.enter G3)) F:=by rw[mR];exact K.out
     clear S K;have dU:=IY cells b Dp (d+1) true (GS.enter G3) zv.out rfl VF;refine(IH.out b (.slice sp sn sc) ws (d+1) _ {g with c:=c11,a:=⟨none,0⟩,av:=[]} (GS.enter G3) (Nat.le_refl _) H3.out H4.out zv.out (by omega) S3.Al K3 rfl VF iv vY (by show(GS.Af G3).length+_≤_;omega) (Nat.zero_le _)).mono ?_;rintro e w20 ⟨rfl,c5,a5,AV,nM,E5,Hh,st,kn,an,hv⟩;dsimp only at st kn;rw[List.nil_append] at st kn;obtain⟨G4,wu⟩:∃z,z=GS.BX b (GS.enter G3):=⟨_,rfl⟩;rw[←wu] at st kn an hv Hh dU;replace Hh:G4.Be=nM:=Hh;have uj:Ap G4.Ah:=Ap.eq vY dU.1.Ah;have y2:G4.cells=cells:=dU.1.cells.trans VF;have mG:G4.Af.length≤997740:=by have:=dU.2.2;have e0:(GS.enter G3).Af.length=(GS.Af G3).length:=rfl;omega
     have Kb:AV.length≤G4.Af.length:=by omega
     have S:=hid (S3.trans st);have K:=hid ((K3.step st).Gq kn);have A:=hid an;replace hb:=hid uj;replace BK:=hid y2;have zH:=hid Hh;have pY:=hid mR;have uy:=hid wu;clear st kn an uj y2 Hh dU vY cV iv vE VF S3 K3 mR wu hv Xd Ey OM;obtain⟨ap,ac⟩:=a5;obtain⟨hc,hf,Bi⟩:=AW S.out.Al;have BQ:=K.out.PU (List.mem_append_right _ HF.out);obtain⟨Au,AQ⟩:=K.out.cl p #[.slice sp sn sc] _ (List.mem_append_right _ HF.out);go_wp2_with fail;clear hc hf Bi BQ Au AQ;have st:=Ad.AP S.out.Al false;dsimp only at st;replace K:=hid (K.out.step st);replace S:=hid (S.out.trans st);clear st;refine(fm F _ _ (K.out.sub (fun _ hx=>List.mem_append_right _ hx)) 1000 (Nat.le_refl _) b (.slice sp sn sc) ws GK H3.out H4.out).mono ?_;rintro e w21 ⟨rfl,rfl⟩;cases Ow:Du b with
     | true=>
      have Aal:=hid Ow;go_wp2_with fail;refine(WS _ {g with c:=c5,a:=⟨ap,ac⟩,av:=AV} (GS.AP G4 false) S.out.Al (by show G4.Af.length≤_;omega) Kb hb.out (by show 0≤G4.cells∧G4.cells≤6;rw[BK.out];exact Dp)).mono ?_;rintro e w22 ⟨rfl,c6,a6,p5,uK,E6,VH,st,kn,an6,yu⟩;dsimp only at st kn;obtain⟨G5,XZ⟩:∃z,z=GS.EM (GS.AP G4 false):=⟨_,rfl⟩;rw[←XZ] at st kn an6 yu VH;have gY:G5.Af.length≤997980:=by rw[XZ,GS.SI];show G4.Af.length+(GS.cells G4).toNat*37+3≤_;rw[BK.out];omega
      have sA:Ap G5.Ah:=by rw[XZ];exact Ap.eq hb.out (by rw[GS.NK];rfl)
      have Xk:G5.cells=cells:=by rw[XZ];exact Eq.trans (by rw[GS.NK];rfl) BK.out
      have tF:=hid (show G5=if Du b then GS.EM (GS.AP G4 false) else GS.AP G4 false by rw[Ow,XZ];rfl);replace K:=hid ((K.out.step st).Gq kn);replace S:=hid (S.out.trans st);replace A:=hid (A.out.Ec an6 (show G4.Af.length≤_ by have e1:(GS.AP G4 false).Af.length=G4.Af.length:=rfl;omega));have B:=hid (show G5.Be=nM++uK from VH.trans (congrArg (· ++uK) zH.out));have kV:(AV++p5).length≤G5.Af.length:=by have e1:(GS.AP G4 false).Af.length=G4.Af.length:=rfl;rw[List.length_append];omega
      obtain⟨ap5,ac5⟩:=a6;obtain⟨AV5,um⟩:∃z,z=AV++p5:=⟨_,rfl⟩;obtain⟨KN,ud⟩:∃z,z=nM++uK:=⟨_,rfl⟩;have S9:=S.out;have K9:=K.out;have A9:=A.out;have B9:=B.out;rw[←um] at S9 K9 A9 kV;rw[←ud] at A9 B9;obtain⟨F2,kn2,an2,mp⟩:∃F2,Ba w22 (MG.Ax {g with c:=c6,a:=⟨ap5,ac5⟩,av:=AV5} G5) F2∧Io F2 g.mb G5.Af.length AV5 KN∧(p,Obj.cells #[.slice sp sn sc] 255 (0,0))∈F2:=⟨_,K9,A9.up (fun _ h=>(List.mem_append.1 h).elim (List.mem_append_left _) (fun h=>List.mem_append_right _ (List.mem_append_left _ h))) (Nat.le_refl _),by simp[HF.out]⟩;clear S K A B um ud K9 A9 st kn an6 VH yu XZ Kb mG;have S:=hid S9;have K:=hid kn2;have A:=hid an2;have B:=hid B9;clear S9 kn2 an2 B9;replace hb:=hid sA;replace BK:=hid Xk;clear sA Xk;replace HF:=hid mp;clear mp;obtain⟨Au,AQ⟩:=K.out.cl p #[.slice sp sn sc] _ HF.out;go_wp2_with fail;clear Au AQ;refine(Uk _ {g with c:=c6,a:=⟨ap5,ac5⟩,av:=AV5} G5 S.out.Al (by omega) hb.out).mono ?_;rintro e w23 ⟨rfl,c7,st⟩;dsimp only at st;replace K:=hid (K.out.step st);replace S:=hid (S.out.trans st);clear st;replace hb:=hid (Ap.eq hb.out (TM G5));replace BK:=hid ((Q9 G5).trans BK.out);have gV:=GS.NY G5;obtain⟨G6,lx⟩:∃z,z=GS.G0 G5:=⟨_,rfl⟩;have VH:G6.Be=KN:=by rw[lx,Rb];exact B.out
      have S9:=S.out;have K9:=K.out;have jO:=hb.out;have oY:=BK.out;rw[←lx] at S9 K9 jO oY gV;have ye:=hid lx;have pV:=hid VH;clear S K hb BK lx VH B;have S:=hid S9;have K:=hid K9;have hb:=hid jO;have BK:=hid oY;clear S9 K9 jO oY;have hl6:G6.Af.length≤997990:=by omega
      go_wp2_with fail;refine(My _ {g with c:=c7,a:=⟨ap5,ac5⟩,av:=AV5} G6 S.out.Al (by omega)).mono ?_;rintro e w24 ⟨bm,bk,c8,rfl,st,kn⟩;dsimp only at st kn;obtain⟨F3,kn3,m1,m2,Zd⟩:∃F3,Ba w24 (MG.Ax {g with c:=c8,a:=⟨ap5,ac5⟩,av:=AV5} (GS.Bc G6)) F3∧P5 bk G6.Af.length∈F3∧Ok bm g.mb∈F3∧XS F3 g.mb AV5 KN:=⟨_,(K.out.step st).Gq kn,by simp,by simp,A.out.all.sub (fun _ h=>List.mem_append_right _ h)⟩;have Xe:∀l,l∈KN→l.k < G6.Af.length:=fun l hl=>Nat.lt_of_lt_of_le (A.out.lt l hl) (by omega)
      replace S:=hid (S.out.trans st);clear K st kn A;have jD:=hid Xe;have pU:=hid Zd;have M1:=hid m1;have M2:=hid m2;have K:=hid kn3;have FV:AV5.length=KN.length:=Zd.len;have TF:=hid FV;clear Xe Zd m1 m2 kn3;have wg:AV5.length≤998000:=by omega
      have o7:=hid (show AV5.length≤G6.Af.length by omega);clear FV kV gY gV;obtain⟨hc,hf,Bi⟩:=AW S.out.Al;go_wp2;clear hc hf Bi;go_loopw [106] (fun i wr=>∃(k:Nat) (c:SG),i= .int .i64 k∧k≤AV5.length∧Ad w (g.Ax G) wr (MG.Ax {g with c:=c,a:=⟨ap5,ac5⟩,av:=AV5} ((KN.take k).foldl GS.AM (GS.Bc G6)))∧Ba wr (MG.Ax {g with c:=c,a:=⟨ap5,ac5⟩,av:=AV5} ((KN.take k).foldl GS.AM (GS.Bc G6))) F3) (fun i _=>AV5.length - (intOf i).toNat);case atStart=>exact⟨0,_,rfl,Nat.zero_le _,S.out,K.out⟩
      case round=>
       clear S K;obtain⟨k,c9,rfl,XY,st,kn⟩:=hrel;by_cases hk:(k:Int) < (AV5.length:Int)
       ·have hY:k < AV5.length:=by omega
        have QP:k < KN.length:=by rw[←TF.out];exact hY
        have ak:=pU.out.A5 k hY QP;have Sc:=Sp KN (GS.Bc G6) k QP;have oK:=jD.out KN[k] (List.getElem_mem _);obtain⟨ab,acp,mN,_,hal,_,_,o9,wi⟩:=AX (n:=AV5.length) (st.Al.row (i:=2) rfl) (by omega);cases mN;have Kd:=o9 k hY;have hlen:=Jh (KN.take k) (GS.Bc G6);rw[GS.FM] at hlen;obtain⟨Gk,Su⟩:∃z,z=(KN.take k).foldl GS.AM (GS.Bc G6):=⟨_,rfl⟩;rw[←Su] at Sc hlen st kn;obtain⟨⟨lk,la⟩,hl⟩:∃l,l=KN[k]:=⟨_,rfl⟩;rw[←hl] at ak Sc oK;obtain⟨v,hv⟩:∃v,v=AV5[k]:=⟨_,rfl⟩;rw[←hv] at ak Kd;have S:=hid st;have K:=hid kn;have SR:=hid Sc;have ia:lk < Gk.Af.length:=by rw[hlen];exact Nat.lt_succ_of_lt oK
        have LK:Gk.Af.length≤1000000:=by omega
        clear st kn Sc Su hl hv o9 wi hlen oK QP;have C8:k≤1000000:=by omega
        have inc:True→wrap64 ((k:Int)+1)=k+1:=fun _=>gx k C8
        cases la with
        | none=>
         obtain⟨xm,xk,rfl,x1,x2⟩:=ak;go_wp2_with fail;refine(Jg xm xk lk _ {g with c:=c9,a:=⟨some ⟨ab,0,none⟩,ac5⟩,av:=AV5} Gk F3 S.out.Al K.out x2 x1 LK ia).mono ?_;rintro e w25 ⟨rfl,c10,st⟩;dsimp only at st;have S2:=S.out.trans st;have K2:=K.out.step st;rw[←SR.out] at S2 K2;clear S K Kd x1 x2;go_wp2;go_roundw;case rel=>exact⟨k+1,_,rfl,hY,S2,K2⟩
         case measure=>simp[intOf];omega
        | some a=>
         obtain⟨xa,xm,xk,rfl,x0,x1,x2⟩:=ak;go_wp2_with fail;refine(CQ a xa xm xk lk _ {g with c:=c9,a:=⟨some ⟨ab,0,none⟩,ac5⟩,av:=AV5} Gk F3 S.out.Al K.out x2 x0 x1 LK ia).mono ?_;rintro e w25 ⟨rfl,c10,st⟩;dsimp only at st;have S2:=S.out.trans st;have K2:=K.out.step st;rw[←SR.out] at S2 K2;clear S K Kd x0 x1 x2;go_wp2;go_roundw;case rel=>exact⟨k+1,_,rfl,hY,S2,K2⟩
         case measure=>simp[intOf];omega
       ·have Pc:k=AV5.length:=by omega
        subst Pc;have rh:KN.take AV5.length=KN:=List.take_of_length_le (by rw[TF.out];exact Nat.le_refl _);rw[rh] at st kn;have hlen:=Jh KN (GS.Bc G6);rw[GS.FM] at hlen;have ss:=Ap.eq hb.out (Sq KN (GS.Bc G6));have JZ:=(Qb KN (GS.Bc G6)).trans BK.out;obtain⟨G8,pj⟩:∃z,z=KN.foldl GS.AM (GS.Bc G6):=⟨_,rfl⟩;rw[←pj] at st kn hlen ss JZ;have S:=hid st;have K:=hid kn;have yd:=hid pj;clear st kn pj rh;have hl8:G8.Af.length≤998000:=by omega
        go_wp2_with fail;refine(Un G1.Af.length _ {g with c:=c9,a:=⟨ap5,ac5⟩,av:=AV5} G8 S.out.Al (by omega) ss (by rw[JZ];omega)).mono ?_;rintro e w26 ⟨rfl,c11,st⟩;dsimp only at st;replace K:=hid (K.out.step st);replace S:=hid (S.out.trans st);clear st;have oF:(GS.Ke G8 G1.Af.length).Af.length=G8.Af.length+cells.toNat*4+9:=by rw[GS.OF,JZ]
        go_wp2_with fail;refine(Jg bm bk G6.Af.length _ {g with c:=c11,a:=⟨ap5,ac5⟩,av:=AV5} (GS.Ke G8 G1.Af.length) F3 S.out.Al K.out M1.out M2.out (by rw[oF];omega) (by rw[oF];omega)).mono ?_;rintro e w27 ⟨rfl,c12,st⟩;dsimp only at st;replace S:=hid (S.out.trans st);clear st;go_wp2
        go_end0
        have e:=UR b cells G G1 G2 G4 G5 jT.out jG.out zO.out (by rw[uy.out,pY.out]) tF.out;rw[←ye.out,pV.out,←yd.out] at e;rw[e];refine⟨rfl,c12,⟨_,_⟩,AV5,S.out,?_⟩;have:=o7.out;rw[GS.Dh,oF];omega
     | false=>
      obtain⟨G5,XZ⟩:∃z,z=GS.AP G4 false:=⟨_,rfl⟩;have gY:G5.Af.length≤997980:=by rw[XZ];show G4.Af.length≤_;omega
      have sA:Ap G5.Ah:=by rw[XZ];exact hb.out
      have Xk:G5.cells=cells:=by rw[XZ];exact BK.out
      have tF:=hid (show G5=if Du b then GS.EM (GS.AP G4 false) else GS.AP G4 false by rw[Ow,XZ];rfl);have kV:AV.length≤G5.Af.length:=by rw[XZ];exact Kb
      obtain⟨w22,nW⟩:∃z,z=World.setCell w20 ⟨g.mb,3,none⟩ (.bool false):=⟨_,rfl⟩;have S9:=S.out;have K9:=K.out;have A9:=A.out;have B9:G5.Be=nM:=by rw[XZ];exact zH.out
      have A8:Io E5 g.mb G5.Af.length AV nM:=by rw[XZ];exact A9
      rw[←XZ,←nW] at S9 K9;rw[←nW];obtain⟨F2,kn2,an2,mp⟩:∃F2,Ba w22 (MG.Ax {g with c:=c5,a:=⟨ap,ac⟩,av:=AV} G5) F2∧Io F2 g.mb G5.Af.length AV nM∧(p,Obj.cells #[.slice sp sn sc] 255 (0,0))∈F2:=⟨_,K9,A8.up (fun _ h=>List.mem_append_left _ h) (Nat.le_refl _),by simp[HF.out]⟩;clear S K A K9 A9 A8 nW XZ Kb mG;have S:=hid S9;have K:=hid kn2;have A:=hid an2;have B:=hid B9;clear S9 kn2 an2 B9;obtain⟨ap5,hap⟩:∃z,z=ap:=⟨_,rfl⟩;obtain⟨ac5,o9⟩:∃z,z=ac:=⟨_,rfl⟩;obtain⟨AV5,um⟩:∃z,z=AV:=⟨_,rfl⟩;obtain⟨KN,ud⟩:∃z,z=nM:=⟨_,rfl⟩;subst hap o9 um ud;replace hb:=hid sA;replace BK:=hid Xk;clear sA Xk;replace HF:=hid mp;clear mp;obtain⟨Au,AQ⟩:=K.out.cl p #[.slice sp sn sc] _ HF.out;go_wp2_with fail;clear Au AQ;refine(Uk _ {g with c:=c5,a:=⟨ap5,ac5⟩,av:=AV5} G5 S.out.Al (by omega) hb.out).mono ?_;rintro e w23 ⟨rfl,c7,st⟩;dsimp only at st;replace K:=hid (K.out.step st);replace S:=hid (S.out.trans st);clear st;replace hb:=hid (Ap.eq hb.out (TM G5));replace BK:=hid ((Q9 G5).trans BK.out);have gV:=GS.NY G5;obtain⟨G6,lx⟩:∃z,z=GS.G0 G5:=⟨_,rfl⟩;have VH:G6.Be=KN:=by rw[lx,Rb];exact B.out
      have S9:=S.out;have K9:=K.out;have jO:=hb.out;have oY:=BK.out;rw[←lx] at S9 K9 jO oY gV;have ye:=hid lx;have pV:=hid VH;clear S K hb BK lx VH B;have S:=hid S9;have K:=hid K9;have hb:=hid jO;have BK:=hid oY;clear S9 K9 jO oY;have hl6:G6.Af.length≤997990:=by omega
      go_wp2_with fail;refine(My _ {g with c:=c7,a:=⟨ap5,ac5⟩,av:=AV5} G6 S.out.Al (by omega)).mono ?_;rintro e w24 ⟨bm,bk,c8,rfl,st,kn⟩;dsimp only at st kn;obtain⟨F3,kn3,m1,m2,Zd⟩:∃F3,Ba w24 (MG.Ax {g with c:=c8,a:=⟨ap5,ac5⟩,av:=AV5} (GS.Bc G6)) F3∧P5 bk G6.Af.length∈F3∧Ok bm g.mb∈F3∧XS F3 g.mb AV5 KN:=⟨_,(K.out.step st).Gq kn,by simp,by simp,A.out.all.sub (fun _ h=>List.mem_append_right _ h)⟩;have Xe:∀l,l∈KN→l.k < G6.Af.length:=fun l hl=>Nat.lt_of_lt_of_le (A.out.lt l hl) (by omega)
      replace S:=hid (S.out.trans st);clear K st kn A;have jD:=hid Xe;have pU:=hid Zd;have M1:=hid m1;have M2:=hid m2;have K:=hid kn3;have FV:AV5.length=KN.length:=Zd.len;have TF:=hid FV;clear Xe Zd m1 m2 kn3;have wg:AV5.length≤998000:=by omega
      have o7:=hid (show AV5.length≤G6.Af.length by omega);clear FV kV gY gV;obtain⟨hc,hf,Bi⟩:=AW S.out.Al;go_wp2;clear hc hf Bi;go_loopw [106] (fun i wr=>∃(k:Nat) (c:SG),i= .int .i64 k∧k≤AV5.length∧Ad w (g.Ax G) wr (MG.Ax {g with c:=c,a:=⟨ap5,ac5⟩,av:=AV5} ((KN.take k).foldl GS.AM (GS.Bc G6)))∧Ba wr (MG.Ax {g with c:=c,a:=⟨ap5,ac5⟩,av:=AV5} ((KN.take k).foldl GS.AM (GS.Bc G6))) F3) (fun i _=>AV5.length - (intOf i).toNat);case atStart=>exact⟨0,_,rfl,Nat.zero_le _,S.out,K.out⟩
      case round=>
       clear S K;obtain⟨k,c9,rfl,XY,st,kn⟩:=hrel;by_cases hk:(k:Int) < (AV5.length:Int)
       ·have hY:k < AV5.length:=by omega
        have QP:k < KN.length:=by rw[←TF.out];exact hY
        have ak:=pU.out.A5 k hY QP;have Sc:=Sp KN (GS.Bc G6) k QP;have oK:=jD.out KN[k] (List.getElem_mem _);obtain⟨ab,acp,mN,_,hal,_,_,o9,wi⟩:=AX (n:=AV5.length) (st.Al.row (i:=2) rfl) (by omega);cases mN;have Kd:=o9 k hY;have hlen:=Jh (KN.take k) (GS.Bc G6);rw[GS.FM] at hlen;obtain⟨Gk,Su⟩:∃z,z=(KN.take k).foldl GS.AM (GS.Bc G6):=⟨_,rfl⟩;rw[←Su] at Sc hlen st kn;obtain⟨⟨lk,la⟩,hl⟩:∃l,l=KN[k]:=⟨_,rfl⟩;rw[←hl] at ak Sc oK;obtain⟨v,hv⟩:∃v,v=AV5[k]:=⟨_,rfl⟩;rw[←hv] at ak Kd;have S:=hid st;have K:=hid kn;have SR:=hid Sc;have ia:lk < Gk.Af.length:=by rw[hlen];exact Nat.lt_succ_of_lt oK
        have LK:Gk.Af.length≤1000000:=by omega
        clear st kn Sc Su hl hv o9 wi hlen oK QP;have C8:k≤1000000:=by omega
        have inc:True→wrap64 ((k:Int)+1)=k+1:=fun _=>gx k C8
        cases la with
        | none=>
         obtain⟨xm,xk,rfl,x1,x2⟩:=ak;go_wp2_with fail;refine(Jg xm xk lk _ {g with c:=c9,a:=⟨some ⟨ab,0,none⟩,ac5⟩,av:=AV5} Gk F3 S.out.Al K.out x2 x1 LK ia).mono ?_;rintro e w25 ⟨rfl,c10,st⟩;dsimp only at st;have S2:=S.out.trans st;have K2:=K.out.step st;rw[←SR.out] at S2 K2;clear S K Kd x1 x2;go_wp2;go_roundw;case rel=>exact⟨k+1,_,rfl,hY,S2,K2⟩
         case measure=>simp[intOf];omega
        | some a=>
         obtain⟨xa,xm,xk,rfl,x0,x1,x2⟩:=ak;go_wp2_with fail;refine(CQ a xa xm xk lk _ {g with c:=c9,a:=⟨some ⟨ab,0,none⟩,ac5⟩,av:=AV5} Gk F3 S.out.Al K.out x2 x0 x1 LK ia).mono ?_;rintro e w25 ⟨rfl,c10,st⟩;dsimp only at st;have S2:=S.out.trans st;have K2:=K.out.step st;rw[←SR.out] at S2 K2;clear S K Kd x0 x1 x2;go_wp2;go_roundw;case rel=>exact⟨k+1,_,rfl,hY,S2,K2⟩
         case measure=>simp[intOf];omega
       ·have Pc:k=AV5.length:=by omega
        subst Pc;have rh:KN.take AV5.length=KN:=List.take_of_length_le (by rw[TF.out];exact Nat.le_refl _);rw[rh] at st kn;have hlen:=Jh KN (GS.Bc G6);rw[GS.FM] at hlen;have ss:=Ap.eq hb.out (Sq KN (GS.Bc G6));have JZ:=(Qb KN (GS.Bc G6)).trans BK.out;obtain⟨G8,pj⟩:∃z,z=KN.foldl GS.AM (GS.Bc G6):=⟨_,rfl⟩;rw[←pj] at st kn hlen ss JZ;have S:=hid st;have K:=hid kn;have yd:=hid pj;clear st kn pj rh;have hl8:G8.Af.length≤998000:=by omega
        go_wp2_with fail;refine(Un G1.Af.length _ {g with c:=c9,a:=⟨ap5,ac5⟩,av:=AV5} G8 S.out.Al (by omega) ss (by rw[JZ];omega)).mono ?_;rintro e w26 ⟨rfl,c11,st⟩;dsimp only at st;replace K:=hid (K.out.step st);replace S:=hid (S.out.trans st);clear st;have oF:(GS.Ke G8 G1.Af.length).Af.length=G8.Af.length+cells.toNat*4+9:=by rw[GS.OF,JZ]
        go_wp2_with fail;refine(Jg bm bk G6.Af.length _ {g with c:=c11,a:=⟨ap5,ac5⟩,av:=AV5} (GS.Ke G8 G1.Af.length) F3 S.out.Al K.out M1.out M2.out (by rw[oF];omega) (by rw[oF];omega)).mono ?_;rintro e w27 ⟨rfl,c12,st⟩;dsimp only at st;replace S:=hid (S.out.trans st);clear st;go_wp2
        go_end0
        have e:=UR b cells G G1 G2 G4 G5 jT.out jG.out zO.out (by rw[uy.out,pY.out]) tF.out;rw[←ye.out,pV.out,←yd.out] at e;rw[e];refine⟨rfl,c12,⟨_,_⟩,AV5,S.out,?_⟩;have:=o7.out;rw[GS.Dh,oF];omega
def GZ (op:Option Addr) (n oc:Nat) (cs:List SG) (l:List (List GI)):List Ob:= .row (.slice op n oc) 158 1 n (BL cs l)::List.zipWith DG cs l
theorem qJ {α:Type} (b c a o:α) (R:List α):([b,c,a]++o::R).Perm ((o::(R++[c]))++[b,a]):=by
 refine List.perm_append_comm.trans ?_;have:(o::R)++[c,b,a]=(o::(R++[c]))++[b,a]:=by simp
 rw[←this];exact List.Perm.append_left _ (List.Perm.swap _ _ _)
end Go.Proofs.YtpdfifdlhpmofaaGreatDoor
