/-
  Part 25 of the proof, packed by program out of F13, F14, F15, F16, F17.
-/
import Derived.Test.YtpdfifdlhpmofaaGreatDoorZ24
import Derived.Test.YtpdfifdlhpmofaaGreatDoorZ14
set_option linter.unusedVariables false
set_option linter.unusedSimpArgs false
set_option maxHeartbeats 3200000
set_option maxRecDepth 100000
namespace Go.Proofs.YtpdfifdlhpmofaaGreatDoor
open Go.RowKit
open Go.Lib (hid)
theorem iJ (nm:ByteArray) (ws:Ws) (mb:Nat) (w:World) (g:FG) (x:qr) (wv:Value) (Ae:Int) (F:List (Nat×Obj)) (r:PV) (h:ed F g x wv Ae w r) (hs:Sl w (fun b=>b≠g.xb) wv (AY ws)) (hz:∀a,a∈ws→a.size≤1000000) (hg:Gl mb w) (IS:g.xb∉Pf mb) (hb:SW g) (AI:0≤x.Am∧x.Am≤1000) (hk:bs nm=C6):
  Calls Tryz.prog 101 #[.pointer (some ⟨g.xb,0,none⟩),.string nm] w (Nj (x.AO nm ws) F g x wv Ae w):=by
 have H:=hid h;have Hz:=hid hz;have Hg:=hid hg;have Hb:=hid hb;have Hk:=hid hk;have HX:=hid IS;have Sj:∀(fn:Fn) (first cap:Array Value) (w:World),(Instr.makeFunc fn first cap).run Tryz.prog w= .ok (.func fn first cap) w:=fun _ _ _ _=>rfl
 have R0:=hid ((Rd.start (r:=r) h.px hs).Qo (.cells #[.pointer (some ⟨g.xb,0,none⟩)] 143));have Bi:=BA h.px;obtain⟨bx,IJ⟩:∃b,b=w.heap.size:=⟨_,rfl⟩;have qp:=hid IJ;have q0:=Ar (x:=nm) (k:=CK) (by rw[hk];decide);unfold CK at q0;have q1:=Ar (x:=nm) (k:=Cw) (by rw[hk];decide);unfold Cw at q1;have q2:=Ar (x:=nm) (k:=CL) (by rw[hk];decide);unfold CL at q2;have q3:=Ar (x:=nm) (k:=Ds) (by rw[hk];decide);unfold Ds at q3;have q4:=Ar (x:=nm) (k:=AF) (by rw[hk];decide);unfold AF at q4;have q5:=Ar (x:=nm) (k:=I8) (by rw[hk];decide);unfold I8 at q5;have q6:=BN hk;unfold C6 at q6;clear h hs hz hg IS hb hk IJ;go_enter Tryz.func101,Tryz.ntmps101;have O8:Hid ((w.heap.size,Obj.cells #[.pointer (some ⟨g.xb,0,none⟩)] 143 (0,0))∈[(w.heap.size,Obj.cells #[.pointer (some ⟨g.xb,0,none⟩)] 143 (0,0))]):=hid (List.mem_cons_self ..);obtain⟨E,hE⟩:∃E,E=[(w.heap.size,Obj.cells #[.pointer (some ⟨g.xb,0,none⟩)] 143 (0,0))]:=⟨_,rfl⟩;rw[←hE] at O8 R0;clear hE;have MX:=O8;clear O8;obtain⟨KT,p1,s1⟩:=R0.out.px;have cb:=R0.out.cell MX.out 0;have XN:=hid (Uz 4 mb ws _ g.xb r KT Ae _ p1 s1 (fun h=>h.1 rfl) Hz.out (Hg.out.Bh R0.out.Bh (fun b hb hm=>by rw[List.mem_singleton] at hm;rw[hm] at hb;exact HX.out hb)) HX.out (by decide));clear p1 s1;go_wp2_with fail;refine XN.out.mono ?_;intro e w1 he;clear cb XN;cases hw:Gx 4 ws with
 | none=>
  rw[hw] at he;obtain⟨⟨fb,rfl,hb⟩,hm⟩:=he;have hr:=hid (Cb (x:=x) (w:=nm) (r:=ws) (by rw[OW Hk.out];unfold I1;rw[hw]));clear hw;go_wp2;rw[hr.out];exact⟨rfl,AZ (R0.out.fail ⟨⟨fb,rfl,hb⟩,hm⟩)⟩
 | some p=>
  obtain⟨a,l⟩:=p;rw[hw] at he;obtain⟨rfl,R1⟩:=R0.out.DS he;obtain⟨E2,R2,m2,more2⟩:=R1.YI (.cells #[.int .i64 a] 3);have R:=hid R2;have MA:=hid m2;replace MX:=hid (more2 _ MX.out);have Hw:=hid hw;clear hw R1 R2 m2 more2 he R0;obtain⟨UX,p2,s2⟩:=R.out.px;have cb:=R.out.cell MX.out 0;have Kg:=hid (Dz l _ g.xb r UX Ae _ p2 s2);clear p2 s2;go_wp2_with fail;refine Kg.out.mono ?_;intro e w3 he;clear cb;cases l with
  | cons b l2=>
   obtain⟨⟨fb,rfl,hb⟩,hm⟩:=he;have hr:=hid (Cb (x:=x) (w:=nm) (r:=ws) (by rw[OW Hk.out];unfold I1;rw[Hw.out];rfl));go_wp2;rw[hr.out];exact⟨rfl,AZ (R.out.fail ⟨⟨fb,rfl,hb⟩,hm⟩)⟩
  | nil=>
   obtain⟨rfl,R3⟩:=R.out.DS he;have Hr:=hid (Fg (x:=x) (w:=nm) (r:=ws) (s:= .loop a) (by rw[OW Hk.out];unfold I1;rw[Hw.out];rfl));rcases H.out with⟨hS,rfl⟩ | ⟨hN,hP⟩;rotate_left
   ·obtain⟨wvq,p3,_⟩:=R3.px;have x5:w3.cell? ⟨g.xb,5,none⟩=some (.slice none 0 0):=(p3.cell 5).trans (congrArg some hN.o);have x1:w3.cell? ⟨g.xb,1,none⟩=some (.int .i64 Ae):=p3.cell 1;have xl:g.xb < w3.heap.size:=p3.lt;have cb:=R3.cell MX.out 0;have hr:=hid (Hr.out.trans (Ek hN.th));have ZM:=hid R3;clear p3 he R3 R Kg Hr hN hP;go_wp2_with fail;refine(AS _ _ _).mono ?_;rintro e w5 ⟨⟨fb,rfl,hb⟩,hm⟩;go_wp2;rw[hr.out];exact⟨rfl,AZ ⟨⟨fb,rfl,hb⟩,ZM.out.Bh.Ac hm⟩⟩
   obtain⟨Ki,S3,K8⟩:=R3.FZ hS;have KM:=hid hS.Hj.ne;clear hS;obtain⟨wvq,p3,_⟩:=R3.px;have x5:w3.cell? ⟨g.xb,5,none⟩=some (.slice (some ⟨g.ob,0,none⟩) (g.fr.length+1) g.oc):=p3.cell 5;have x1:w3.cell? ⟨g.xb,1,none⟩=some (.int .i64 Ae):=p3.cell 1;have xl:g.xb < w3.heap.size:=p3.lt;have cb:=R3.cell MX.out 0;have Gb:((g.fr.length:Int)+1==0)=false:=by rw[beq_eq_false_iff_ne];omega
   have JK:=hid S3;have FC:=hid K8;clear S3 K8 p3 he R3 R Kg;have Hp:=hid (Hr.out.trans (Gz JK.out.Hj (fun h=>by cases h) (fun h=>by rw[Hk.out] at h;exact absurd h (by decide))));clear Hr;go_wp2_with fail;refine(dn a _ g x Ki Ae _ JK.out Hb.out _ _ (List.mem_append_left _ MX.out) (List.mem_append_left _ MA.out)).mono ?_;intro e w4 he;clear cb x5 x1 xl Gb;unfold Mp at he;cases CI:x.finish (.loop a) with
   | error c=>
    rw[CI] at he;obtain⟨⟨fb,rfl,hb⟩,hm⟩:=he;have hr:Hid (x.AO nm ws= .error c):=hid (by rw[Hp.out,CI]);clear CI;go_wp2;rw[hr.out];exact⟨rfl,Cf KM.out ⟨⟨fb,rfl,hb⟩,FC.out.Bh.Ac hm⟩⟩
   | ok y=>
    rw[CI] at he;obtain⟨rfl,g',F',Ff,D1,OU,S4⟩:=he;have V3:=Ep CI;have hr:x.AO nm ws=if 14 < y.Am+1∨4 < y.EI then .error 5 else .ok {y with Am:=y.Am+1}:=by rw[Hp.out,CI]
    rw[S4.Hj.EI] at hr;have Lr:True→wrap64 (y.Am+1)=y.Am+1:=fun _=>IntWalk.wrap64_in _ (by omega)
    have f4:=Ge S4.Al;have y6:w4.cell? ⟨g.xb,6,none⟩=some (.int .i64 y.Am):=Ff▸f4.c 6;have y5:w4.cell? ⟨g.xb,5,none⟩=some (.slice (some ⟨g'.ob,0,none⟩) (g'.fr.length+1) g'.oc):=Ff▸f4.c 5;have y1:w4.cell? ⟨g.xb,1,none⟩=some (.int .i64 Ae):=Ff▸f4.c 1;have yf:World.frozen? w4 ⟨g.xb,6,none⟩=false:=Ff▸f4.f 6;have yl:g.xb < w4.heap.size:=Ff▸f4.lt;have cb:=S4.AT.cell (D1 _ (List.mem_append_left _ MX.out)) 0;have IJ:w.heap.size≠g.xb:=fun e=>by rw[e] at Bi;omega
    obtain⟨t5,S5⟩:=S4.count (FC.out.trans OU);rw[Ff] at t5 S5;have NR:=hid t5;have V2:=hid S5;have ZJ:=hid Ff;have JJ:=hid D1;have NP:=hid hr;clear CI f4 S4 OU t5 S5 Ff D1 hr V3;by_cases Kj:14 < y.Am+1
    ·have Sf:x.AO nm ws= .error 5:=NP.out.trans (if_pos (.inl Kj));have Il:=hid Sf;clear Sf;go_wp2_with fail;refine(AS _ _ _).mono ?_;rintro e w5 ⟨⟨fb,rfl,hb⟩,hm⟩;go_wp2;rw[Il.out];exact⟨rfl,Cf KM.out ⟨⟨fb,rfl,hb⟩,NR.out.Bh.Ac hm⟩⟩
    ·by_cases h4:4 < g'.fr.length+1
     ·have Zf:(4:Int) < (g'.fr.length:Int)+1:=by omega
      have Il:=hid (NP.out.trans (if_pos (.inr h4)));clear h4;go_wp2_with fail;refine(AS _ _ _).mono ?_;rintro e w5 ⟨⟨fb,rfl,hb⟩,hm⟩;go_wp2;rw[Il.out];exact⟨rfl,Cf KM.out ⟨⟨fb,rfl,hb⟩,NR.out.Bh.Ac hm⟩⟩
     ·have Zf:¬(4:Int) < (g'.fr.length:Int)+1:=by omega
      have Il:=hid (NP.out.trans (if_neg (fun h=>h.elim Kj h4)));clear h4;go_wp2
      go_end0
      rw[Il.out];exact⟨rfl,g',F',Ki,ZJ.out,fun y hy=>JJ.out y (List.mem_append_right _ hy),NR.out,V2.out⟩
theorem Zh (nm:ByteArray) (ws:Ws) (mb:Nat) (w:World) (g:FG) (x:qr) (wv:Value) (Ae:Int) (F:List (Nat×Obj)) (r:PV) (h:ed F g x wv Ae w r) (hs:Sl w (fun b=>b≠g.xb) wv (AY ws)) (hz:∀a,a∈ws→a.size≤1000000) (hg:Gl mb w) (IS:g.xb∉Pf mb) (hb:SW g) (AI:0≤x.Am∧x.Am≤1000) (hk:bs nm=AF):
  Calls Tryz.prog 101 #[.pointer (some ⟨g.xb,0,none⟩),.string nm] w (Nj (x.AO nm ws) F g x wv Ae w):=by
 have H:=hid h;have Hz:=hid hz;have Hg:=hid hg;have Hb:=hid hb;have Hk:=hid hk;have HX:=hid IS;have Sj:∀(fn:Fn) (first cap:Array Value) (w:World),(Instr.makeFunc fn first cap).run Tryz.prog w= .ok (.func fn first cap) w:=fun _ _ _ _=>rfl
 have R0:=hid ((Rd.start (r:=r) h.px hs).Qo (.cells #[.pointer (some ⟨g.xb,0,none⟩)] 143));have Bi:=BA h.px;obtain⟨bx,IJ⟩:∃b,b=w.heap.size:=⟨_,rfl⟩;have qp:=hid IJ;have q0:=Ar (x:=nm) (k:=CK) (by rw[hk];decide);unfold CK at q0;have q1:=Ar (x:=nm) (k:=Cw) (by rw[hk];decide);unfold Cw at q1;have q2:=Ar (x:=nm) (k:=CL) (by rw[hk];decide);unfold CL at q2;have q3:=Ar (x:=nm) (k:=Ds) (by rw[hk];decide);unfold Ds at q3;have q4:=BN hk;unfold AF at q4;clear h hs hz hg IS hb hk IJ;go_enter Tryz.func101,Tryz.ntmps101;have O8:Hid ((w.heap.size,Obj.cells #[.pointer (some ⟨g.xb,0,none⟩)] 143 (0,0))∈[(w.heap.size,Obj.cells #[.pointer (some ⟨g.xb,0,none⟩)] 143 (0,0))]):=hid (List.mem_cons_self ..);obtain⟨E,hE⟩:∃E,E=[(w.heap.size,Obj.cells #[.pointer (some ⟨g.xb,0,none⟩)] 143 (0,0))]:=⟨_,rfl⟩;rw[←hE] at O8 R0;clear hE;have MX:=O8;clear O8;obtain⟨l,hl⟩:∃l,l=ws:=⟨_,rfl⟩;have R:Hid (Rd w g.xb r Ae E l _):=hl▸R0;have Hl:=hid hl;clear hl R0;obtain⟨UX,p2,s2⟩:=R.out.px;have cb:=R.out.cell MX.out 0;have Kg:=hid (Dz l _ g.xb r UX Ae _ p2 s2);clear p2 s2;go_wp2_with fail;refine Kg.out.mono ?_;intro e w3 he;clear cb;cases l with
 | cons b l2=>
  obtain⟨⟨fb,rfl,hb⟩,hm⟩:=he;have hr:=hid (Cb (x:=x) (w:=nm) (r:=ws) (by rw[PL Hk.out,←Hl.out];rfl));go_wp2;rw[hr.out];exact⟨rfl,AZ (R.out.fail ⟨⟨fb,rfl,hb⟩,hm⟩)⟩
 | nil=>
  obtain⟨rfl,R3⟩:=R.out.DS he;have Hr:=hid (Fg (x:=x) (w:=nm) (r:=ws) (s:= .atomic) (by rw[PL Hk.out,←Hl.out];rfl));rcases H.out with⟨hS,rfl⟩ | ⟨hN,hP⟩;rotate_left
  ·obtain⟨wvq,p3,_⟩:=R3.px;have x5:w3.cell? ⟨g.xb,5,none⟩=some (.slice none 0 0):=(p3.cell 5).trans (congrArg some hN.o);have x1:w3.cell? ⟨g.xb,1,none⟩=some (.int .i64 Ae):=p3.cell 1;have xl:g.xb < w3.heap.size:=p3.lt;have cb:=R3.cell MX.out 0;have hr:=hid (Hr.out.trans (Ek hN.th));have ZM:=hid R3;clear p3 he R3 R Kg Hr hN hP;go_wp2_with fail;refine(AS _ _ _).mono ?_;rintro e w5 ⟨⟨fb,rfl,hb⟩,hm⟩;go_wp2;rw[hr.out];exact⟨rfl,AZ ⟨⟨fb,rfl,hb⟩,ZM.out.Bh.Ac hm⟩⟩
  obtain⟨Ki,S3,K8⟩:=R3.FZ hS;have KM:=hid hS.Hj.ne;clear hS;obtain⟨wvq,p3,_⟩:=R3.px;have x5:w3.cell? ⟨g.xb,5,none⟩=some (.slice (some ⟨g.ob,0,none⟩) (g.fr.length+1) g.oc):=p3.cell 5;have x1:w3.cell? ⟨g.xb,1,none⟩=some (.int .i64 Ae):=p3.cell 1;have xl:g.xb < w3.heap.size:=p3.lt;have cb:=R3.cell MX.out 0;have Gb:((g.fr.length:Int)+1==0)=false:=by rw[beq_eq_false_iff_ne];omega
  have JK:=hid S3;have FC:=hid K8;clear S3 K8 p3 he R3 R Kg;have ni:=hid (Md _ g x Ki Ae JK.out.Al Hb.out.fr);go_wp2_with fail;refine ni.out.mono ?_;rintro e w3b ⟨rfl,MY⟩;clear ni;replace x5:=BB MY x5;replace x1:=BB MY x1;replace cb:=BB MY cb;have gF:=MY.size;replace xl:g.xb < w3b.heap.size:=by omega
  have P8:=hid (FC.out.trans (Ad.quiet JK.out.Al MY));have W7:=hid (JK.out.quiet MY);clear FC JK MY gF;have FC:=P8;have JK:=W7;clear P8 W7;cases Ey:g.fr.any Im.AP with
  | true=>
   have aS:=hid Ey;clear Ey;have hr:=hid (Hr.out.trans (OY JK.out.Hj (by exact .inr ⟨Hk.out,aS.out⟩)));go_wp2_with fail;refine(AS _ _ _).mono ?_;rintro e w5 ⟨⟨fb,rfl,hb⟩,hm⟩;go_wp2;rw[hr.out];exact⟨rfl,Cf KM.out ⟨⟨fb,rfl,hb⟩,FC.out.Bh.Ac hm⟩⟩
  | false=>
   have aS:=hid Ey;clear Ey;have Hp:=hid (Hr.out.trans (Gz JK.out.Hj (fun h=>by cases h) (fun _=>aS.out)));clear Hr aS;go_wp2_with fail;refine(Xs _ g x Ki Ae _ JK.out Hb.out _ (List.mem_append_left _ MX.out)).mono ?_;intro e w4 he;clear cb x5 x1 xl Gb;unfold Mp at he;cases CI:x.finish (.atomic) with
   | error c=>
    rw[CI] at he;obtain⟨⟨fb,rfl,hb⟩,hm⟩:=he;have hr:Hid (x.AO nm ws= .error c):=hid (by rw[Hp.out,CI]);clear CI;go_wp2;rw[hr.out];exact⟨rfl,Cf KM.out ⟨⟨fb,rfl,hb⟩,FC.out.Bh.Ac hm⟩⟩
   | ok y=>
    rw[CI] at he;obtain⟨rfl,g',F',Ff,D1,OU,S4⟩:=he;have V3:=Ep CI;have hr:x.AO nm ws=if 14 < y.Am+1∨4 < y.EI then .error 5 else .ok {y with Am:=y.Am+1}:=by rw[Hp.out,CI]
    rw[S4.Hj.EI] at hr;have Lr:True→wrap64 (y.Am+1)=y.Am+1:=fun _=>IntWalk.wrap64_in _ (by omega)
    have f4:=Ge S4.Al;have y6:w4.cell? ⟨g.xb,6,none⟩=some (.int .i64 y.Am):=Ff▸f4.c 6;have y5:w4.cell? ⟨g.xb,5,none⟩=some (.slice (some ⟨g'.ob,0,none⟩) (g'.fr.length+1) g'.oc):=Ff▸f4.c 5;have y1:w4.cell? ⟨g.xb,1,none⟩=some (.int .i64 Ae):=Ff▸f4.c 1;have yf:World.frozen? w4 ⟨g.xb,6,none⟩=false:=Ff▸f4.f 6;have yl:g.xb < w4.heap.size:=Ff▸f4.lt;have cb:=S4.AT.cell (D1 _ (List.mem_append_left _ MX.out)) 0;have IJ:w.heap.size≠g.xb:=fun e=>by rw[e] at Bi;omega
    obtain⟨t5,S5⟩:=S4.count (FC.out.trans OU);rw[Ff] at t5 S5;have NR:=hid t5;have V2:=hid S5;have ZJ:=hid Ff;have JJ:=hid D1;have NP:=hid hr;clear CI f4 S4 OU t5 S5 Ff D1 hr V3;by_cases Kj:14 < y.Am+1
    ·have Sf:x.AO nm ws= .error 5:=NP.out.trans (if_pos (.inl Kj));have Il:=hid Sf;clear Sf;go_wp2_with fail;refine(AS _ _ _).mono ?_;rintro e w5 ⟨⟨fb,rfl,hb⟩,hm⟩;go_wp2;rw[Il.out];exact⟨rfl,Cf KM.out ⟨⟨fb,rfl,hb⟩,NR.out.Bh.Ac hm⟩⟩
    ·by_cases h4:4 < g'.fr.length+1
     ·have Zf:(4:Int) < (g'.fr.length:Int)+1:=by omega
      have Il:=hid (NP.out.trans (if_pos (.inr h4)));clear h4;go_wp2_with fail;refine(AS _ _ _).mono ?_;rintro e w5 ⟨⟨fb,rfl,hb⟩,hm⟩;go_wp2;rw[Il.out];exact⟨rfl,Cf KM.out ⟨⟨fb,rfl,hb⟩,NR.out.Bh.Ac hm⟩⟩
     ·have Zf:¬(4:Int) < (g'.fr.length:Int)+1:=by omega
      have Il:=hid (NP.out.trans (if_neg (fun h=>h.elim Kj h4)));clear h4;go_wp2
      go_end0
      rw[Il.out];exact⟨rfl,g',F',Ki,ZJ.out,fun y hy=>JJ.out y (List.mem_append_right _ hy),NR.out,V2.out⟩
structure Ij where
 v1:Value
 v2:Value
 p1:Option Nat
 p2:Option Nat
 p3:Option Nat
def XT:Option Nat→Value
 | none=>undef
 | some b=> .pointer (some ⟨b,0,none⟩)
def Ij.LY (i1 i2 a1 a2:Nat) (T:Array Value) (s:Ij):Array Value:=(((T.setIfInBounds i1 s.v1).setIfInBounds i2 s.v2).setIfInBounds a1 (XT s.p1)).setIfInBounds a2 (XT s.p2)
def Ij.bZ (i1 i2 a1 a2 a3:Nat) (T:Array Value) (s:Ij):Array Value:=(Ij.LY i1 i2 a1 a2 T s).setIfInBounds a3 (XT s.p3)
def Z2 (l:Ws):Option (Value×Ws):=(Uh l).map fun p=>(.string p.1,p.2)
def Pt (l:Ws):Option (Value×Ws):=(EG l).map fun p=>(p.1.val,p.2)
def RgC (f1 f2:Ws→Option (Value×Ws)) (ws:Ws) (c1 c2:Nat) (cs:List Nat) (s:Ij) (l:Ws):Prop:=
 (cs=[c1,c2]∧l=ws)∨(cs=[c2]∧f1 ws=some (s.v1,l))∨(cs=[]∧∃l1,f1 ws=some (s.v1,l1)∧f2 l1=some (s.v2,l))
def jR (i:Nat) (al:List Nat) (p:Option Nat) (E:List (Nat×Obj)) (o:Obj):Prop:=(i∈al∧p=none)∨(i∉al∧∃b,p=some b∧(b,o)∈E)
structure NN (w0:World) (xb:Nat) (r:PV) (Ae:Int) (f1 f2:Ws→Option (Value×Ws)) (ws:Ws) (c1 c2 i1 i2 i3:Nat) (o1 o2 o3:Obj) (is:List Nat) (E0:List (Nat×Obj)) (cs al:List Nat) (s:Ij) (w:World):Prop where
 ex:∃E l,Rd w0 xb r Ae E l w∧V1 E0 E∧RgC f1 f2 ws c1 c2 cs s l∧jR i1 al s.p1 E o1∧jR i2 al s.p2 E o2∧jR i3 al s.p3 E o3
 nd:al.Nodup
 sub:∀i,i∈al→i∈is
 Qw:∀b,s.p1=some b→s.p2=some b→False
 VO:∀b,s.p1=some b→s.p3=some b→False
 UE:∀b,s.p2=some b→s.p3=some b→False
section
variable {w0:World} {xb:Nat} {r:PV} {Ae:Int} {f1 f2:Ws→Option (Value×Ws)} {ws:Ws} {c1 c2 i1 i2 i3:Nat} {o1 o2 o3:Obj} {is:List Nat} {E0:List (Nat×Obj)} {cs al:List Nat} {s:Ij} {w:World}
theorem jR.same {i:Nat} {p:Option Nat} {E:List (Nat×Obj)} {o:Obj} (h:jR i al p E o) {j:Nat} (hj:i≠j) (nb:Nat×Obj):jR i (al.erase j) p (nb::E) o:=by
 rcases h with⟨h1,h2⟩ | ⟨h1,b,h2,h3⟩
 ·exact .inl ⟨(List.mem_erase_of_ne hj).2 h1,h2⟩
 ·exact .inr ⟨fun h=>h1 ((List.mem_erase_of_ne hj).1 h),b,h2,List.mem_cons_of_mem _ h3⟩
theorem jR.I7 {i:Nat} (hd:al.Nodup) (E:List (Nat×Obj)) (o:Obj) (b:Nat):jR i (al.erase i) (some b) ((b,o)::E) o:=
 .inr ⟨fun h=>(List.Nodup.mem_erase_iff hd).1 h |>.1 rfl,b,rfl,List.mem_cons_self ..⟩
theorem jR.lt {i:Nat} {p:Option Nat} {E:List (Nat×Obj)} {o:Obj} {l:Ws} (h:jR i al p E o) (hR:Rd w0 xb r Ae E l w):p=some w.heap.size→False:=by
 rintro rfl;rcases h with⟨_,h2⟩ | ⟨_,b,h2,h3⟩
 ·cases h2
 ·cases h2;exact Nat.lt_irrefl _ (hR.dz h3)
theorem NN.a1 (hn:i1≠i2∧i1≠i3∧i2≠i3) (h:NN w0 xb r Ae f1 f2 ws c1 c2 i1 i2 i3 o1 o2 o3 is E0 cs al s w):NN w0 xb r Ae f1 f2 ws c1 c2 i1 i2 i3 o1 o2 o3 is E0 cs (al.erase i1) {s with p1:=some w.heap.size} (w.alloc o1):=by
 obtain⟨⟨E,l,hR,hM,hC,h1,h2,h3⟩,nd,sub,Qw,VO,UE⟩:=h;exact⟨⟨_,l,hR.Qo o1,fun y hy=>List.mem_cons_of_mem _ (hM y hy),hC,.I7 nd E o1 _,h2.same (Ne.symm hn.1) _,h3.same (Ne.symm hn.2.1) _⟩,nd.erase _,fun i hi=>sub i (List.mem_of_mem_erase hi),
   fun b hb=>by cases hb;exact h2.lt hR,fun b hb=>by cases hb;exact h3.lt hR,UE⟩
theorem NN.a2 (hn:i1≠i2∧i1≠i3∧i2≠i3) (h:NN w0 xb r Ae f1 f2 ws c1 c2 i1 i2 i3 o1 o2 o3 is E0 cs al s w):NN w0 xb r Ae f1 f2 ws c1 c2 i1 i2 i3 o1 o2 o3 is E0 cs (al.erase i2) {s with p2:=some w.heap.size} (w.alloc o2):=by
 obtain⟨⟨E,l,hR,hM,hC,h1,h2,h3⟩,nd,sub,Qw,VO,UE⟩:=h;exact⟨⟨_,l,hR.Qo o2,fun y hy=>List.mem_cons_of_mem _ (hM y hy),hC,h1.same hn.1 _,.I7 nd E o2 _,h3.same (Ne.symm hn.2.2) _⟩,nd.erase _,fun i hi=>sub i (List.mem_of_mem_erase hi),
   fun b hb hc=>by cases hc;exact h1.lt hR hb,VO,fun b hb=>by cases hb;exact h3.lt hR⟩
theorem NN.a3 (hn:i1≠i2∧i1≠i3∧i2≠i3) (h:NN w0 xb r Ae f1 f2 ws c1 c2 i1 i2 i3 o1 o2 o3 is E0 cs al s w):NN w0 xb r Ae f1 f2 ws c1 c2 i1 i2 i3 o1 o2 o3 is E0 cs (al.erase i3) {s with p3:=some w.heap.size} (w.alloc o3):=by
 obtain⟨⟨E,l,hR,hM,hC,h1,h2,h3⟩,nd,sub,Qw,VO,UE⟩:=h;exact⟨⟨_,l,hR.Qo o3,fun y hy=>List.mem_cons_of_mem _ (hM y hy),hC,h1.same hn.2.1 _,h2.same hn.2.2 _,.I7 nd E o3 _⟩,nd.erase _,fun i hi=>sub i (List.mem_of_mem_erase hi),
   Qw,fun b hb hc=>by cases hc;exact h1.lt hR hb,fun b hb hc=>by cases hc;exact h2.lt hR hb⟩
theorem NN.KI {b:Nat} {c:Array Value} {T:TypeId} (h:NN w0 xb r Ae f1 f2 ws c1 c2 i1 i2 i3 o1 o2 o3 is E0 cs al s w) (hb:(b,Obj.cells c T (0,0))∈E0) (i:Nat):w.cell? ⟨b,i,none⟩=c[i]?:=by
 obtain⟨⟨E,l,hR,hM,_⟩,_⟩:=h;exact hR.cell (hM _ hb) i
theorem NN.done (h:NN w0 xb r Ae f1 f2 ws c1 c2 i1 i2 i3 o1 o2 o3 is E0 [] [] s w):∃E l l1 b1 b2 b3,Rd w0 xb r Ae E l w∧V1 E0 E∧f1 ws=some (s.v1,l1)∧f2 l1=some (s.v2,l)∧s.p1=some b1∧s.p2=some b2∧s.p3=some b3∧(b1,o1)∈E∧(b2,o2)∈E∧(b3,o3)∈E∧b1≠b2∧b1≠b3∧b2≠b3:=by
 obtain⟨⟨E,l,hR,hM,hC,h1,h2,h3⟩,nd,sub,Qw,VO,UE⟩:=h;rcases hC with⟨h,_⟩ | ⟨h,_⟩ | ⟨_,l1,k1,k2⟩
 ·cases h
 ·cases h
 rcases h1 with⟨h,_⟩ | ⟨_,b1,e1,m1⟩
 ·cases h
 rcases h2 with⟨h,_⟩ | ⟨_,b2,e2,m2⟩
 ·cases h
 rcases h3 with⟨h,_⟩ | ⟨_,b3,e3,m3⟩
 ·cases h
 exact⟨E,l,l1,b1,b2,b3,hR,hM,k1,k2,e1,e2,e3,m1,m2,m3,fun e=>Qw b1 e1 (e▸e2),fun e=>VO b1 e1 (e▸e3),fun e=>UE b2 e2 (e▸e3)⟩
theorem NN.je {v:Value} {l1:Ws} (h:NN w0 xb r Ae f1 f2 ws c1 c2 i1 i2 i3 o1 o2 o3 is E0 [c1,c2] al s w) (hf:f1 ws=some (v,l1)) {w':World} (hw:∀E,Rd w0 xb r Ae E ws w→Rd w0 xb r Ae E l1 w'):NN w0 xb r Ae f1 f2 ws c1 c2 i1 i2 i3 o1 o2 o3 is E0 [c2] al {s with v1:=v} w':=by
 obtain⟨⟨E,l,hR,hM,hC,h1,h2,h3⟩,nd,sub,Qw,VO,UE⟩:=h;rcases hC with⟨_,rfl⟩ | ⟨h,_⟩ | ⟨h,_⟩
 ·exact⟨⟨E,l1,hw E hR,hM,.inr (.inl ⟨rfl,hf⟩),h1,h2,h3⟩,nd,sub,Qw,VO,UE⟩
 ·cases h
 ·cases h
theorem NN.jd {v:Value} {l l1:Ws} (h:NN w0 xb r Ae f1 f2 ws c1 c2 i1 i2 i3 o1 o2 o3 is E0 [c2] al s w) (Qa:f1 ws=some (s.v1,l)) (hf:f2 l=some (v,l1)) {w':World} (hw:∀E,Rd w0 xb r Ae E l w→Rd w0 xb r Ae E l1 w'):NN w0 xb r Ae f1 f2 ws c1 c2 i1 i2 i3 o1 o2 o3 is E0 [] al {s with v2:=v} w':=by
 obtain⟨⟨E,l',hR,hM,hC,h1,h2,h3⟩,nd,sub,Qw,VO,UE⟩:=h;rcases hC with⟨h,_⟩ | ⟨_,h⟩ | ⟨h,_⟩
 ·cases h
 ·rw[Qa] at h;cases h;exact⟨⟨E,l1,hw E hR,hM,.inr (.inr ⟨rfl,_,Qa,hf⟩),h1,h2,h3⟩,nd,sub,Qw,VO,UE⟩
 ·cases h
theorem NN.xi {al':List Nat} (h:NN w0 xb r Ae f1 f2 ws c1 c2 i1 i2 i3 o1 o2 o3 is E0 [c1,c2] al' s w):∃E,Rd w0 xb r Ae E ws w:=by
 obtain⟨⟨E,l,hR,hM,hC,_⟩,_⟩:=h;rcases hC with⟨_,rfl⟩ | ⟨h,_⟩ | ⟨h,_⟩
 ·exact⟨E,hR⟩
 ·cases h
 ·cases h
theorem NN.xh {al':List Nat} (h:NN w0 xb r Ae f1 f2 ws c1 c2 i1 i2 i3 o1 o2 o3 is E0 [c2] al' s w):∃E l,Rd w0 xb r Ae E l w∧f1 ws=some (s.v1,l):=by
 obtain⟨⟨E,l,hR,hM,hC,_⟩,_⟩:=h;rcases hC with⟨h,_⟩ | ⟨_,h⟩ | ⟨h,_⟩
 ·cases h
 ·exact⟨E,l,hR,h⟩
 ·cases h
theorem NN.ek {c:Nat} {cs':List Nat} (h:NN w0 xb r Ae f1 f2 ws c1 c2 i1 i2 i3 o1 o2 o3 is E0 (c::cs') al s w):(c=c1∧cs'=[c2])∨(c=c2∧cs'=[]):=by
 obtain⟨⟨E,l,hR,hM,hC,_⟩,_⟩:=h;rcases hC with⟨h,_⟩ | ⟨h,_⟩ | ⟨h,_⟩
 ·cases h;exact .inl ⟨rfl,rfl⟩
 ·cases h;exact .inr ⟨rfl,rfl⟩
 ·cases h
end
theorem DN {P:Program} {Bq:Array Oper} {Q:Exit→Act→World→Prop} {o:Oper} {i:Nat} {K:Act→World→Prop} {a:Act} {w:World} (ho:Bq[i]?=some o)
  (h:∀K':Act→World→Prop,(∀a' w',K a' w'→K' a' w')→if Region.wanted o (yielded Bq a.tmps)=true then Oper.wp P o a w K' Q else K' (a.put o.dst undef) w):wpOp P Bq Q i K a w:=aU ho (h K fun _ _ h=>h)
theorem JV {l l1:Ws} {n:ByteArray} (h:Uh l=some (n,l1)):∀a,a∈l1→a∈l:=by
 cases l with
 | nil=>cases h
 | cons a q=>
  cases hb:Bk (bs a) with
  | true=>rw[qL hb] at h;cases h;exact fun b hb=>List.mem_cons_of_mem _ hb
  | false=>rw[qM hb] at h;cases h
theorem TJ {l l1:Ws} {n:Wd} (h:EG l=some (n,l1)):∀a,a∈l1→a∈l:=by
 cases l with
 | nil=>cases h
 | cons a q=>
  rw[BW] at h;split at h
  ·cases h;exact fun b hb=>List.mem_cons_of_mem _ hb
  ·cases h
theorem Jx {l l1:Ws} {v:Value} (h:Z2 l=some (v,l1)):∃n,Uh l=some (n,l1)∧v= .string n:=by
 unfold Z2 at h;cases hn:Uh l with
 | none=>rw[hn] at h;cases h
 | some p=>obtain⟨n,l2⟩:=p;rw[hn] at h;cases h;exact⟨n,rfl,rfl⟩
theorem Q2 {l l1:Ws} {v:Value} (h:Pt l=some (v,l1)):∃a,EG l=some (a,l1)∧v=a.val:=by
 unfold Pt at h;cases hn:EG l with
 | none=>rw[hn] at h;cases h
 | some p=>obtain⟨n,l2⟩:=p;rw[hn] at h;cases h;exact⟨n,rfl,rfl⟩
theorem er:∀op,op∈Cn→¬op.size=0:=by decide+kernel
theorem Rd.ne {w0 w:World} {xb:Nat} {r:PV} {Ae:Int} {E:List (Nat×Obj)} {l:Ws} (h:Rd w0 xb r Ae E l w) {b c:Nat} {o p:Obj} (h1:(b,o)∈E) (h2:(c,p)∈E) (ho:o≠p):b≠c:=by
 rintro rfl;exact ho (h.qK h1 h2)
theorem lC (nm:ByteArray) (ws:Ws) (mb:Nat) (w:World) (g:FG) (x:qr) (wv:Value) (Ae:Int) (F:List (Nat×Obj)) (r:PV) (h:ed F g x wv Ae w r) (hs:Sl w (fun b=>b≠g.xb) wv (AY ws)) (hz:∀a,a∈ws→a.size≤1000000) (hg:Gl mb w) (IS:g.xb∉Pf mb) (hb:SW g) (AI:0≤x.Am∧x.Am≤1000) (hk:bs nm=Cw):
  Calls Tryz.prog 101 #[.pointer (some ⟨g.xb,0,none⟩),.string nm] w (Nj (x.AO nm ws) F g x wv Ae w):=by
 have H:=hid h;have Hz:=hid hz;have Hg:=hid hg;have Hb:=hid hb;have Hk:=hid hk;have HX:=hid IS;have Sj:∀(fn:Fn) (first cap:Array Value) (w:World),(Instr.makeFunc fn first cap).run Tryz.prog w= .ok (.func fn first cap) w:=fun _ _ _ _=>rfl
 have R0:=hid ((Rd.start (r:=r) h.px hs).Qo (.cells #[.pointer (some ⟨g.xb,0,none⟩)] 143));have Bi:=BA h.px;obtain⟨bx,IJ⟩:∃b,b=w.heap.size:=⟨_,rfl⟩;have qp:=hid IJ;have q0:=Ar (x:=nm) (k:=CK) (by rw[hk];decide);unfold CK at q0;have q1:=BN hk;unfold Cw at q1;have qa:=Ar (x:=nm) (k:=AF) (by rw[hk];decide);unfold AF at qa;clear h hs hz hg IS hb hk IJ;go_enter Tryz.func101,Tryz.ntmps101;have O8:Hid ((w.heap.size,Obj.cells #[.pointer (some ⟨g.xb,0,none⟩)] 143 (0,0))∈[(w.heap.size,Obj.cells #[.pointer (some ⟨g.xb,0,none⟩)] 143 (0,0))]):=hid (List.mem_cons_self ..);obtain⟨E,hE⟩:∃E,E=[(w.heap.size,Obj.cells #[.pointer (some ⟨g.xb,0,none⟩)] 143 (0,0))]:=⟨_,rfl⟩;rw[←hE] at O8 R0;clear hE;have MX:=O8;clear O8;go_upto_region 15 with fail
 have S0:=R0.out.quiet (Av.refl [] _).drew;refine KU [0,2] [1,3] [4,5] [(6,false),(7,false)] (fun W=>W.cell? ⟨w.heap.size,0,none⟩=some (.pointer (some ⟨g.xb,0,none⟩))) 7 (by kernel_rfl) (by kernel_rfl) (by kernel_rfl) (by kernel_rfl) (by kernel_rfl) (fun c a d v w h=>by cases d <;>exact h) (S0.cell MX.out 0) ?_;refine Jc (v:= ?_) rfl rfl rfl (fun W hW=> ?_) ?_;rotate_left
 ·go_simp;rfl
 simp only[Bo];refine Jc (v:= ?_) rfl rfl rfl (fun W hW=> ?_) ?_;rotate_left
 ·go_simp;rfl
 simp only[Bo];simp only[Ps];have J0:NN w g.xb r Ae Z2 Z2 ws 1 3 4 5 99 (Obj.cells #[.string ⟨#[]⟩] 9 (0,0)) (Obj.cells #[.string ⟨#[]⟩] 9 (0,0)) (Obj.cells #[.pointer (some ⟨g.xb,0,none⟩)] 143 (0,0)) [4,5] E [1,3] [4,5] ⟨undef,undef,none,none,some w.heap.size⟩ _:=⟨⟨E,ws,S0,fun _ h=>h,.inl ⟨rfl,rfl⟩,.inl ⟨by decide,rfl⟩,.inl ⟨by decide,rfl⟩,.inr ⟨by decide,_,rfl,MX.out⟩⟩,by decide,fun _ h=>h,by simp,by simp,by simp⟩;refine OP (Ij.LY 49 51 10 11) (NN w g.xb r Ae Z2 Z2 ws 1 3 4 5 99 (Obj.cells #[.string ⟨#[]⟩] 9 (0,0)) (Obj.cells #[.string ⟨#[]⟩] 9 (0,0)) (Obj.cells #[.pointer (some ⟨g.xb,0,none⟩)] 143 (0,0)) [4,5] E) ?_ ?_ ?_ rfl _ (by simp only[Ij.LY,XT,Bo]) J0
 ·clear J0 S0;intro c cs al s w1 hJ;rcases hJ.ek with⟨rfl,rfl⟩ | ⟨rfl,rfl⟩
  ·refine DN rfl (fun K hK=> ?_);simp only[Ij.LY,Bo];go_simp;obtain⟨E1,hR⟩:=hJ.xi;obtain⟨KT,p1,s1⟩:=hR.px;refine(KE ws _ g.xb r KT Ae _ p1 s1 (fun h=>h.1 rfl) Hz.out).mono ?_;intro e w2 he;cases hf:Uh ws with
   | none=>
    rw[hf] at he;obtain⟨⟨fb,rfl,hb⟩,hm⟩:=he;rw[Cb (x:=x) (w:=nm) (r:=ws) (by rw[LU Hk.out];unfold Js;rw[hf])];exact⟨rfl,AZ (hR.fail ⟨⟨fb,rfl,hb⟩,hm⟩)⟩
   | some p=>
    obtain⟨n,l1⟩:=p;rw[hf] at he;have h2:=hJ.je (v:= .string n) (l1:=l1) (by unfold Z2;rw[hf];rfl) (fun E hE=>(hE.DS he).2);obtain⟨rfl,_⟩:=he;refine hK _ _ ⟨h2.KI MX.out 0,_,?_,h2⟩;simp only[Ij.LY,Bo]
  ·refine DN rfl (fun K hK=> ?_);simp only[Ij.LY,Bo];go_simp;obtain⟨E1,l1,hR,Qa⟩:=hJ.xh;obtain⟨n,hn,hv⟩:=Jx Qa;obtain⟨KT,p1,s1⟩:=hR.px;refine(KE l1 _ g.xb r KT Ae _ p1 s1 (fun h=>h.1 rfl) (fun q hq=>Hz.out q (JV hn q hq))).mono ?_;intro e w2 he;cases hf:Uh l1 with
   | none=>
    rw[hf] at he;obtain⟨⟨fb,rfl,hb⟩,hm⟩:=he;rw[Cb (x:=x) (w:=nm) (r:=ws) (by rw[LU Hk.out];unfold Js;rw[hn];simp only[];rw[hf])];exact⟨rfl,AZ (hR.fail ⟨⟨fb,rfl,hb⟩,hm⟩)⟩
   | some p=>
    obtain⟨a,l2⟩:=p;rw[hf] at he;have h2:=hJ.jd (v:= .string a) (l1:=l2) Qa (by unfold Z2;rw[hf];rfl) (fun E hE=>(hE.DS he).2);obtain⟨rfl,_⟩:=he;refine hK _ _ ⟨h2.KI MX.out 0,_,?_,h2⟩;simp only[Ij.LY,Bo]
 ·clear J0 S0;intro cs al i s w1 hi hJ;have Tc:=hJ.sub i hi;simp only[List.mem_cons,List.mem_nil_iff,or_false] at Tc;rcases Tc with rfl | rfl
  ·refine DN rfl (fun K hK=> ?_);simp only[Ij.LY,Bo];go_simp;have h2:=hJ.a1 (by decide);refine hK _ _ ⟨h2.KI MX.out 0,_,?_,h2⟩;simp only[Ij.LY,XT,Bo]
  ·refine DN rfl (fun K hK=> ?_);simp only[Ij.LY,Bo];go_simp;have h2:=hJ.a2 (by decide);refine hK _ _ ⟨h2.KI MX.out 0,_,?_,h2⟩;simp only[Ij.LY,XT,Bo]
 clear J0 S0;intro s w1 hJ;obtain⟨E1,l,l1,b1,b2,b3,R1,hM,Qa,cS,e1,e2,e3,m1,m2,m3,Qw,VO,UE⟩:=hJ.done;obtain⟨v1,v2,q1,q2,q3⟩:=s;simp only at Qa cS e1 e2 e3;subst e1;subst e2;subst e3;obtain⟨n,hn,rfl⟩:=Jx Qa;obtain⟨a,ha,rfl⟩:=Jx cS;clear hJ Qa cS;simp only[Ij.LY,XT,Bo];have n1:w.heap.size≠b1:=R1.ne (hM _ MX.out) m1 (by intro h;injection h with _ h;exact absurd h (by decide));have n2:w.heap.size≠b2:=R1.ne (hM _ MX.out) m2 (by intro h;injection h with _ h;exact absurd h (by decide));have mX:=hM _ MX.out;have c1:=R1.cell m1;have f1:=R1.free m1;have t1:=R1.dz m1;refine Ab rfl (fun K hK=> ?_);go_simp;clear c1 f1 t1;obtain⟨E2,R2,m1',k2⟩:=R1.Lz m1 0 (.string n);replace mX:=k2 _ mX n1;replace m2:=k2 _ m2 (Ne.symm Qw)
 skip
 refine hK _ _ (fun _=>R2.cell mX 0) ?_;clear hK;have c2:=R2.cell m2;have f2:=R2.free m2;have t2:=R2.dz m2;refine Ab rfl (fun K hK=> ?_);go_simp;clear c2 f2 t2;obtain⟨E4,R4,m2',k4⟩:=R2.Lz m2 0 (.string a);replace mX:=k4 _ mX n2;replace m1':=k4 _ m1' Qw;refine hK _ _ (fun h=>absurd rfl h) ?_;clear hK;simp only[A0];generalize (World.setCell (World.setCell w1 ⟨b1,0,none⟩ (.string n)) ⟨b2,0,none⟩ (.string a))=w4 at R4⊢;have R:=hid R4;replace MX:=hid mX;have MA:=hid m1';have MB:=hid m2';have Hn:=hid hn;have Ha:=hid ha;clear R1 R2 R4 hM m1 m1' m2 m2' m3 mX k2 k4 hn ha n1 n2 Qw VO UE R0;obtain⟨KT,p1,s1⟩:=R.out.px;have cb:=R.out.cell MX.out 0;have XN:=hid (az mb l _ g.xb r KT Ae _ p1 s1 (fun h=>h.1 rfl) (fun q hq=>Hz.out q (JV Hn.out q (JV Ha.out q hq))) (Hg.out.Bh R.out.Bh (fun b hb hm=>by rw[List.mem_singleton] at hm;rw[hm] at hb;exact HX.out hb)) HX.out);clear p1 s1;go_wp2_with fail;refine XN.out.mono ?_;intro e w5 he;clear cb XN;cases hw:jQ l with
 | none=>
  rw[hw] at he;obtain⟨⟨fb,rfl,hb⟩,hm⟩:=he;have hr:=hid (Cb (x:=x) (w:=nm) (r:=ws) (by rw[LU Hk.out];unfold Js;rw[Hn.out];simp only[];rw[Ha.out];simp only[];rw[hw]));clear hw;go_wp2;rw[hr.out];exact⟨rfl,AZ (R.out.fail ⟨⟨fb,rfl,hb⟩,hm⟩)⟩
 | some p=>
  obtain⟨i,l⟩:=p;rw[hw] at he;obtain⟨rfl,R1⟩:=R.out.DS he;obtain⟨E2,R2,m2,more2⟩:=R1.YI (.cells #[.string i.name,.int .i64 i.v] 230);have Nb:i.val= .agg #[.string i.name,.int .i64 i.v]:=rfl;simp only[Nb];clear R;have R:=hid R2;have MI:=hid m2;replace MX:=hid (more2 _ MX.out);replace MA:=hid (more2 _ MA.out);replace MB:=hid (more2 _ MB.out);have Hw:=hid hw;clear hw R1 R2 m2 more2 he Nb;obtain⟨UX,p2,s2⟩:=R.out.px;have cb:=R.out.cell MX.out 0;have Kg:=hid (Dz l _ g.xb r UX Ae _ p2 s2);clear p2 s2;go_wp2_with fail;refine Kg.out.mono ?_;intro e w3 he;clear cb;cases l with
  | cons b l2=>
   obtain⟨⟨fb,rfl,hb⟩,hm⟩:=he;have hr:=hid (Cb (x:=x) (w:=nm) (r:=ws) (by rw[LU Hk.out];unfold Js;rw[Hn.out];simp only[];rw[Ha.out];simp only[];rw[Hw.out];rfl));go_wp2;rw[hr.out];exact⟨rfl,AZ (R.out.fail ⟨⟨fb,rfl,hb⟩,hm⟩)⟩
  | nil=>
   obtain⟨rfl,R3⟩:=R.out.DS he;have Hr:=hid (Fg (x:=x) (w:=nm) (r:=ws) (s:= .get n a i) (by rw[LU Hk.out];unfold Js;rw[Hn.out];simp only[];rw[Ha.out];simp only[];rw[Hw.out];rfl));rcases H.out with⟨hS,rfl⟩ | ⟨hN,hP⟩;rotate_left
   ·obtain⟨wvq,p3,_⟩:=R3.px;have x5:w3.cell? ⟨g.xb,5,none⟩=some (.slice none 0 0):=(p3.cell 5).trans (congrArg some hN.o);have x1:w3.cell? ⟨g.xb,1,none⟩=some (.int .i64 Ae):=p3.cell 1;have xl:g.xb < w3.heap.size:=p3.lt;have cb:=R3.cell MX.out 0;have hr:=hid (Hr.out.trans (Ek hN.th));have ZM:=hid R3;clear p3 he R3 R Kg Hr hN hP;go_wp2_with fail;refine(AS _ _ _).mono ?_;rintro e w5 ⟨⟨fb,rfl,hb⟩,hm⟩;go_wp2;rw[hr.out];exact⟨rfl,AZ ⟨⟨fb,rfl,hb⟩,ZM.out.Bh.Ac hm⟩⟩
   obtain⟨Ki,S3,K8⟩:=R3.FZ hS;have KM:=hid hS.Hj.ne;clear hS;obtain⟨wvq,p3,_⟩:=R3.px;have x5:w3.cell? ⟨g.xb,5,none⟩=some (.slice (some ⟨g.ob,0,none⟩) (g.fr.length+1) g.oc):=p3.cell 5;have x1:w3.cell? ⟨g.xb,1,none⟩=some (.int .i64 Ae):=p3.cell 1;have xl:g.xb < w3.heap.size:=p3.lt;have cb:=R3.cell MX.out 0;have Gb:((g.fr.length:Int)+1==0)=false:=by rw[beq_eq_false_iff_ne];omega
   have JK:=hid S3;have FC:=hid K8;clear S3 K8 p3 he R3 R Kg;have ni:=hid (Md _ g x Ki Ae JK.out.Al Hb.out.fr);go_wp2_with fail;refine ni.out.mono ?_;rintro e w3b ⟨rfl,MY⟩;clear ni;replace x5:=BB MY x5;replace x1:=BB MY x1;replace cb:=BB MY cb;have gF:=MY.size;replace xl:g.xb < w3b.heap.size:=by omega
   have P8:=hid (FC.out.trans (Ad.quiet JK.out.Al MY));have W7:=hid (JK.out.quiet MY);clear FC JK MY gF;have FC:=P8;have JK:=W7;clear P8 W7;cases Ey:g.fr.any Im.AP with
   | true=>
    have aS:=hid Ey;clear Ey;have Hp:=hid (Hr.out.trans (Gz JK.out.Hj (fun _=>aS.out) (fun h=>by rw[Hk.out] at h;exact absurd h (by decide))));clear Hr aS;go_wp2_with fail;refine(iQ n a i _ g x Ki Ae _ JK.out Hb.out _ _ _ _ (List.mem_append_left _ MX.out) (List.mem_append_left _ MB.out) (List.mem_append_left _ MI.out) (List.mem_append_left _ MA.out)).mono ?_;intro e w4 he;clear cb x5 x1 xl Gb;unfold Mp at he;cases CI:x.finish (.get n a i) with
    | error c=>
     rw[CI] at he;obtain⟨⟨fb,rfl,hb⟩,hm⟩:=he;have hr:Hid (x.AO nm ws= .error c):=hid (by rw[Hp.out,CI]);clear CI;go_wp2;rw[hr.out];exact⟨rfl,Cf KM.out ⟨⟨fb,rfl,hb⟩,FC.out.Bh.Ac hm⟩⟩
    | ok y=>
     rw[CI] at he;obtain⟨rfl,g',F',Ff,D1,OU,S4⟩:=he;have V3:=Ep CI;have hr:x.AO nm ws=if 14 < y.Am+1∨4 < y.EI then .error 5 else .ok {y with Am:=y.Am+1}:=by rw[Hp.out,CI]
     rw[S4.Hj.EI] at hr;have Lr:True→wrap64 (y.Am+1)=y.Am+1:=fun _=>IntWalk.wrap64_in _ (by omega)
     have f4:=Ge S4.Al;have y6:w4.cell? ⟨g.xb,6,none⟩=some (.int .i64 y.Am):=Ff▸f4.c 6;have y5:w4.cell? ⟨g.xb,5,none⟩=some (.slice (some ⟨g'.ob,0,none⟩) (g'.fr.length+1) g'.oc):=Ff▸f4.c 5;have y1:w4.cell? ⟨g.xb,1,none⟩=some (.int .i64 Ae):=Ff▸f4.c 1;have yf:World.frozen? w4 ⟨g.xb,6,none⟩=false:=Ff▸f4.f 6;have yl:g.xb < w4.heap.size:=Ff▸f4.lt;have cb:=S4.AT.cell (D1 _ (List.mem_append_left _ MX.out)) 0;have IJ:w.heap.size≠g.xb:=fun e=>by rw[e] at Bi;omega
     obtain⟨t5,S5⟩:=S4.count (FC.out.trans OU);rw[Ff] at t5 S5;have NR:=hid t5;have V2:=hid S5;have ZJ:=hid Ff;have JJ:=hid D1;have NP:=hid hr;clear CI f4 S4 OU t5 S5 Ff D1 hr V3;by_cases Kj:14 < y.Am+1
     ·have Sf:x.AO nm ws= .error 5:=NP.out.trans (if_pos (.inl Kj));have Il:=hid Sf;clear Sf;go_wp2_with fail;refine(AS _ _ _).mono ?_;rintro e w5 ⟨⟨fb,rfl,hb⟩,hm⟩;go_wp2;rw[Il.out];exact⟨rfl,Cf KM.out ⟨⟨fb,rfl,hb⟩,NR.out.Bh.Ac hm⟩⟩
     ·by_cases h4:4 < g'.fr.length+1
      ·have Zf:(4:Int) < (g'.fr.length:Int)+1:=by omega
       have Il:=hid (NP.out.trans (if_pos (.inr h4)));clear h4;go_wp2_with fail;refine(AS _ _ _).mono ?_;rintro e w5 ⟨⟨fb,rfl,hb⟩,hm⟩;go_wp2;rw[Il.out];exact⟨rfl,Cf KM.out ⟨⟨fb,rfl,hb⟩,NR.out.Bh.Ac hm⟩⟩
      ·have Zf:¬(4:Int) < (g'.fr.length:Int)+1:=by omega
       have Il:=hid (NP.out.trans (if_neg (fun h=>h.elim Kj h4)));clear h4;go_wp2
       go_end0
       rw[Il.out];exact⟨rfl,g',F',Ki,ZJ.out,fun y hy=>JJ.out y (List.mem_append_right _ hy),NR.out,V2.out⟩
   | false=>
    have aS:=hid Ey;clear Ey;have hr:=hid (Hr.out.trans (OY JK.out.Hj (by exact .inl ⟨rfl,aS.out⟩)));go_wp2_with fail;refine(AS _ _ _).mono ?_;rintro e w5 ⟨⟨fb,rfl,hb⟩,hm⟩;go_wp2;rw[hr.out];exact⟨rfl,Cf KM.out ⟨⟨fb,rfl,hb⟩,FC.out.Bh.Ac hm⟩⟩
theorem lA (nm:ByteArray) (ws:Ws) (mb:Nat) (w:World) (g:FG) (x:qr) (wv:Value) (Ae:Int) (F:List (Nat×Obj)) (r:PV) (h:ed F g x wv Ae w r) (hs:Sl w (fun b=>b≠g.xb) wv (AY ws)) (hz:∀a,a∈ws→a.size≤1000000) (hg:Gl mb w) (IS:g.xb∉Pf mb) (hb:SW g) (AI:0≤x.Am∧x.Am≤1000) (hk:bs nm=CL):
  Calls Tryz.prog 101 #[.pointer (some ⟨g.xb,0,none⟩),.string nm] w (Nj (x.AO nm ws) F g x wv Ae w):=by
 have H:=hid h;have Hz:=hid hz;have Hg:=hid hg;have Hb:=hid hb;have Hk:=hid hk;have HX:=hid IS;have Sj:∀(fn:Fn) (first cap:Array Value) (w:World),(Instr.makeFunc fn first cap).run Tryz.prog w= .ok (.func fn first cap) w:=fun _ _ _ _=>rfl
 have R0:=hid ((Rd.start (r:=r) h.px hs).Qo (.cells #[.pointer (some ⟨g.xb,0,none⟩)] 143));have Bi:=BA h.px;obtain⟨bx,IJ⟩:∃b,b=w.heap.size:=⟨_,rfl⟩;have qp:=hid IJ;have q0:=Ar (x:=nm) (k:=CK) (by rw[hk];decide);unfold CK at q0;have q1:=Ar (x:=nm) (k:=Cw) (by rw[hk];decide);unfold Cw at q1;have q2:=BN hk;unfold CL at q2;have qa:=Ar (x:=nm) (k:=AF) (by rw[hk];decide);unfold AF at qa;clear h hs hz hg IS hb hk IJ;go_enter Tryz.func101,Tryz.ntmps101;have O8:Hid ((w.heap.size,Obj.cells #[.pointer (some ⟨g.xb,0,none⟩)] 143 (0,0))∈[(w.heap.size,Obj.cells #[.pointer (some ⟨g.xb,0,none⟩)] 143 (0,0))]):=hid (List.mem_cons_self ..);obtain⟨E,hE⟩:∃E,E=[(w.heap.size,Obj.cells #[.pointer (some ⟨g.xb,0,none⟩)] 143 (0,0))]:=⟨_,rfl⟩;rw[←hE] at O8 R0;clear hE;have MX:=O8;clear O8;go_upto_region 20 with fail
 have S0:=R0.out.quiet (Av.refl [] _).drew;refine KU [0,2] [1,3] [4,5] [(6,false),(7,false)] (fun W=>W.cell? ⟨w.heap.size,0,none⟩=some (.pointer (some ⟨g.xb,0,none⟩))) 7 (by kernel_rfl) (by kernel_rfl) (by kernel_rfl) (by kernel_rfl) (by kernel_rfl) (fun c a d v w h=>by cases d <;>exact h) (S0.cell MX.out 0) ?_;refine Jc (v:= ?_) rfl rfl rfl (fun W hW=> ?_) ?_;rotate_left
 ·go_simp;rfl
 simp only[Bo];refine Jc (v:= ?_) rfl rfl rfl (fun W hW=> ?_) ?_;rotate_left
 ·go_simp;rfl
 simp only[Bo];simp only[Ps];have J0:NN w g.xb r Ae Z2 Pt ws 1 3 4 5 99 (Obj.cells #[.string ⟨#[]⟩] 9 (0,0)) (Obj.cells #[.string ⟨#[]⟩,.int .i64 0] 230 (0,0)) (Obj.cells #[.pointer (some ⟨g.xb,0,none⟩)] 143 (0,0)) [4,5] E [1,3] [4,5] ⟨undef,undef,none,none,some w.heap.size⟩ _:=⟨⟨E,ws,S0,fun _ h=>h,.inl ⟨rfl,rfl⟩,.inl ⟨by decide,rfl⟩,.inl ⟨by decide,rfl⟩,.inr ⟨by decide,_,rfl,MX.out⟩⟩,by decide,fun _ h=>h,by simp,by simp,by simp⟩;refine OP (Ij.LY 58 60 13 14) (NN w g.xb r Ae Z2 Pt ws 1 3 4 5 99 (Obj.cells #[.string ⟨#[]⟩] 9 (0,0)) (Obj.cells #[.string ⟨#[]⟩,.int .i64 0] 230 (0,0)) (Obj.cells #[.pointer (some ⟨g.xb,0,none⟩)] 143 (0,0)) [4,5] E) ?_ ?_ ?_ rfl _ (by simp only[Ij.LY,XT,Bo]) J0
 ·clear J0 S0;intro c cs al s w1 hJ;rcases hJ.ek with⟨rfl,rfl⟩ | ⟨rfl,rfl⟩
  ·refine DN rfl (fun K hK=> ?_);simp only[Ij.LY,Bo];go_simp;obtain⟨E1,hR⟩:=hJ.xi;obtain⟨KT,p1,s1⟩:=hR.px;refine(KE ws _ g.xb r KT Ae _ p1 s1 (fun h=>h.1 rfl) Hz.out).mono ?_;intro e w2 he;cases hf:Uh ws with
   | none=>
    rw[hf] at he;obtain⟨⟨fb,rfl,hb⟩,hm⟩:=he;rw[Cb (x:=x) (w:=nm) (r:=ws) (by rw[LS Hk.out];unfold Jq;rw[hf])];exact⟨rfl,AZ (hR.fail ⟨⟨fb,rfl,hb⟩,hm⟩)⟩
   | some p=>
    obtain⟨n,l1⟩:=p;rw[hf] at he;have h2:=hJ.je (v:= .string n) (l1:=l1) (by unfold Z2;rw[hf];rfl) (fun E hE=>(hE.DS he).2);obtain⟨rfl,_⟩:=he;refine hK _ _ ⟨h2.KI MX.out 0,_,?_,h2⟩;simp only[Ij.LY,Bo]
  ·refine DN rfl (fun K hK=> ?_);simp only[Ij.LY,Bo];go_simp;obtain⟨E1,l1,hR,Qa⟩:=hJ.xh;obtain⟨n,hn,hv⟩:=Jx Qa;obtain⟨KT,p1,s1⟩:=hR.px;refine(Ie mb l1 _ g.xb r KT Ae _ p1 s1 (fun h=>h.1 rfl) (fun q hq=>Hz.out q (JV hn q hq)) (Hg.out.Bh hR.Bh (fun b hb hm=>by rw[List.mem_singleton] at hm;rw[hm] at hb;exact HX.out hb)) HX.out).mono ?_;intro e w2 he;cases hf:EG l1 with
   | none=>
    rw[hf] at he;obtain⟨⟨fb,rfl,hb⟩,hm⟩:=he;rw[Cb (x:=x) (w:=nm) (r:=ws) (by rw[LS Hk.out];unfold Jq;rw[hn];simp only[];rw[hf])];exact⟨rfl,AZ (hR.fail ⟨⟨fb,rfl,hb⟩,hm⟩)⟩
   | some p=>
    obtain⟨a,l2⟩:=p;rw[hf] at he;have h2:=hJ.jd (v:=a.val) (l1:=l2) Qa (by unfold Pt;rw[hf];rfl) (fun E hE=>(hE.DS he).2);obtain⟨rfl,_⟩:=he;refine hK _ _ ⟨h2.KI MX.out 0,_,?_,h2⟩;simp only[Ij.LY,Bo]
 ·clear J0 S0;intro cs al i s w1 hi hJ;have Tc:=hJ.sub i hi;simp only[List.mem_cons,List.mem_nil_iff,or_false] at Tc;rcases Tc with rfl | rfl
  ·refine DN rfl (fun K hK=> ?_);simp only[Ij.LY,Bo];go_simp;have h2:=hJ.a1 (by decide);refine hK _ _ ⟨h2.KI MX.out 0,_,?_,h2⟩;simp only[Ij.LY,XT,Bo]
  ·refine DN rfl (fun K hK=> ?_);simp only[Ij.LY,Bo];go_simp;have h2:=hJ.a2 (by decide);refine hK _ _ ⟨h2.KI MX.out 0,_,?_,h2⟩;simp only[Ij.LY,XT,Bo]
 clear J0 S0;intro s w1 hJ;obtain⟨E1,l,l1,b1,b2,b3,R1,hM,Qa,cS,e1,e2,e3,m1,m2,m3,Qw,VO,UE⟩:=hJ.done;obtain⟨v1,v2,q1,q2,q3⟩:=s;simp only at Qa cS e1 e2 e3;subst e1;subst e2;subst e3;obtain⟨n,hn,rfl⟩:=Jx Qa;obtain⟨a,ha,rfl⟩:=Q2 cS;clear hJ Qa cS;simp only[Ij.LY,XT,Bo];have n1:w.heap.size≠b1:=R1.ne (hM _ MX.out) m1 (by intro h;injection h with _ h;exact absurd h (by decide));have n2:w.heap.size≠b2:=R1.ne (hM _ MX.out) m2 (by intro h;injection h with _ h;exact absurd h (by decide));have Nb:a.val= .agg #[.string a.name,.int .i64 a.v]:=rfl;simp only[Nb];clear Nb;have mX:=hM _ MX.out;have c1:=R1.cell m1;have f1:=R1.free m1;have t1:=R1.dz m1;refine Ab rfl (fun K hK=> ?_);go_simp;clear c1 f1 t1;obtain⟨E2,R2,m1',k2⟩:=R1.Lz m1 0 (.string n);replace mX:=k2 _ mX n1;replace m2:=k2 _ m2 (Ne.symm Qw)
 skip
 refine hK _ _ (fun _=>R2.cell mX 0) ?_;clear hK;have c2:=R2.cell m2;have f2:=R2.free m2;have t2:=R2.dz m2;refine Ab rfl (fun K hK=> ?_);go_simp;clear c2 f2 t2;obtain⟨E3,R3,m2',k3⟩:=R2.Lz m2 0 (.string a.name);obtain⟨E4,R4,m2'',k4⟩:=R3.Lz m2' 1 (.int .i64 a.v);replace mX:=k4 _ (k3 _ mX n2) n2;replace m1':=k4 _ (k3 _ m1' Qw) Qw;refine hK _ _ (fun h=>absurd rfl h) ?_;clear hK;simp only[A0];generalize (World.setCell (World.setCell (World.setCell w1 ⟨b1,0,none⟩ (.string n)) ⟨b2,0,none⟩ (.string a.name)) ⟨b2,1,none⟩ (.int .i64 a.v))=w4 at R4⊢;have R:=hid R4;replace MX:=hid mX;have MA:=hid m1';have MB:=hid m2'';have Hn:=hid hn;have Ha:=hid ha;clear R1 R2 R3 R4 k3 m2' hM m1 m1' m2 m2'' m3 mX k2 k4 hn ha n1 n2 Qw VO UE R0;obtain⟨KT,p1,s1⟩:=R.out.px;have cb:=R.out.cell MX.out 0;have XN:=hid (az mb l _ g.xb r KT Ae _ p1 s1 (fun h=>h.1 rfl) (fun q hq=>Hz.out q (JV Hn.out q (TJ Ha.out q hq))) (Hg.out.Bh R.out.Bh (fun b hb hm=>by rw[List.mem_singleton] at hm;rw[hm] at hb;exact HX.out hb)) HX.out);clear p1 s1;go_wp2_with fail;refine XN.out.mono ?_;intro e w5 he;clear cb XN;cases hw:jQ l with
 | none=>
  rw[hw] at he;obtain⟨⟨fb,rfl,hb⟩,hm⟩:=he;have hr:=hid (Cb (x:=x) (w:=nm) (r:=ws) (by rw[LS Hk.out];unfold Jq;rw[Hn.out];simp only[];rw[Ha.out];simp only[];rw[hw]));clear hw;go_wp2;rw[hr.out];exact⟨rfl,AZ (R.out.fail ⟨⟨fb,rfl,hb⟩,hm⟩)⟩
 | some p=>
  obtain⟨i,l⟩:=p;rw[hw] at he;obtain⟨rfl,R1⟩:=R.out.DS he;obtain⟨E2,R2,m2,more2⟩:=R1.YI (.cells #[.string i.name,.int .i64 i.v] 230);have Nb:i.val= .agg #[.string i.name,.int .i64 i.v]:=rfl;simp only[Nb];clear R;have R:=hid R2;have MI:=hid m2;replace MX:=hid (more2 _ MX.out);replace MA:=hid (more2 _ MA.out);replace MB:=hid (more2 _ MB.out);have Hw:=hid hw;clear hw R1 R2 m2 more2 he Nb;obtain⟨UX,p2,s2⟩:=R.out.px;have cb:=R.out.cell MX.out 0;have Kg:=hid (Dz l _ g.xb r UX Ae _ p2 s2);clear p2 s2;go_wp2_with fail;refine Kg.out.mono ?_;intro e w3 he;clear cb;cases l with
  | cons b l2=>
   obtain⟨⟨fb,rfl,hb⟩,hm⟩:=he;have hr:=hid (Cb (x:=x) (w:=nm) (r:=ws) (by rw[LS Hk.out];unfold Jq;rw[Hn.out];simp only[];rw[Ha.out];simp only[];rw[Hw.out];rfl));go_wp2;rw[hr.out];exact⟨rfl,AZ (R.out.fail ⟨⟨fb,rfl,hb⟩,hm⟩)⟩
  | nil=>
   obtain⟨rfl,R3⟩:=R.out.DS he;have Hr:=hid (Fg (x:=x) (w:=nm) (r:=ws) (s:= .put n a i) (by rw[LS Hk.out];unfold Jq;rw[Hn.out];simp only[];rw[Ha.out];simp only[];rw[Hw.out];rfl));rcases H.out with⟨hS,rfl⟩ | ⟨hN,hP⟩;rotate_left
   ·obtain⟨wvq,p3,_⟩:=R3.px;have x5:w3.cell? ⟨g.xb,5,none⟩=some (.slice none 0 0):=(p3.cell 5).trans (congrArg some hN.o);have x1:w3.cell? ⟨g.xb,1,none⟩=some (.int .i64 Ae):=p3.cell 1;have xl:g.xb < w3.heap.size:=p3.lt;have cb:=R3.cell MX.out 0;have hr:=hid (Hr.out.trans (Ek hN.th));have ZM:=hid R3;clear p3 he R3 R Kg Hr hN hP;go_wp2_with fail;refine(AS _ _ _).mono ?_;rintro e w5 ⟨⟨fb,rfl,hb⟩,hm⟩;go_wp2;rw[hr.out];exact⟨rfl,AZ ⟨⟨fb,rfl,hb⟩,ZM.out.Bh.Ac hm⟩⟩
   obtain⟨Ki,S3,K8⟩:=R3.FZ hS;have KM:=hid hS.Hj.ne;clear hS;obtain⟨wvq,p3,_⟩:=R3.px;have x5:w3.cell? ⟨g.xb,5,none⟩=some (.slice (some ⟨g.ob,0,none⟩) (g.fr.length+1) g.oc):=p3.cell 5;have x1:w3.cell? ⟨g.xb,1,none⟩=some (.int .i64 Ae):=p3.cell 1;have xl:g.xb < w3.heap.size:=p3.lt;have cb:=R3.cell MX.out 0;have Gb:((g.fr.length:Int)+1==0)=false:=by rw[beq_eq_false_iff_ne];omega
   have JK:=hid S3;have FC:=hid K8;clear S3 K8 p3 he R3 R Kg;have ni:=hid (Md _ g x Ki Ae JK.out.Al Hb.out.fr);go_wp2_with fail;refine ni.out.mono ?_;rintro e w3b ⟨rfl,MY⟩;clear ni;replace x5:=BB MY x5;replace x1:=BB MY x1;replace cb:=BB MY cb;have gF:=MY.size;replace xl:g.xb < w3b.heap.size:=by omega
   have P8:=hid (FC.out.trans (Ad.quiet JK.out.Al MY));have W7:=hid (JK.out.quiet MY);clear FC JK MY gF;have FC:=P8;have JK:=W7;clear P8 W7;cases Ey:g.fr.any Im.AP with
   | true=>
    have aS:=hid Ey;clear Ey;have Hp:=hid (Hr.out.trans (Gz JK.out.Hj (fun _=>aS.out) (fun h=>by rw[Hk.out] at h;exact absurd h (by decide))));clear Hr aS;go_wp2_with fail;refine(iL n a i _ g x Ki Ae _ JK.out Hb.out _ _ _ _ (List.mem_append_left _ MX.out) (List.mem_append_left _ MA.out) (List.mem_append_left _ MI.out) (List.mem_append_left _ MB.out)).mono ?_;intro e w4 he;clear cb x5 x1 xl Gb;unfold Mp at he;cases CI:x.finish (.put n a i) with
    | error c=>
     rw[CI] at he;obtain⟨⟨fb,rfl,hb⟩,hm⟩:=he;have hr:Hid (x.AO nm ws= .error c):=hid (by rw[Hp.out,CI]);clear CI;go_wp2;rw[hr.out];exact⟨rfl,Cf KM.out ⟨⟨fb,rfl,hb⟩,FC.out.Bh.Ac hm⟩⟩
    | ok y=>
     rw[CI] at he;obtain⟨rfl,g',F',Ff,D1,OU,S4⟩:=he;have V3:=Ep CI;have hr:x.AO nm ws=if 14 < y.Am+1∨4 < y.EI then .error 5 else .ok {y with Am:=y.Am+1}:=by rw[Hp.out,CI]
     rw[S4.Hj.EI] at hr;have Lr:True→wrap64 (y.Am+1)=y.Am+1:=fun _=>IntWalk.wrap64_in _ (by omega)
     have f4:=Ge S4.Al;have y6:w4.cell? ⟨g.xb,6,none⟩=some (.int .i64 y.Am):=Ff▸f4.c 6;have y5:w4.cell? ⟨g.xb,5,none⟩=some (.slice (some ⟨g'.ob,0,none⟩) (g'.fr.length+1) g'.oc):=Ff▸f4.c 5;have y1:w4.cell? ⟨g.xb,1,none⟩=some (.int .i64 Ae):=Ff▸f4.c 1;have yf:World.frozen? w4 ⟨g.xb,6,none⟩=false:=Ff▸f4.f 6;have yl:g.xb < w4.heap.size:=Ff▸f4.lt;have cb:=S4.AT.cell (D1 _ (List.mem_append_left _ MX.out)) 0;have IJ:w.heap.size≠g.xb:=fun e=>by rw[e] at Bi;omega
     obtain⟨t5,S5⟩:=S4.count (FC.out.trans OU);rw[Ff] at t5 S5;have NR:=hid t5;have V2:=hid S5;have ZJ:=hid Ff;have JJ:=hid D1;have NP:=hid hr;clear CI f4 S4 OU t5 S5 Ff D1 hr V3;by_cases Kj:14 < y.Am+1
     ·have Sf:x.AO nm ws= .error 5:=NP.out.trans (if_pos (.inl Kj));have Il:=hid Sf;clear Sf;go_wp2_with fail;refine(AS _ _ _).mono ?_;rintro e w5 ⟨⟨fb,rfl,hb⟩,hm⟩;go_wp2;rw[Il.out];exact⟨rfl,Cf KM.out ⟨⟨fb,rfl,hb⟩,NR.out.Bh.Ac hm⟩⟩
     ·by_cases h4:4 < g'.fr.length+1
      ·have Zf:(4:Int) < (g'.fr.length:Int)+1:=by omega
       have Il:=hid (NP.out.trans (if_pos (.inr h4)));clear h4;go_wp2_with fail;refine(AS _ _ _).mono ?_;rintro e w5 ⟨⟨fb,rfl,hb⟩,hm⟩;go_wp2;rw[Il.out];exact⟨rfl,Cf KM.out ⟨⟨fb,rfl,hb⟩,NR.out.Bh.Ac hm⟩⟩
      ·have Zf:¬(4:Int) < (g'.fr.length:Int)+1:=by omega
       have Il:=hid (NP.out.trans (if_neg (fun h=>h.elim Kj h4)));clear h4;go_wp2
       go_end0
       rw[Il.out];exact⟨rfl,g',F',Ki,ZJ.out,fun y hy=>JJ.out y (List.mem_append_right _ hy),NR.out,V2.out⟩
   | false=>
    have aS:=hid Ey;clear Ey;have hr:=hid (Hr.out.trans (OY JK.out.Hj (by exact .inl ⟨rfl,aS.out⟩)));go_wp2_with fail;refine(AS _ _ _).mono ?_;rintro e w5 ⟨⟨fb,rfl,hb⟩,hm⟩;go_wp2;rw[hr.out];exact⟨rfl,Cf KM.out ⟨⟨fb,rfl,hb⟩,FC.out.Bh.Ac hm⟩⟩
end Go.Proofs.YtpdfifdlhpmofaaGreatDoor
