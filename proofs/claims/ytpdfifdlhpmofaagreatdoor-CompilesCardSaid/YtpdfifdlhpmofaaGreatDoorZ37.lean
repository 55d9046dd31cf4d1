/-
  Part 37 of the proof, packed by program out of R16, R17, R18.
-/
import Derived.Test.YtpdfifdlhpmofaaGreatDoorZ34
import Derived.Test.YtpdfifdlhpmofaaGreatDoorZ14
import Derived.Test.YtpdfifdlhpmofaaGreatDoorZ06
import Derived.Test.YtpdfifdlhpmofaaGreatDoorZ35
import Derived.Test.YtpdfifdlhpmofaaGreatDoorZ36
import Derived.Test.YtpdfifdlhpmofaaGreatDoorZ28
set_option linter.unusedVariables false
set_option linter.unusedSimpArgs false
set_option maxHeartbeats 3200000
set_option maxRecDepth 100000
namespace Go.Proofs.YtpdfifdlhpmofaaGreatDoor
open Go.RowKit
open Go.Lib (hid)
theorem aF {w:World} {L:List Ob} {b n:Nat} {c:Array Value} {T:TypeId} (hc:c.size=n) (hn:n≤maxLen) (h1:∀u,u∈c.toList→u.oneCell'=true) (h:AK w (L++[.AP b c T])):
  Ad w (L++[.AP b c T]) w (L++[.row (.slice (some ⟨b,0,none⟩) n n) T 1 n c.toList]):=by
 have k:=h.swap (i:=L.length) (o':= .row (.slice (some ⟨b,0,none⟩) n n) T 1 n c.toList) (o:= .AP b c T) (by simp) (Av.refl _ _) ?_ (by simp[Ob.fp,Value.ownBlock]) (fun x hx=> .inl (by simpa[Ob.fp,Value.ownBlock] using hx))
 ·simpa using k
 ·have hb:=h.AP (i:=L.length) (b:=b) (c:=c) (T:=T) (by simp);refine⟨by simp[hc],.inr ⟨b,n,c,rfl,Nat.zero_le _,hb,Nat.le_refl _,hn,by simp[hc],by simp[hc,List.take_of_length_le]⟩⟩
def EV (l:List Nd) (n:Nat):Eh:=(l.take n).foldl Eh.step .Dk
def Ot (b m c:Nat) (xs:List Int):Ob:= .row (.slice (some ⟨b,0,none⟩) m c) 3 1 m (D0 xs)
structure yj (w:World) (l:List Nd) (n ob oc ib ic m:Nat) (wr:World):Prop where
 ol:(EV l n).CZ.length=m
 il:(EV l n).CJ.length=m
 st:Ad w [] wr [Ot ob m oc (EV l n).CZ,Ot ib m ic (EV l n).CJ]
theorem Zv (l:List Nd) (k:Nat) (hk:k < l.length):EV l (k+1)=(EV l k).step l[k]:=by
 unfold EV;rw[List.take_succ_eq_append_getElem hk,List.foldl_append];rfl
theorem Sr (w:World) (o:Obj):(w.alloc o).heap.size=w.heap.size+1:=by show(w.heap.push o).size=_;simp
theorem Wj {c:Eh} {x:Nd} (h:x.kind=108):c.step x={c with CZ:=c.CZ++[(c.CZ.getLast?).getD 0*x.n],CJ:=c.CJ++[if c.EU then (c.CJ.getLast?).getD 0*x.n else 1]}:=by simp[Eh.step,h]
theorem km {c:Eh} {x:Nd} (h:x.kind=98):c.step x={c with CZ:=c.CZ.dropLast,CJ:=c.CJ.dropLast}:=by simp[Eh.step,h]
theorem kr {c:Eh} {x:Nd} (h:x.kind=40):c.step x={c with blocks:=c.blocks+(c.CZ.getLast?).getD 0,C4:=0,EU:=true,CJ:=c.CJ.dropLast++[1]}:=by simp[Eh.step,h]
theorem ko {c:Eh} {x:Nd} (h:x.kind=41):c.step x={c with EU:=false}:=by simp[Eh.step,h]
theorem Rk {c:Eh} {x:Nd} (h:x.kind=111):c.step x=if c.EU then {c with C4:=c.C4+(c.CJ.getLast?).getD 0,B7:=if c.B7 < c.C4+(c.CJ.getLast?).getD 0 then c.C4+(c.CJ.getLast?).getD 0 else c.B7} else c:=by simp[Eh.step,h]
theorem kj {c:Eh} {x:Nd} (h1:¬x.kind=108) (h2:¬x.kind=98) (h3:¬x.kind=40) (h4:¬x.kind=41) (h5:¬x.kind=111):c.step x=c:=by simp[Eh.step,h1,h2,h3,h4,h5]
theorem kf {k n:Nat} {z:Int} (h:¬k=n) (hz:z=n):((k:Int)==z)=false:=by subst hz;rw[beq_eq_false_iff_ne];omega
theorem kt {k n:Nat} {z:Int} (h:k=n) (hz:z=n):((k:Int)==z)=true:=by subst hz;subst h;simp
theorem Ol {n L:Nat} (h:n < L):L - (intOf (.int .i64 ((n:Int)+1))).toNat < L - (intOf (.int .i64 (n:Int))).toNat:=by simp[intOf];omega
theorem YJ {a b:Int} (h0:0≤a) (h1:a≤64) (k0:1≤b) (k1:b≤4): -9223372036854775808≤a*b∧a*b≤9223372036854775807:=by
 have h2:0≤a*b:=Int.mul_nonneg h0 (by omega);have h3:a*b≤64*4:=Int.mul_le_mul h1 k1 (by omega) (by omega);omega
def pZ (l:List Nd) (w:World) (e:Ending) (w':World):Prop:=e= .returned (.tuple #[.int .i64 (Gt l).1,.int .i64 (Gt l).2])∧Av [] w w'
theorem ZT {α:Type} {l:List α} {n:Nat} (h:l.length=n+1):∃a b,l=a++[b]∧a.length=n:=by
 rcases List.eq_nil_or_concat l with h0 | ⟨a,b,h0⟩
 ·rw[h0] at h;simp at h
 ·rw[List.concat_eq_append] at h0;subst h0;exact⟨a,b,rfl,by simpa using h⟩
theorem Qv (l:List Nd) (k:Nat) (hk:k < l.length) (c:Eh):(l.take (k+1)).foldl Eh.step c=((l.take k).foldl Eh.step c).step l[k]:=by
 rw[List.take_succ_eq_append_getElem hk,List.foldl_append];rfl
structure tK (c:Eh) (k:Nat):Prop where
 b0:0≤c.blocks
 b1:c.blocks≤64*k
 o0:0≤c.C4
 o1:c.C4≤64*k
 m0:0≤c.B7
 m1:c.B7≤64*k
theorem RV {l:List Int} (hl:1≤l.length) (h:∀x,x∈l→0≤x∧x≤64):0≤(l.getLast?).getD 0∧(l.getLast?).getD 0≤64:=by
 rcases List.eq_nil_or_concat l with h0 | ⟨a,b,h0⟩
 ·rw[h0] at hl;simp at hl
 ·rw[h0,List.concat_eq_append];simp only[List.getLast?_append,List.getLast?_singleton,Option.some_or,Option.getD_some];exact h b (by rw[h0];simp)
theorem wH {l:List Nd} (h:Ik .Dk l) (k:Nat) (hk:k≤l.length):tK ((l.take k).foldl Eh.step .Dk) k:=by
 induction k with
 | zero=>exact⟨by simp[Eh.Dk],by simp[Eh.Dk],by simp[Eh.Dk],by simp[Eh.Dk],by simp[Eh.Dk],by simp[Eh.Dk]⟩
 | succ k ih=>
  have hc:=LX h k;have ih:=ih (by omega);rw[Qv l k (by omega)];generalize (l.take k).foldl Eh.step .Dk=c at*;obtain⟨a1,a2,a3,a4,a5,a6⟩:=ih;have h1:=RV hc.l1 hc.ob;have h2:=RV (by rw[←hc.ll];exact hc.l1) hc.ib;unfold Eh.step;simp only[];split
  ·exact⟨a1,by show c.blocks≤_;omega,a3,by show c.C4≤_;omega,a5,by show c.B7≤_;omega⟩
  ·split
   ·exact⟨a1,by show c.blocks≤_;omega,a3,by show c.C4≤_;omega,a5,by show c.B7≤_;omega⟩
   ·split
    ·refine⟨?_,?_,?_,?_,a5,?_⟩ <;>simp only[] <;>omega
    ·split
     ·exact⟨a1,by show c.blocks≤_;omega,a3,by show c.C4≤_;omega,a5,by show c.B7≤_;omega⟩
     ·split
      ·split
       ·refine⟨a1,?_,?_,?_,?_,?_⟩ <;>simp only[] <;>first | omega | (split <;>omega)
       ·exact⟨a1,by omega,a3,by omega,a5,by omega⟩
      ·exact⟨a1,by omega,a3,by omega,a5,by omega⟩
theorem Xv (l:List Nd) (v:Value) (w:World) (h:w.ownsRow 0 110 14 v l.length (Bx l)) (hP:Ik .Dk l) (hn:l.length≤1000):
  Calls Tryz.prog 38 #[v] w (pZ l w):=by
 obtain⟨j0,hj,I9,EK,JW⟩:=info_parts Ou;have sd:∃p cap,v= .slice p l.length cap:=by
  obtain⟨_,⟨rfl,h0⟩ | ⟨g,cap,cur,rfl,_⟩⟩:=h
  ·rw[h0];exact⟨none,0,rfl⟩
  ·exact⟨_,_,rfl⟩
 obtain⟨p,cap,rfl⟩:=sd;have H:=hid h;have HP:=hid hP;clear h hP;go_enter Tryz.func38,Tryz.ntmps38;go_wp2;have a1:=Ad.new (AK.nil w) (.cells #[.int .i64 1] 3);have a2:=a1.trans (aF (L:=[]) (n:=1) rfl (by unfold maxLen;omega) (by simp[Value.oneCell']) a1.Al);have a3:=a2.trans (Ad.new a2.Al (.cells #[.int .i64 1] 3));have a4:=a3.trans (aF (L:=[_]) (n:=1) rfl (by unfold maxLen;omega) (by simp[Value.oneCell']) a3.Al);have S:=hid a4;clear a1 a2 a3 a4;go_loopw [4,5,6,7,8,9,10] (fun a b c o i z k wr=>∃n ob oc ib ic m:Nat,k= .int .i64 n∧n≤l.length∧a= .int .i64 (EV l n).blocks∧b= .int .i64 (EV l n).C4∧c= .int .i64 (EV l n).B7∧z= .bool (EV l n).EU∧o= .slice (some ⟨ob,0,none⟩) m oc∧i= .slice (some ⟨ib,0,none⟩) m ic∧yj w l n ob oc ib ic m wr) (fun _ _ _ _ _ _ k _=>l.length - (intOf k).toNat);case atStart=>exact⟨0,_,_,_,_,1,rfl,Nat.zero_le _,rfl,rfl,rfl,rfl,rfl,rfl,⟨rfl,rfl,by have s:=S.out;rw[Sr] at s;exact s⟩⟩
 case round=>
  clear S;obtain⟨n,ob,oc,ib,ic,m,rfl,gS,rfl,rfl,rfl,rfl,rfl,rfl,hI⟩:=hrel;by_cases Bi:(n:Int) < (l.length:Int)
  ·have E7:n < l.length:=by omega
   have hb:CB (EV l n):=LX HP.out n;have su:tK (EV l n) n:=wH HP.out n gS;have JM:=Zv l n E7;have Td:CB (EV l (n+1)):=LX HP.out (n+1);have tY:=fv HP.out n E7;obtain⟨cN,vK,AI⟩:=hI;rw[JM] at Td;have JI:=hid JM;clear JM;generalize EV l n=C at hb su Td JI cN vK AI⊢;obtain⟨blocks,C4,B7,CZ,CJ,EU⟩:=C;obtain⟨m,rfl⟩:∃k,m=k+1:=⟨m - 1,by have:=hb.l1;simp only at this cN;omega⟩;obtain⟨os,o,ho,ou⟩:=ZT cN;obtain⟨is_,ii,hi,ue⟩:=ZT vK;simp only at ho hi;subst ho;subst hi;have O9:m≤3:=by have:=hb.l4;simp only[List.length_append,List.length_singleton] at this;omega
   have cO:=hb.ob o (by simp);have hib:=hb.ib ii (by simp);obtain⟨g1,g2,g3,g4,g5,g6⟩:=su;simp only at g1 g2 g3 g4 g5 g6;have JB:l.length≠0:=by omega
   obtain⟨nb,ncap,hv,_,nlt,ncp,ncm,ncell,nfree⟩:=AX H.out (by omega);have NG:=AI.Bh;have GH:∀j,j < 14→wr.cell? ⟨nb,n*14+j,none⟩=(Nd.cells l[n])[j]?:=fun j hj=>by
    have Y7:n*14+j < (Bx l).length:=by rw[El];omega
    have:=BB NG (ncell _ Y7);rw[this,←List.getElem?_eq_getElem Y7,IA l n j E7 hj,List.getD_eq_getElem?_getD,List.getElem?_eq_getElem E7];rfl
   have k0:wr.cell? ⟨nb,n*14,none⟩=some (.int .u8 l[n].kind):=GH 0 (by omega);have k12:wr.cell? ⟨nb,n*14+12,none⟩=some (.int .i64 l[n].n):=GH 12 (by omega);have HN:=hid (show∀W,Av (En []) w W→W.cell? ⟨nb,n*14+12,none⟩=some (.int .i64 l[n].n) from fun W hm=>by
     have Y7:n*14+12 < (Bx l).length:=by rw[El];omega
     have:=BB hm (ncell _ Y7);rw[this,←List.getElem?_eq_getElem Y7,IA l n 12 E7 (by omega),List.getD_eq_getElem?_getD,List.getElem?_eq_getElem E7];rfl)
   obtain⟨oc1,of1,ol1⟩:=BP (AI.Al.row (i:=0) rfl);obtain⟨ic1,if1,il1⟩:=BP (AI.Al.row (i:=1) rfl);have c0:wr.cell? ⟨ob,m,none⟩=some (.int .i64 o):=by rw[oc1 m (by simp[D0,ou])];simp[D0,ou]
   have c1:wr.cell? ⟨ib,m,none⟩=some (.int .i64 ii):=by rw[ic1 m (by simp[D0,ue])];simp[D0,ue]
   have cf:=if1 m;have BQ:ob≠ib:=Vs AI.Al (i:=0) (j:=1) rfl rfl (by decide);have ocap:m+1≤oc∧oc≤maxLen:=by
    obtain⟨_,⟨h1,_⟩ | ⟨_,_,_,h1,_,_,h3,h4,_⟩⟩:=AI.Al.row (i:=0) rfl
    ·cases h1
    ·cases h1;exact⟨h3,h4⟩
   have icap:m+1≤ic∧ic≤maxLen:=by
    obtain⟨_,⟨h1,_⟩ | ⟨_,_,_,h1,_,_,h3,h4,_⟩⟩:=AI.Al.row (i:=1) rfl
    ·cases h1
    ·cases h1;exact⟨h3,h4⟩
   have nlt':nb < wr.heap.size:=Nat.lt_of_lt_of_le nlt NG.size;have cJ:Value.slice p l.length cap= .slice (some ⟨nb,0,none⟩) l.length ncap:=hv;cases cJ;have S:=hid AI;have Hb:=hid hb;have Hb2:=hid Td;have jB:=hid ou;have X0:=hid ue;clear hv AI hb Td ou ue cN vK GH ncell nfree oc1 ic1 of1 if1 NG JB gS;obtain⟨x,hx⟩:∃x,x=l[n]:=⟨_,rfl⟩;rw[←hx] at tY k0 k12 JI Hb2 HN;clear hx;obtain⟨o1,o2⟩:=ocap;obtain⟨i1,i2⟩:=icap;obtain⟨rI,rH⟩:=cO;obtain⟨vM,vL⟩:=hib;unfold maxLen at o2 i2;have C9:(m:Int)+1 - 1=m:=by omega
   have rL:n≤2000:=by omega
   have V6:(0:Int)≤(m:Int):=Int.natCast_nonneg _;have lg:(m:Int) < (m:Int)+1:=by omega
   have Aap:(0:Int)≤(n:Int):=Int.natCast_nonneg _;have ua:m+1+1≤maxLen:=by unfold maxLen;omega
   have tZ:(m+1+1)*8≤140737488355328:=by omega
   replace g2:blocks≤100000:=by omega
   replace g4:C4≤100000:=by omega
   replace g6:B7≤100000:=by omega
   replace tY:=hid tY;by_cases q1:x.kind=108
   ·have t1:((x.kind:Int)==108)=true:=kt q1 rfl;have Q:=hid q1;clear q1;obtain⟨n1,n2⟩:=tY.out Q.out;cases EU with
    | false=>
     have DP:IntKind.i64.wrap (o*x.n)=o*x.n:=IntWalk.i64_in _ (YJ rI rH n1 n2);go_upto_region 13 with fail
     refine GM (l:=[(0,true),(1,true),(2,true),(3,true),(4,true),(5,true),(6,true),(7,true),(8,true),(9,true),(10,true),(11,false),(12,false),(13,false)]) (fun W=>W.cell? ⟨ob,m,none⟩=some (.int .i64 o)∧W.cell? ⟨nb,n*14,none⟩=some (.int .u8 x.kind)∧W.cell? ⟨nb,n*14+12,none⟩=some (.int .i64 x.n)) 12 (by kernel_rfl) (by kernel_rfl) (by kernel_rfl) (by kernel_rfl) (by kernel_rfl) (fun c a d v w h=>by cases d <;>exact h) ?_ ?_
     ·exact⟨c0,k0,k12⟩
     repeat
      refine KV (v:= ?_) rfl rfl rfl (fun W hW=> ?_) ?_;rotate_left
      ·obtain⟨s1,s2,s3⟩:=hW;go_simp;rfl
      simp only[Bo]
     clear DP;refine Fs rfl (fun K hK=> ?_);go_simp;refine hK _ _ (fun _=>⟨(World.cell?_alloc_past _ _ _ ol1).trans c0,(World.cell?_alloc_past _ _ _ nlt').trans k0,(World.cell?_alloc_past _ _ _ nlt').trans k12⟩) ?_;clear hK;refine Fs rfl (fun K hK=> ?_);refine BY 8 _ _ _ j0 _ #[.int .i64 (o*x.n)] _ (S.out.Al) (k:=0) rfl (by rfl) (by rfl) Tryz.underlying29 hj I9 EK JW rfl (by omega) (by rfl) (by rfl) rfl (by simp[Value.oneCell']) ua tZ ?_;intro ob6 oc6 w6 qG _;refine hK _ _ (fun h=>absurd h (by decide)) ?_;clear hK;refine Fs rfl (fun K hK=> ?_);go_simp;refine hK _ _ (fun h=>absurd h (by decide)) ?_;clear hK;simp only[GN];have Yl:Ad w [] w6 [Ot ob6 (m+1+1) oc6 (os++[o]++[o*x.n]),Ot ib (m+1) ic (is_++[ii])]:=by
      have:=S.out.trans qG;simpa[Ot,D0] using this
     obtain⟨ic7,if7,il7⟩:=BP (Yl.Al.row (i:=1) rfl);have c17:w6.cell? ⟨ib,m,none⟩=some (.int .i64 ii):=by rw[ic7 m (by simp[D0,X0.out])];simp[D0,X0.out]
     have k127:=HN.out w6 Yl.Bh;have oa:=Yl.Bh.size;have nlt7:nb < w6.heap.size:=Nat.lt_of_lt_of_le nlt oa;have S7:=hid Yl;clear ic7 if7 qG Yl S c0 c1 k0 k12 cf ol1 il1;go_wp2_with (first | (at_builtin;refine CH 8 _ _ _ j0 _ #[.int .i64 1] _ (S7.out.Al) (k:=1) rfl (by rfl) (by rfl) Tryz.underlying29 hj I9 EK JW rfl (by omega) (by rfl) (by rfl) rfl (by simp[Value.oneCell']) ua tZ ?_;intro ib8 ic8 w8 uG _));go_roundw;case rel=>
      have hk:EV l (n+1)=⟨blocks,C4,B7,os++[o]++[o*x.n],is_++[ii]++[1],false⟩:=by rw[JI.out,Wj Q.out];simp
      have s8:Ad w [] w8 [Ot ob6 (m+1+1) oc6 (os++[o]++[o*x.n]),Ot ib8 (m+1+1) ic8 (is_++[ii]++[1])]:=by
       have:=(S7.out).trans uG;simpa[Ot,D0] using this
      refine⟨n+1,ob6,oc6,ib8,ic8,m+1+1,?_,E7,?_,?_,?_,?_,rfl,rfl,⟨?_,?_,?_⟩⟩
      ·rfl
      ·rw[hk]
      ·rw[hk]
      ·rw[hk]
      ·rw[hk]
      ·rw[hk];simp[jB.out]
      ·rw[hk];simp[X0.out]
      ·rw[hk];exact s8
     case measure=>exact Ol E7
    | true=>
     have DP:IntKind.i64.wrap (o*x.n)=o*x.n:=IntWalk.i64_in _ (YJ rI rH n1 n2);go_upto_region 13 with fail
     refine GM (l:=[(0,true),(1,true),(2,true),(3,true),(4,true),(5,true),(6,true),(7,true),(8,true),(9,true),(10,true),(11,false),(12,false),(13,false)]) (fun W=>W.cell? ⟨ob,m,none⟩=some (.int .i64 o)∧W.cell? ⟨nb,n*14,none⟩=some (.int .u8 x.kind)∧W.cell? ⟨nb,n*14+12,none⟩=some (.int .i64 x.n)) 12 (by kernel_rfl) (by kernel_rfl) (by kernel_rfl) (by kernel_rfl) (by kernel_rfl) (fun c a d v w h=>by cases d <;>exact h) ?_ ?_
     ·exact⟨c0,k0,k12⟩
     repeat
      refine KV (v:= ?_) rfl rfl rfl (fun W hW=> ?_) ?_;rotate_left
      ·obtain⟨s1,s2,s3⟩:=hW;go_simp;rfl
      simp only[Bo]
     clear DP;refine Fs rfl (fun K hK=> ?_);go_simp;refine hK _ _ (fun _=>⟨(World.cell?_alloc_past _ _ _ ol1).trans c0,(World.cell?_alloc_past _ _ _ nlt').trans k0,(World.cell?_alloc_past _ _ _ nlt').trans k12⟩) ?_;clear hK;refine Fs rfl (fun K hK=> ?_);refine BY 8 _ _ _ j0 _ #[.int .i64 (o*x.n)] _ (S.out.Al) (k:=0) rfl (by rfl) (by rfl) Tryz.underlying29 hj I9 EK JW rfl (by omega) (by rfl) (by rfl) rfl (by simp[Value.oneCell']) ua tZ ?_;intro ob6 oc6 w6 qG _;refine hK _ _ (fun h=>absurd h (by decide)) ?_;clear hK;refine Fs rfl (fun K hK=> ?_);go_simp;refine hK _ _ (fun h=>absurd h (by decide)) ?_;clear hK;simp only[GN];have Yl:Ad w [] w6 [Ot ob6 (m+1+1) oc6 (os++[o]++[o*x.n]),Ot ib (m+1) ic (is_++[ii])]:=by
      have:=S.out.trans qG;simpa[Ot,D0] using this
     obtain⟨ic7,if7,il7⟩:=BP (Yl.Al.row (i:=1) rfl);have c17:w6.cell? ⟨ib,m,none⟩=some (.int .i64 ii):=by rw[ic7 m (by simp[D0,X0.out])];simp[D0,X0.out]
     have k127:=HN.out w6 Yl.Bh;have oa:=Yl.Bh.size;have nlt7:nb < w6.heap.size:=Nat.lt_of_lt_of_le nlt oa;have S7:=hid Yl;clear ic7 if7 qG Yl S c0 c1 k0 k12 cf ol1 il1;have Ef:IntKind.i64.wrap (ii*x.n)=ii*x.n:=IntWalk.i64_in _ (YJ vM vL n1 n2);go_upto_region 16 with fail
     refine GM (l:=[(0,true),(1,true),(2,true),(3,true),(4,true),(5,true),(6,true),(7,true),(8,true),(9,true),(10,false)]) (fun W=>W.cell? ⟨ib,m,none⟩=some (.int .i64 ii)∧W.cell? ⟨nb,n*14+12,none⟩=some (.int .i64 x.n)) 10 (by kernel_rfl) (by kernel_rfl) (by kernel_rfl) (by kernel_rfl) (by kernel_rfl) (fun c a d v w h=>by cases d <;>exact h) ?_ ?_
     ·exact⟨c17,k127⟩
     repeat
      refine KV (v:= ?_) rfl rfl rfl (fun W hW=> ?_) ?_;rotate_left
      ·obtain⟨s1,s2⟩:=hW;go_simp;rfl
      simp only[Bo]
     clear Ef;refine Fs rfl (fun K hK=> ?_);go_simp;refine hK _ _ (fun h=>absurd h (by decide)) ?_;clear hK;simp only[GN];go_wp2_with (first | (at_builtin;refine CH 8 _ _ _ j0 _ #[.int .i64 (ii*x.n)] _ ((Ad.drew S7.out.Al).Al) (k:=1) rfl (by rfl) (by rfl) Tryz.underlying29 hj I9 EK JW rfl (by omega) (by rfl) (by rfl) rfl (by simp[Value.oneCell']) ua tZ ?_;intro ib8 ic8 w8 uG _));go_roundw;case rel=>
      have hk:EV l (n+1)=⟨blocks,C4,B7,os++[o]++[o*x.n],is_++[ii]++[(ii*x.n)],true⟩:=by rw[JI.out,Wj Q.out];simp
      have s8:Ad w [] w8 [Ot ob6 (m+1+1) oc6 (os++[o]++[o*x.n]),Ot ib8 (m+1+1) ic8 (is_++[ii]++[(ii*x.n)])]:=by
       have:=(S7.out.trans (Ad.drew S7.out.Al)).trans uG;simpa[Ot,D0] using this
      refine⟨n+1,ob6,oc6,ib8,ic8,m+1+1,?_,E7,?_,?_,?_,?_,rfl,rfl,⟨?_,?_,?_⟩⟩
      ·rfl
      ·rw[hk]
      ·rw[hk]
      ·rw[hk]
      ·rw[hk]
      ·rw[hk];simp[jB.out]
      ·rw[hk];simp[X0.out]
      ·rw[hk];exact s8
     case measure=>exact Ol E7
   ·have t1:((x.kind:Int)==108)=false:=kf q1 rfl;by_cases q2:x.kind=98
    ·have t2:((x.kind:Int)==98)=true:=kt q2 rfl;have Q:=hid q2;clear q1 q2;go_wp2;go_roundw;case rel=>
      have hk:EV l (n+1)=⟨blocks,C4,B7,os,is_,EU⟩:=by rw[JI.out,km Q.out];simp
      have s1:=S.out.Al.take (i:=0) rfl m (Nat.le_succ m);have s2:=s1.Al.take (i:=1) rfl m (Nat.le_succ m);have e1:(D0 (os++[o])).take (m*1)=D0 os:=by rw[←jB.out];simp[D0]
      have e2:(D0 (is_++[ii])).take (m*1)=D0 is_:=by rw[←X0.out];simp[D0]
      have s3:=S.out.trans (s1.trans s2);rw[e1,e2] at s3;refine⟨n+1,ob,oc,ib,ic,m,?_,E7,?_,?_,?_,?_,rfl,rfl,⟨?_,?_,?_⟩⟩
      ·rfl
      ·rw[hk]
      ·rw[hk]
      ·rw[hk]
      ·rw[hk]
      ·rw[hk];exact jB.out
      ·rw[hk];exact X0.out
      ·rw[hk];exact s3
     case measure=>exact Ol E7
    ·have t2:((x.kind:Int)==98)=false:=kf q2 rfl;by_cases q3:x.kind=40
     ·have t3:((x.kind:Int)==40)=true:=kt q3 rfl;have Q:=hid q3;clear q1 q2 q3;go_wp2;go_roundw;case rel=>
       have hk:EV l (n+1)=⟨blocks+o,0,B7,os++[o],is_++[1],true⟩:=by rw[JI.out,kr Q.out];simp
       have s1:=S.out.Al.Jp (i:=1) rfl m (by simp[D0,X0.out]) (.int .i64 1);have e2:(D0 (is_++[ii])).set m (.int .i64 1)=D0 (is_++[1]):=by rw[←X0.out];simp[D0]
       have s3:=S.out.trans s1;rw[e2] at s3;refine⟨n+1,ob,oc,ib,ic,m+1,?_,E7,?_,?_,?_,?_,rfl,rfl,⟨?_,?_,?_⟩⟩
       ·rfl
       ·rw[hk]
       ·rw[hk]
       ·rw[hk]
       ·rw[hk]
       ·rw[hk];simp[jB.out]
       ·rw[hk];simp[X0.out]
       ·rw[hk];exact s3
      case measure=>exact Ol E7
     ·have t3:((x.kind:Int)==40)=false:=kf q3 rfl;by_cases q4:x.kind=41
      ·have t4:((x.kind:Int)==41)=true:=kt q4 rfl;have Q:=hid q4;clear q1 q2 q3 q4;go_wp2;go_roundw;case rel=>
        have hk:EV l (n+1)=⟨blocks,C4,B7,os++[o],is_++[ii],false⟩:=by rw[JI.out,ko Q.out]
        refine⟨n+1,ob,oc,ib,ic,m+1,?_,E7,?_,?_,?_,?_,rfl,rfl,⟨?_,?_,?_⟩⟩
        ·rfl
        ·rw[hk]
        ·rw[hk]
        ·rw[hk]
        ·rw[hk]
        ·rw[hk];simp[jB.out]
        ·rw[hk];simp[X0.out]
        ·rw[hk];exact S.out
       case measure=>exact Ol E7
      ·have t4:((x.kind:Int)==41)=false:=kf q4 rfl;by_cases q5:x.kind=111
       ·have t5:((x.kind:Int)==111)=true:=kt q5 rfl;have Q:=hid q5;clear q1 q2 q3 q4 q5;cases EU with
        | false=>
         go_wp2;go_roundw;case rel=>
          have hk:EV l (n+1)=⟨blocks,C4,B7,os++[o],is_++[ii],false⟩:=by rw[JI.out,Rk Q.out];simp
          refine⟨n+1,ob,oc,ib,ic,m+1,?_,E7,?_,?_,?_,?_,rfl,rfl,⟨?_,?_,?_⟩⟩
          ·rfl
          ·rw[hk]
          ·rw[hk]
          ·rw[hk]
          ·rw[hk]
          ·rw[hk];simp[jB.out]
          ·rw[hk];simp[X0.out]
          ·rw[hk];exact S.out
         case measure=>exact Ol E7
        | true=>
         by_cases yS:B7 < C4+ii
         ·have xN:=hid yS;go_wp2;go_roundw;case rel=>
           have hk:EV l (n+1)=⟨blocks,C4+ii,C4+ii,os++[o],is_++[ii],true⟩:=by rw[JI.out,Rk Q.out];simp[xN.out]
           refine⟨n+1,ob,oc,ib,ic,m+1,?_,E7,?_,?_,?_,?_,rfl,rfl,⟨?_,?_,?_⟩⟩
           ·rfl
           ·rw[hk]
           ·rw[hk]
           ·rw[hk]
           ·rw[hk]
           ·rw[hk];simp[jB.out]
           ·rw[hk];simp[X0.out]
           ·rw[hk];exact S.out
          case measure=>exact Ol E7
         ·have xN:=hid yS;go_wp2;go_roundw;case rel=>
           have hk:EV l (n+1)=⟨blocks,C4+ii,B7,os++[o],is_++[ii],true⟩:=by rw[JI.out,Rk Q.out];simp[xN.out]
           refine⟨n+1,ob,oc,ib,ic,m+1,?_,E7,?_,?_,?_,?_,rfl,rfl,⟨?_,?_,?_⟩⟩
           ·rfl
           ·rw[hk]
           ·rw[hk]
           ·rw[hk]
           ·rw[hk]
           ·rw[hk];simp[jB.out]
           ·rw[hk];simp[X0.out]
           ·rw[hk];exact S.out
          case measure=>exact Ol E7
       ·have t5:((x.kind:Int)==111)=false:=kf q5 rfl;have Q:=hid (kj (c:=⟨blocks,C4,B7,os++[o],is_++[ii],EU⟩) q1 q2 q3 q4 q5);clear q1 q2 q3 q4 q5;go_wp2;go_roundw;case rel=>
         have hk:EV l (n+1)=⟨blocks,C4,B7,os++[o],is_++[ii],EU⟩:=by rw[JI.out,Q.out]
         refine⟨n+1,ob,oc,ib,ic,m+1,?_,E7,?_,?_,?_,?_,rfl,rfl,⟨?_,?_,?_⟩⟩
         ·rfl
         ·rw[hk]
         ·rw[hk]
         ·rw[hk]
         ·rw[hk]
         ·rw[hk];simp[jB.out]
         ·rw[hk];simp[X0.out]
         ·rw[hk];exact S.out
        case measure=>exact Ol E7
  ·have vB:n=l.length:=by omega
   subst vB;have hS:=hid hI.st;clear hI;go_wp2;go_ret2;refine⟨?_,hS.out.Bh⟩;have e:EV l l.length=l.foldl Eh.step .Dk:=by unfold EV;rw[List.take_length]
   rw[e];rfl
theorem eU (l:Ws) (lw:Value) (w:World) (g:RG) (R:RS) (n:Nat) (h:AK w (g.Ax R)) (hL:Dl g R) (hG:JP R n)
  (hw:Sl w (fun b=>b∉En (g.Ax R)) lw (AY l)) (hs:∀a,a∈l→a.size≤maxLen) (BQ:l≠[]) (Ox:Bz l=true):
  Calls Tryz.prog 37 #[.pointer (some ⟨g.rb,0,none⟩),lw] w (Fe (R.row l) g R w):=by
 have hS:0≤R.Am∧R.Am≤1000:=⟨hG.s0,by have:=hG.s1;omega⟩;by_cases h1:bs (wd l 0)=AN
 ·exact Wt l lw w g R n h hL hG.mg hw hs BQ Ox h1
 by_cases h2:bs (wd l 0)=AE
 ·by_cases ho:R.Ai=[]
  ·exact Ve l lw w g R n h hL hG.mg hw BQ Ox h2 ho
  ·exact Vf l lw w g R n h hG.mg hG.Z0 hw BQ h2 ho
 by_cases h3:bs (wd l 0)=D7
 ·exact eT l lw w g R n h hL hG.mg hG.Z0 hw BQ h3
 cases hi:R.BE with
 | true=>exact Rp l lw w g R n h hL hG.mg hG.Z0 hS hw hs BQ Ox h1 h2 h3 hi
 | false=>exact Qm l lw w g R n h hL hG.mg hG.Z0 hS hw hs BQ Ox h1 h2 h3 hi
def RG.sL (g:RG) (R:RS) (m:Bool):Ob:= .AP g.rb #[.pointer (some ⟨g.pb,0,none⟩),.slice g.s.p R.Aw.length g.s.c,.slice g.f.p R.first.length g.f.c,.slice g.z.p R.size.length g.z.c,.slice g.l.p R.AB.length g.l.c,.slice g.o.p R.Ai.length g.o.c,.int .i64 R.Am,.bool m,.int .i64 0] 94
def RG.rest (g:RG) (R:RS):List Ob:=(g.Ax R).tail
def sS (res:Except (Int×Nat) RP) (w:World) (e:Ending) (w':World):Prop:=match res with
 | .error c=>e= .returned (.tuple #[.pointer none,.int .i64 c.1,.int .i64 c.2])∧Av [] w w'
 | .ok p=>∃(g:RG) (R:RS),R.p=p∧Dl g R∧e= .returned (.tuple #[.pointer (some ⟨g.pb,0,none⟩),.int .i64 0,.int .i64 0])∧Ad w [] w' (g.rest R)
structure RI (w0:World) (s:By) (k:Nat) (g:RG) (R:RS) (x:qr) (wr:World):Prop where
 st:Ad w0 [] wr (g.Ax R)
 len:Dl g R
 go:JP R k
 uH:LD x R
 fw:FW x
 fn:FN x
 eq:GR s=J6 ((Ay 10 s).drop k) k R
theorem RI.new {w0 wr:World} {s:By} {k:Nat} {g:RG} {R:RS} {x:qr} (h:RI w0 s k g R x wr):∀b,b∈En (g.Ax R)→w0.heap.size≤b:=fun b hb=>by
 rcases h.st.fp b hb with h1 | h1
 ·simp[En] at h1
 ·exact h1
theorem RI.Bh {w0 wr:World} {s:By} {k:Nat} {g:RG} {R:RS} {x:qr} (h:RI w0 s k g R x wr):Av [] w0 wr:=h.st.Bh.mono fun x hx=>by simp[En] at hx
theorem RI.quiet {w0 wr W:World} {s:By} {k:Nat} {g:RG} {R:RS} {x:qr} (h:RI w0 s k g R x wr) (hm:Av [] wr W):RI w0 s k g R x W:={h with st:=h.st.trans (Ad.quiet h.st.Al hm)}
theorem RI.next {w0 wr W:World} {s:By} {k:Nat} {g:RG} {R:RS} {x:qr} (h:RI w0 s k g R x wr) {R':RS} {p q:By} {r:List By} (hd:(Ay 10 s).drop k=p::q::r) (hl:Bz (Bv p)=true) (hr:R.row (Bv p)= .ok R') (hk:k+1≤2500)
  {g':RG} (hL:Dl g' R') (st:Ad wr (g.Ax R) W (g'.Ax R')):∃y,RI w0 s (k+1) g' R' y W:=by
 obtain⟨w,l,qV⟩:∃w l,Bv p=w::l:=by
  unfold Bv;cases hs:Ay 32 p with
  | nil=>exact absurd hs (Cc _ _)
  | cons a b=>exact⟨_,_,rfl⟩
 have BQ:Bv p≠[]:=by rw[qV];simp
 have hG:=h.go.row hk hl BQ hr;have hs:=ZV h.uH w l (by rw[←qV];exact hl);rw[←qV,hr] at hs;unfold OK at hs;cases hx:x.row (Bv p) with
 | error c=>rw[hx] at hs;exact hs.elim
 | ok y=>
  rw[hx] at hs;obtain⟨o1,o2⟩:=qr.Yv h.fw h.fn hx;have lq:(Ay 10 s).drop (k+1)=q::r:=by
   have:=congrArg List.tail hd;rwa[List.tail_drop] at this
  refine⟨y,h.st.trans st,hL,hG,hs,o1,o2,?_⟩;rw[h.eq,hd,lq];show(if _ then _ else _)=_;rw[if_pos hl,hr]
theorem RI.uI {w0 wr:World} {s:By} {k:Nat} {g:RG} {R:RS} {x:qr} (h:RI w0 s k g R x wr) (ho:R.Ai=[]):∀t,t∈R.p.Aa→Ik .Dk t∧t.length≤1000:=by
 have ah:x.Ai=[]:=List.eq_nil_of_length_eq_zero (by rw[←Jf h.uH,ho];rfl);obtain⟨_,e⟩:=W1 h.uH h.fw ah;intro t ht;rw[e] at ht;obtain⟨u,hu,rfl⟩:=List.mem_map.1 ht;refine⟨kE (h.fw.th u hu),?_⟩;rw[Eo];have h1:=h.fn.all u hu;have h2:(EP u:Int)≤2*JR u:=by
  clear h1 hu ht;induction u <;>simp only[EP,JR] <;>omega
 omega
def Ty (t:List Nd):Bool:=decide (3 < (Gt t).1) || decide (8 < (Gt t).2)
theorem qH {g:List SG} {l:List (List Nd)} (hl:g.length=l.length) {j:Nat} (hj:j < l.length):∃a,g[j]?=some a∧(BL g l)[j]?=some (.slice a.p l[j].length a.c)∧(List.zipWith Dv g l)[j]?=some (Dv a l[j]):=by
 have vJ:j < g.length:=by omega
 refine⟨g[j],by simp[vJ],?_,?_⟩
 ·simp[BL,List.getElem?_zipWith,vJ,hj]
 ·simp[List.getElem?_zipWith,vJ,hj]
theorem fh {g:RG} {R:RS} (hL:Dl g R) {j:Nat} (hj:j < R.p.Aa.length) (m:Bool):∃a,(BL g.cv R.p.Aa)[j]?=some (.slice a.p R.p.Aa[j].length a.c)∧(g.sL R m::g.rest R)[10+j]?=some (Dv a R.p.Aa[j]):=by
 obtain⟨a,_,h2,h3⟩:=qH hL.cl hj;refine⟨a,h2,?_⟩;show([_,_,_,_,_,_,_,_,_,_]++(List.zipWith Dv g.cv R.p.Aa++List.zipWith CF g.dv R.p.AD))[10+j]?=_;rw[List.getElem?_append_right (by simp)];simp only[List.length_cons,List.length_nil];rw[show 10+j - (0+1+1+1+1+1+1+1+1+1+1)=j by omega,List.getElem?_append_left (by simp[hL.cl,hj]),h3]
theorem YC {w1:World} {s:By} (hl:¬2000 < s.length):∃g,g.rb=w1.heap.size+1∧g.pb=w1.heap.size∧RI w1 s 0 g .Dk .Dk
  ((w1.alloc (.cells #[.slice none 0 0,.int .i64 0,.slice none 0 0,.slice none 0 0] 53)).alloc (.cells #[.pointer (some ⟨w1.heap.size,0,none⟩),.slice none 0 0,.slice none 0 0,.slice none 0 0,.slice none 0 0,.slice none 0 0,.int .i64 0,.bool false,.int .i64 0] 94)):=by
 have a1:=Ad.new (AK.nil w1) (.cells #[.slice none 0 0,.int .i64 0,.slice none 0 0,.slice none 0 0] 53);have a2:=a1.trans (Ad.Oi a1.Al (.cells #[.pointer (some ⟨w1.heap.size,0,none⟩),.slice none 0 0,.slice none 0 0,.slice none 0 0,.slice none 0 0,.slice none 0 0,.int .i64 0,.bool false,.int .i64 0] 94));rw[Sr] at a2;have nl:∀{L:List Ob} {w:World} {e:TypeId} {n:Nat},Ad w1 [] w L→Ad w1 [] w (L++[.row (.slice none 0 0) e n 0 []]):=fun {L w e n} h=>by
  have t:=Ad.O2 (A:=L) (B:=[]) (by rw[List.append_nil];exact h.Al) e n;rw[List.append_nil] at t;exact h.trans t
 have a3:=nl (e:=9) (n:=1) a2;have a4:=nl (e:=3) (n:=1) a3;have a5:=nl (e:=3) (n:=1) a4;have a6:=nl (e:=9) (n:=1) a5;have a7:=nl (e:=3) (n:=1) a6;have a8:=nl (e:=72) (n:=1) a7;have a9:=nl (e:=51) (n:=1) a8;have a10:=nl (e:=4) (n:=1) a9;refine⟨⟨w1.heap.size+1,w1.heap.size,⟨none,0⟩,⟨none,0⟩,⟨none,0⟩,⟨none,0⟩,⟨none,0⟩,⟨none,0⟩,⟨none,0⟩,⟨none,0⟩,[],[]⟩,rfl,rfl,a10,⟨rfl,rfl,rfl,rfl,rfl,rfl,by simp[RS.Dk]⟩,.Dk,.Dk,.Dk,.Dk,?_⟩;unfold GR;rw[if_neg hl];rfl
theorem Wu {R:RS} {l:Ws} {c:Int} (h:R.row l= .error c):((c:Int) !=0)=true:=by
 rw[bne_iff_ne];unfold RS.row at h;simp only[] at h;split at h
 ·unfold RS.DU at h;split at h
  ·cases h;decide
  ·split at h
   ·cases h;decide
   ·cases h
 split at h
 ·split at h
  ·cases h;decide
  ·cases h
 split at h
 ·unfold RS.LG at h;split at h
  ·cases h;decide
  ·cases h
 split at h
 ·cases h;decide
 split at h
 ·rename_i hn;cases h;rcases RC hn with rfl | rfl <;>decide
 ·split at h
  ·cases h;decide
  ·split at h
   ·split at h
    ·cases h;decide
    ·cases h
   ·cases h
theorem T7 (s:ByteArray) (w:World) (hs:s.size≤1000000):
  Calls Tryz.prog 23 #[.string s] w (sS (GR (bs s)) w):=by
 by_cases hl:2000 < s.size
 ·have ak:(2000:Int) < (s.size:Int):=by omega
  have Hr:=hid (show GR (bs s)= .error (1,0) by unfold GR;rw[if_pos (by rw[Bu];exact hl)]);clear hl;go_enter Tryz.func23,Tryz.ntmps23;go_wp2;go_ret3;rw[Hr.out];exact⟨rfl,Av.refl _ _⟩
 have ak:¬(2000:Int) < (s.size:Int):=by omega
 have Hl:=hid (show¬2000 < (bs s).length by rw[Bu];exact hl);go_enter Tryz.func23,Tryz.ntmps23;go_wp2_with fail;refine(OB s 10 _ hs).mono ?_;intro e w1 he;obtain⟨v,l,GJ,C9,CN,XX⟩:=he;obtain⟨ini,pl,hP⟩:∃ini pl,Ay 10 (bs s)=ini++[pl]:=by
  rcases List.eq_nil_or_concat (Ay 10 (bs s)) with h | ⟨a,b,h⟩
  ·exact absurd h (Cc _ _)
  ·exact⟨a,b,by rw[h,List.concat_eq_append]⟩
 obtain⟨k0,Tw⟩:∃k,k=ini.length:=⟨_,rfl⟩;have hle:l=(ini++[pl]).map AA:=by rw[←hP];exact NX XX
 have hlen:l.length=k0+1:=by rw[hle,Tw];simp
 have C8:k0≤2001:=by
  have:=F5 10 _ (bs s) (Nat.le_refl _);have h3:=Lib.count_le (bs s) [10];rw[Bu] at h3;rw[hP] at this;simp at this;omega
 obtain⟨lb,lcap,hv,_,llt,lcp,lcm,lcel,lfr⟩:=AX CN (by omega);rw[hlen] at hv;subst GJ;subst hv;have xV:=hid lcel;have HP:=hid hP;have HK:=hid Tw;have HLE:=hid hle;have Kh:=hid C9;clear CN XX hP Tw hle hlen C9 lcel lfr lcp lcm llt ak hl;have hw:True→wrap64 (k0:Int)=k0:=fun _=>IntWalk.wrap64_in _ (by omega)
 go_wp2;go_loopw [8,9] (fun n i wr=>∃k:Nat,n= .int .i64 k∧i= .int .i64 k∧k≤k0∧∃g R x,g.rb=w1.heap.size+1∧RI w1 (bs s) k g R x wr) (fun _ i _=>k0+1 - (intOf i).toNat);case atStart=>
  obtain⟨g,h1,_,h3⟩:=YC (w1:=w1) Hl.out;exact⟨0,rfl,rfl,Nat.zero_le _,g,_,_,h1,h3⟩
 case round=>
  clear hw;obtain⟨k,rfl,rfl,hk,g,R,x,cK,hI⟩:=hrel;rw[←cK];have Hrb:=hid cK;have HI:=hid hI;have QP:(k:Int) < (k0:Int)+1:=by omega
  have oL:(0:Int)≤(k:Int):=by omega
  have Lr:True→wrap64 ((k:Int)+1)=k+1:=fun _=>IntWalk.wrap64_in _ (by omega)
  have vH:k < (ini++[pl]).length:=by rw[List.length_append,←HK.out];simp;omega
  obtain⟨p,hp⟩:∃p,p=(ini++[pl])[k]:=⟨_,rfl⟩;have cL:p∈Ay 10 (bs s):=by rw[HP.out,hp];exact List.getElem_mem vH
  have CM:=Lb 10 (bs s) p cL;rw[Bu] at CM;have r0:wr.cell? ⟨lb,k,none⟩=some (.string (AA p)):=by
   refine BB hI.Bh (KH xV.out ?_);rw[HLE.out];simp only[AY,List.map_map];rw[List.getElem?_map,List.getElem?_eq_getElem vH,←hp];rfl
  have hd:(Ay 10 (bs s)).drop k=p::(ini++[pl]).drop (k+1):=by rw[HP.out,hp,List.drop_eq_getElem_cons vH]
  have Y1:(AA p).size≤1000000:=by rw[←Bu,Cs];omega
  have dR:=hid (OB (AA p) 32 wr Y1);have Hd:=hid hd;have Hp:=hid hp;have x7:=hid CM;clear hI cK hd hp cL CM Y1;obtain⟨br,y7⟩:∃b,b=decide (k=k0∧pl=[]∧0 < k):=⟨_,rfl⟩;have nk:=hid y7;clear y7;go_upto_region 10 with fail
  go_cut [47] from 28 to 73 (fun q w'=>w'=wr∧q= .bool br)
  case first=>
   by_cases JO:k=k0
   ·have Sg:((k:Int)==(k0:Int))=true:=by rw[JO];simp
    have cM:p=pl:=by rw[Hp.out];simp[JO,HK.out]
    by_cases CM:pl=[]
    ·have r0':wr.cell? ⟨lb,k,none⟩=some (.string ⟨#[]⟩):=by rw[r0,cM,CM];rfl
     by_cases h0:0 < k
     ·have uj:(0:Int) < (k:Int):=by omega
      have Hq:=hid (show Value.bool (decide (0 < k))= .bool br by rw[nk.out];simp[JO,CM]);clear JO cM CM r0 h0;go_wp2
      go_meet
      exact⟨rfl,Hq.out⟩
     ·have uj:¬(0:Int) < (k:Int):=by omega
      have Hq:=hid (show Value.bool (decide (0 < k))= .bool br by rw[nk.out];simp[JO,CM]);clear JO cM CM r0 h0;go_wp2
      go_meet
      exact⟨rfl,Hq.out⟩
    ·have he:¬(AA p).toList=[]:=by rw[ByteArray.toList_eq,cM];exact CM
     have jM:(AA p).toList.isEmpty=false:=by rw[←Bool.not_eq_true,List.isEmpty_iff];exact he
     have Hq:=hid (show Value.bool false= .bool br by rw[nk.out];simp[CM]);clear JO cM CM;go_wp2
     go_meet
     exact⟨rfl,Hq.out⟩
   ·have Sg:((k:Int)==(k0:Int))=false:=by rw[beq_eq_false_iff_ne];omega
    have Hq:=hid (show Value.bool false= .bool br by rw[nk.out];simp[JO]);clear JO;go_wp2
    go_meet
    exact⟨rfl,Hq.out⟩
  case rest=>
   obtain⟨DK,hq⟩:=hcut;subst DK;subst hq;cases br with
   | true=>
    have hb:=nk.out;rw[eq_comm,decide_eq_true_eq] at hb;obtain⟨KP,Td,cV⟩:=hb;have cM:p=[]:=by rw[Hp.out,←Td];simp[KP,HK.out]
    have HQ:=hid (show GR (bs s)=Iq k R by
      rw[HI.out.eq,Hd.out,cM,List.drop_of_length_le (by rw[List.length_append,←HK.out];simp;omega)];show(if _ then _ else _)=_;rw[if_pos ⟨rfl,cV⟩])
    clear KP Td cV cM r0 dR nk;have CR:=AG HI.out.st.Al;have cH:R.p.Aa.length≤2500:=by have:=HI.out.go.mg.bn;have:=HI.out.go.mg.nn;omega
    have cN:R.Ai.length≤3:=HI.out.go.ol;obtain⟨Cp,A6,CR,Bt,Bi,CM,BQ⟩:=CR;by_cases ho:R.Ai=[];rotate_left
    ·have vx:0 < R.Ai.length:=List.length_pos_iff.2 ho;have Y2:(0:Int) < (R.Ai.length:Int):=by omega
     have Hr:=hid (show GR (bs s)= .error (3,k+1) by rw[HQ.out];unfold Iq;rw[if_pos (.inl ho)]);clear ho CR Bt;go_wp2;go_ret3;rw[Hr.out];exact⟨rfl,Kh.out.Ac HI.out.Bh⟩
    have Y2:R.Ai.length=0:=by rw[ho];rfl
    rw[Y2] at Cp;by_cases ht:R.p.Aa=[]
    ·have Hr:=hid (show GR (bs s)= .error (3,k+1) by rw[HQ.out];unfold Iq;rw[if_pos (.inr ht)]);rw[ht] at A6;simp only[List.length_nil] at A6;clear ho Y2 ht CR Bt;go_wp2;go_ret3;rw[Hr.out];exact⟨rfl,Kh.out.Ac HI.out.Bh⟩
    have ht1:((R.p.Aa.length:Int)==0)=false:=by rw[beq_eq_false_iff_ne];have:=List.length_pos_iff.2 ht;omega
    have HO:=hid ho;have HT:=hid ht;have HQ2:=hid (show GR (bs s)=if (R.p.Aa.any Ty) || (decide (6 < R.p.cells) || decide (3 < R.p.Aa.length)) then .error (5,0) else .ok R.p by
      rw[HQ.out];unfold Iq;rw[if_neg (fun h=>h.elim (fun h=>h ho) ht)];rfl)
    clear ho Y2 ht;go_wp2;go_loopw [13] (fun j wx=>∃n:Nat,j= .int .i64 n∧n≤R.p.Aa.length∧Ad w1 [] wx (g.sL R ((R.p.Aa.take n).any Ty)::g.rest R)) (fun j _=>R.p.Aa.length - (intOf j).toNat);case atStart=>exact⟨0,rfl,Nat.zero_le _,HI.out.st⟩
    case round=>
     clear Cp A6 CR Bt Bi CM BQ Lr oL QP;obtain⟨n,rfl,hn,st⟩:=hrel;have ST:=hid st;have MW:=st.Al.AP (i:=0) rfl;have Sg:=st.Al.AP (i:=1) rfl;have Cp:=MW.cell;have CR:=MW.free;have Bi:=MW.lt;have Tu:=Sg.cell;have CM:=Sg.lt;have Gb:(0:Int)≤(n:Int):=by omega
     by_cases gS:(n:Int) < (R.p.Aa.length:Int)
     ·have lf:n < R.p.Aa.length:=by omega
      obtain⟨a,uk,y9⟩:=fh HI.out.len lf ((R.p.Aa.take n).any Ty);have Hf:=st.Al.row y9;obtain⟨hP,wq⟩:=HI.out.uI HO.out _ (List.getElem_mem lf);have Hc:=hid (Xv R.p.Aa[n] _ wr Hf hP wq);obtain⟨tb,tcap,L2,_,tlt,_,_,tcel,tfr⟩:=AX (st.Al.row (i:=7) rfl) (by omega);simp only[Value.slice.injEq] at L2;obtain⟨mm,_,htc⟩:=L2;rw[mm] at Tu;have t0:wr.cell? ⟨tb,n,none⟩=some (.slice a.p R.p.Aa[n].length a.c):=KH tcel uk;have P9:True→wrap64 ((n:Int)+1)=n+1:=fun _=>IntWalk.wrap64_in _ (by omega)
      have JM:((R.p.Aa.take (n+1)).any Ty)=((R.p.Aa.take n).any Ty || Ty R.p.Aa[n]):=by
       rw[List.take_succ_eq_append_getElem lf,List.any_append];simp
      obtain⟨nd,GH⟩:∃z,z=R.p.Aa[n]:=⟨_,rfl⟩;rw[←GH] at JM Hc t0;obtain⟨mb,MY⟩:∃b,b=(R.p.Aa.take n).any Ty:=⟨_,rfl⟩;rw[←MY] at JM ST Cp;have JI:=hid JM;clear MW Sg uk y9 Hf hP wq mm htc tcel tfr JM MY GH lf st;go_wp2_with fail;refine Hc.out.mono ?_;intro e w5 he;obtain⟨GJ,hm⟩:=he;subst GJ;have ST5:=hid (ST.out.trans (Ad.quiet ST.out.Al hm));have MW:=ST5.out.Al.AP (i:=0) rfl;clear Cp CR Bi Tu CM t0 hm;have Cp:=MW.cell;have CR:=MW.free;have Bi:=MW.lt;obtain⟨c1,LC⟩:∃z,z=(Gt nd).1:=⟨_,rfl⟩;obtain⟨c2,LB⟩:∃z,z=(Gt nd).2:=⟨_,rfl⟩;have VG:Ty nd=(decide (3 < c1) || decide (8 < c2)):=by unfold Ty;rw[←LC,←LB]
      rw[VG] at JI;rw[←LC,←LB];clear VG;clear MW LC LB Hc;cases mb with
      | true=>
       replace JI:=hid (JI.out.trans (Bool.true_or _));go_wp2_with fail;go_roundw;case rel=>
        refine⟨n+1,by (try rw[P9 trivial]);rfl,by omega,?_⟩;rw[JI.out];exact ST5.out.trans (ST5.out.Al.set (i:=0) rfl 7 (.bool true))
       case measure=>(try rw[P9 trivial]);simp[intOf];omega
      | false=>
       by_cases h3:3 < c1
       ·replace JI:=hid (JI.out.trans (show _=true by simp[h3]));go_wp2_with fail;go_roundw;case rel=>
         refine⟨n+1,by (try rw[P9 trivial]);rfl,by omega,?_⟩;rw[JI.out];exact ST5.out.trans (ST5.out.Al.set (i:=0) rfl 7 (.bool true))
        case measure=>(try rw[P9 trivial]);simp[intOf];omega
       ·by_cases h8:8 < c2
        ·replace JI:=hid (JI.out.trans (show _=true by simp[h8]));go_wp2_with fail;go_roundw;case rel=>
          refine⟨n+1,by (try rw[P9 trivial]);rfl,by omega,?_⟩;rw[JI.out];exact ST5.out.trans (ST5.out.Al.set (i:=0) rfl 7 (.bool true))
         case measure=>(try rw[P9 trivial]);simp[intOf];omega
        ·replace JI:=hid (JI.out.trans (Bool.false_or _));go_wp2_with fail;go_roundw;case rel=>
          refine⟨n+1,by (try rw[P9 trivial]);rfl,by omega,?_⟩;rw[JI.out];exact ST5.out.trans (ST5.out.Al.set (i:=0) rfl 7 (.bool (decide (3 < c1) || decide (8 < c2))))
         case measure=>(try rw[P9 trivial]);simp[intOf];omega
     ·have BQ:n=R.p.Aa.length:=by omega
      have x6:=HQ2.out;rw[BQ,List.take_length] at Cp ST;obtain⟨mb,MY⟩:∃b,b=R.p.Aa.any Ty:=⟨_,rfl⟩;rw[←MY] at Cp x6 ST;have eg:=hid x6;clear MW Sg BQ MY st x6;cases mb with
      | true=>
       replace eg:=hid (eg.out.trans (if_pos (Bool.true_or _)));go_wp2;go_ret3;rw[eg.out];exact⟨rfl,Kh.out.Ac (ST.out.Bh.mono fun x hx=>by simp[En] at hx)⟩
      | false=>
       by_cases h6:6 < R.p.cells
       ·replace eg:=hid (eg.out.trans (if_pos (by simp[h6])));go_wp2;go_ret3;rw[eg.out];exact⟨rfl,Kh.out.Ac (ST.out.Bh.mono fun x hx=>by simp[En] at hx)⟩
       ·by_cases h3:3 < R.p.Aa.length
        ·have h3i:(3:Int) < (R.p.Aa.length:Int):=by omega
         replace eg:=hid (eg.out.trans (if_pos (by simp[h3])));go_wp2;go_ret3;rw[eg.out];exact⟨rfl,Kh.out.Ac (ST.out.Bh.mono fun x hx=>by simp[En] at hx)⟩
        ·have h3i:¬(3:Int) < (R.p.Aa.length:Int):=by omega
         replace eg:=hid (eg.out.trans (if_neg (by simp[h3,h6])));have HL:=hid HI.out.len;go_wp2;go_ret3;rw[eg.out];exact⟨g,R,rfl,HL.out,rfl,(Ad.quiet (AK.nil w) Kh.out).trans (ST.out.trans (Ad.Pm (A:=[]) ST.out.Al))⟩
   | false=>
    have hb:=nk.out;rw[eq_comm,decide_eq_false_iff_not] at hb;have HB:=hid hb;clear hb nk;go_wp2_with fail;refine dR.out.mono ?_;intro e w5 he;obtain⟨v5,l5,GJ,gU,mB,oE⟩:=he;have rR:l5=Bv p:=by rw[Cs] at oE;exact NX oE
    have gG:=Sl.Lg mB;rw[rR] at gG;have oB:Bv p≠[]:=fun h=>Cc 32 p (List.map_eq_nil_iff.1 h)
    have od:∀a,a∈Bv p→a.size≤maxLen:=fun a ha=>by
     obtain⟨y,hy,rfl⟩:=List.mem_map.1 ha;have:=Lb 32 p y hy;have:=x7.out;rw[←Bu,Cs];unfold maxLen;omega
    obtain⟨sp,sc,hv,_,_⟩:=gG.JF;obtain⟨sn,NU⟩:∃n,n=(AY (Bv p)).length:=⟨_,rfl⟩;rw[←NU] at hv;subst GJ;subst hv;have nh:=hid (gd (Bv p) _ w5 _ gG oB od);have xx:=hid gG;have xG:=hid oB;have xv:=hid od;have pX:=hid (HI.out.quiet gU);have qo:=hid gU.size;clear NU rR gG oB od gU mB oE r0 dR;go_wp2_with fail;refine nh.out.mono ?_;intro e w6 he;obtain⟨GJ,dX⟩:=he;subst GJ;have l7:=hid (pX.out.quiet dX);clear nh;have rn:Sl w6 (fun b=>b∉En (g.Ax R)) (.slice sp sn sc) (AY (Bv p)):=by
     refine(xx.out.mono fun b _ hb hf=> ?_).Bh dX (by simp);have h1:=HI.out.st.Al.lt b hf;omega
    have xw:=hid rn;clear dX rn;by_cases JO:k=k0
    ·have Sg:((k:Int)==(k0:Int))=true:=by rw[JO];simp
     have hr:=hid (show GR (bs s)= .error (2,k+1) by
       rw[HI.out.eq,Hd.out,List.drop_of_length_le (by rw[List.length_append,←HK.out];simp;omega)];show(if _ then _ else _)=_;rw[if_neg];rintro⟨h1,h2⟩;have cM:p=pl:=by rw[Hp.out];simp[JO,HK.out]
       exact HB.out ⟨JO,by rw[←cM];exact h1,h2⟩)
     clear JO;cases Ox:Bz (Bv p) with
     | true=>
      clear Ox;go_wp2;go_ret3;rw[hr.out];exact⟨rfl,Kh.out.Ac l7.out.Bh⟩
     | false=>
      clear Ox;go_wp2;go_ret3;rw[hr.out];exact⟨rfl,Kh.out.Ac l7.out.Bh⟩
    ·have Sg:((k:Int)==(k0:Int))=false:=by rw[beq_eq_false_iff_ne];omega
     obtain⟨q,r,gJ⟩:∃q r,(Ay 10 (bs s)).drop k=p::q::r:=by
      rw[Hd.out];cases Zb:(ini++[pl]).drop (k+1) with
      | nil=>have:=List.drop_eq_nil_iff.1 Zb;rw[List.length_append,←HK.out] at this;simp at this;omega
      | cons q r=>exact⟨q,r,rfl⟩
     have Hqr:=hid gJ;have heq:GR (bs s)=if Bz (Bv p) then match R.row (Bv p) with | .error c=> .error (c,k+1) | .ok r'=>J6 (q::r) (k+1) r' else .error (2,k+1):=by rw[HI.out.eq,gJ];rfl
     have zF:=hid heq;have Aaw:k < k0:=by omega
     clear gJ heq JO;cases Ox:Bz (Bv p) with
     | false=>
      have hr:=hid (zF.out.trans (by rw[Ox]));clear Ox;go_wp2;go_ret3;rw[hr.out];exact⟨rfl,Kh.out.Ac l7.out.Bh⟩
     | true=>
      have rS:=hid Ox;have dO:=hid (eU (Bv p) _ w6 g R k l7.out.st.Al l7.out.len l7.out.go xw.out xv.out xG.out Ox);clear Ox;go_wp2_with fail;refine dO.out.mono ?_;intro e w7 he;clear dO;cases hr:R.row (Bv p) with
      | error c=>
       rw[hr] at he;obtain⟨GJ,hm⟩:=he;subst GJ;have si:=Wu hr;have V5:=hid (zF.out.trans (by rw[rS.out,hr]));have HM7:=hid (Kh.out.Ac (l7.out.Bh.trans hm (fun b hb=> .inr (l7.out.new b hb))));clear hr hm;go_wp2;go_ret3;rw[V5.out];exact⟨rfl,HM7.out⟩
      | ok R'=>
       rw[hr] at he;obtain⟨GJ,g',ru,mQ,st'⟩:=he;subst GJ;obtain⟨y,hN⟩:=l7.out.next Hqr.out rS.out hr (by omega) mQ st';have HN:=hid hN;have xA:=hid ru;clear hr hN mQ st' ru;go_wp2;go_roundw;case rel=>exact⟨k+1,by (try rw[Lr trivial]);rfl,by (try rw[Lr trivial]);rfl,by omega,g',R',y,xA.out,HN.out⟩
       case measure=>(try rw[Lr trivial]);simp[intOf] <;>omega
end Go.Proofs.YtpdfifdlhpmofaaGreatDoor
