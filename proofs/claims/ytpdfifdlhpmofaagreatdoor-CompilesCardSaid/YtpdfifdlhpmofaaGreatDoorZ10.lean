/-
  Part 10 of the proof, packed by program out of W8.
-/
import Derived.Test.YtpdfifdlhpmofaaGreatDoorZ09
import Derived.Deep.CutBlock
set_option linter.unusedVariables false
set_option linter.unusedSimpArgs false
set_option maxHeartbeats 3200000
set_option maxRecDepth 100000
namespace Go.Proofs.YtpdfifdlhpmofaaGreatDoor
open Go.RowKit
open Go.Lib (hid)
structure Cm where
 Kl:ByteArray
 d:Int
 a:SQ
 b:SQ
 c:SQ
 k:Int
def Cm.cells (i:Cm):Array Value:= #[.string i.Kl,.int .i64 i.d,.bool i.a.BF,.int .i64 i.a.v,.bool i.b.BF,.int .i64 i.b.v,.bool i.c.BF,.int .i64 i.c.v,.int .i64 i.k]
def Cm.val (i:Cm):Value:= .agg i.cells
def Cm.of (x:ByteArray):Cm:=⟨x,0,.zero,.zero,.zero,0⟩
def FO (f:UInt8) (x:By) (i:Cm):Cm×Bool:=
 if f.toNat=100 then ({i with d:=((Kt x).getD 0:Nat)},(Kt x).isSome)
 else if f.toNat=97 then ({i with a:=(Ko x).getD .zero},(Ko x).isSome)
 else if f.toNat=98 then ({i with b:=(Ko x).getD .zero},(Ko x).isSome)
 else if f.toNat=99 then ({i with c:=(Ko x).getD .zero},(Ko x).isSome)
 else if f.toNat=107 then ({i with k:=(number x).getD 0},(number x).isSome)
 else if f.toNat=116 then ({i with k:=(number x).getD 0},(number x).isSome && decide (0≤(number x).getD 0) && decide ((number x).getD 0≤4000))
 else if f.toNat=110 then ({i with k:=(number x).getD 0},(number x).isSome && decide (1≤(number x).getD 0) && decide ((number x).getD 0≤9))
 else (i,(Ko x).isSome)
def M7:By→List ByteArray→Cm→Option Cm
 | [],_,i=>some i
 | f::fs,l,i=>if (FO f (bs (wd l 0)) i).2 then M7 fs l.tail (FO f (bs (wd l 0)) i).1 else none
def D9 (l:List ByteArray):Option Cm:=
 if bs (FX (wd l 0))=[63]∨l.length≠1+(FX (wd l 0)).size then none else M7 (bs (FX (wd l 0))) l.tail (.of (wd l 0))
def jy (l:List ByteArray) (w:World) (e:Ending) (w':World):Prop:=
 ∃i:Cm,e= .returned (.tuple #[i.val,.bool (D9 l).isSome])∧(∀j,D9 l=some j→i=j)∧Av [] w w'
theorem dm (x:ByteArray):(FX x).size≤5:=by
 unfold FX;split
 ·exact Nat.le_of_ble_eq_true rfl
 ·split
  ·exact Nat.le_of_ble_eq_true rfl
  ·unfold wd;have:∀a,a∈Mc→a.size≤5:=by decide
   rcases Nat.lt_or_ge (Bf Tp x).toNat Mc.length with h | h
   ·rw[List.getD_eq_getElem?_getD,List.getElem?_eq_getElem h];exact this _ (List.getElem_mem h)
   ·rw[List.getD_eq_getElem?_getD,List.getElem?_eq_none h];exact Nat.zero_le _
theorem QK {w w1:World} (h:Av [] w w1) {v0 v1 v2 v3 v4 v5 v6 v7 v8:Value}:Av [] w
  (((((((((w1.setCell ⟨w.heap.size,0,none⟩ v0).setCell ⟨w.heap.size,1,none⟩ v1).setCell ⟨w.heap.size,2,none⟩ v2).setCell ⟨w.heap.size,3,none⟩ v3).setCell ⟨w.heap.size,4,none⟩ v4).setCell
    ⟨w.heap.size,5,none⟩ v5).setCell ⟨w.heap.size,6,none⟩ v6).setCell ⟨w.heap.size,7,none⟩ v7).setCell ⟨w.heap.size,8,none⟩ v8):=by
 have l:∀o,(⟨w.heap.size,o,none⟩:Addr).block∈([]:List Nat)∨w.heap.size≤(⟨w.heap.size,o,none⟩:Addr).block:=fun _=> .inr (Nat.le_refl _)
 exact((((((((h.setCell (l 0) _).setCell (l 1) _).setCell (l 2) _).setCell (l 3) _).setCell (l 4) _).setCell (l 5) _).setCell (l 6) _).setCell (l 7) _).setCell (l 8) _
theorem ZY {α β:Type} {a c:α} {b d:β} (h:a=c) (k:b=d):(a,b)=(c,d):=by rw[h,k]
theorem BR.Va {w:World} {b:Nat} {c:Array Value} {T:TypeId} (h:BR w b c T) (i:Nat) (v:Value) {c':Array Value} (e:c.setIfInBounds i v=c'):BR (w.setCell ⟨b,i,none⟩ v) b c' T:=e▸h.set i v
theorem lM {w:World} {b:Nat} {T:TypeId} {a0 a1 a2 a3 a4 a5 a6 a7 a8:Value} (h:BR w b #[a0,a1,a2,a3,a4,a5,a6,a7,a8] T) {v0 v1 v2 v3 v4 v5 v6 v7 v8:Value}:
  BR (((((((((w.setCell ⟨b,0,none⟩ v0).setCell ⟨b,1,none⟩ v1).setCell ⟨b,2,none⟩ v2).setCell ⟨b,3,none⟩ v3).setCell ⟨b,4,none⟩ v4).setCell ⟨b,5,none⟩ v5).setCell ⟨b,6,none⟩ v6).setCell
    ⟨b,7,none⟩ v7).setCell ⟨b,8,none⟩ v8) b #[v0,v1,v2,v3,v4,v5,v6,v7,v8] T:=by
 have h0:=h.Va 0 v0 (c':= #[v0,a1,a2,a3,a4,a5,a6,a7,a8]) rfl;have h1:=h0.Va 1 v1 (c':= #[v0,v1,a2,a3,a4,a5,a6,a7,a8]) rfl;have h2:=h1.Va 2 v2 (c':= #[v0,v1,v2,a3,a4,a5,a6,a7,a8]) rfl;have h3:=h2.Va 3 v3 (c':= #[v0,v1,v2,v3,a4,a5,a6,a7,a8]) rfl;have h4:=h3.Va 4 v4 (c':= #[v0,v1,v2,v3,v4,a5,a6,a7,a8]) rfl;have h5:=h4.Va 5 v5 (c':= #[v0,v1,v2,v3,v4,v5,a6,a7,a8]) rfl;have h6:=h5.Va 6 v6 (c':= #[v0,v1,v2,v3,v4,v5,v6,a7,a8]) rfl;have h7:=h6.Va 7 v7 (c':= #[v0,v1,v2,v3,v4,v5,v6,v7,a8]) rfl;exact h7.Va 8 v8 (c':= #[v0,v1,v2,v3,v4,v5,v6,v7,v8]) rfl
theorem W2 (a:Act) (w:World) (rb:Nat) (i:Cm) (c:Bool) (h:BR w rb i.cells 101) (h2:a.tmps.getD 2 undef= .pointer (some ⟨rb,0,none⟩)) (h3:a.tmps.getD 3 undef= .bool c):
  (results Tryz.f62 a.tmps).run Tryz.prog w= .ok (.tuple #[i.val,.bool c]) w:=by
 have hc:=h.cell;unfold Cm.cells at hc;simp[Array.getD_eq_getD_getElem?] at h2 h3;simp[results,Tryz.results62,go_sem,hc,Cm.val,Cm.cells,h2,h3]
theorem QO (l:List ByteArray) (v:Value) (w:World) (ok:Nat→Prop) (hv:Sl w ok v (AY l)) (BQ:l≠[]) (hs:∀s,s∈l→s.size≤maxLen):
  Calls Tryz.prog 62 #[v] w (jy l w):=by
 have hlen:0 < l.length:=by cases l with | nil=>exact absurd rfl BQ | cons a r=>simp
 obtain⟨hm,⟨rfl,hn⟩ | ⟨b,off,cap,rfl,h1,h2,h3,h4,h5⟩⟩:=hv
 ·exact absurd (by cases l with | nil=>rfl | cons a r=>simp[AY] at hn) BQ
 rw[Cy] at hm h1⊢;unfold maxLen at hm h2;have c0:=Sl.Kl h5 0 hlen;simp only[Nat.add_zero] at c0;have H5:=hid (Sl.Kl h5);have HS:=hid (fun i=>GO hs i);have qe:=dm (wd l 0);have hD:D9 l=(if bs (FX (wd l 0))=[63]∨l.length≠1+(FX (wd l 0)).size then none else M7 (bs (FX (wd l 0))) l.tail (.of (wd l 0))):=rfl;clear h5 h3 hs BQ;generalize hX:wd l 0=x at*;have hF:=fun w=>iN x w
 unfold np at hF;generalize hFo:FX x=f at*;have HF:=hid hF;have HD:=hid hD;clear hF hFo hX hD;go_enter Tryz.func62,Tryz.ntmps62;go_wp2_with fail;refine(HF.out _).mono ?_;rintro e w1 ⟨rfl,C9⟩;have hR:BR w1 w.heap.size (Cm.of ByteArray.empty).cells 101:=((BR.new w (Cm.of ByteArray.empty).cells _).alloc _).Bh C9 (by simp);have hI:BR w1 (w.heap.size+1) (Cm.of x).cells 101:=by
  have:=(BR.new (w.alloc (.cells (Cm.of ByteArray.empty).cells 101)) (Cm.of x).cells 101).Bh C9 (by simp);rw[show(w.alloc (.cells (Cm.of ByteArray.empty).cells 101)).heap.size=w.heap.size+1 from Array.size_push _] at this;exact this
 have CY:Av [] w w1:=(((Av.refl [] w).alloc _).alloc _).trans C9 (by simp);have Bi:w.heap.size+1 < w1.heap.size:=hI.lt;have H5':Hid (∀i,i < l.length→w1.cell? ⟨b,off+i,none⟩=some (.string (wd l i))):=fun i hi=>BB CY (H5.out i hi)
 have HM:=hid CY;have cY:=hR.cell;have sG:=hR.free;have lu:=hI.cell;have iF:=hI.free;clear C9 CY HF;by_cases hq:bs f=[63]
 ·have yE:=BN hq;have HN:Hid (D9 l=none):=by rw[HD.out,if_pos (.inl hq)];rfl
  clear hq hR hI;unfold Cm.cells at cY lu;go_wp2;refine bodyPost_ret (v:= .tuple #[(Cm.of x).val,.bool false]) (by simp[results,Tryz.results62,go_sem,cY,Cm.val,Cm.cells]) rfl ⟨Cm.of x,by rw[HN.out];rfl,(fun j hj=>by rw[HN.out] at hj;cases hj),?_⟩;exact QK HM.out
 ·have yE:=Ar hq;by_cases rQ:l.length=1+f.size
  ·have zk:D9 l=M7 (bs f) l.tail (.of x):=by rw[HD.out,if_neg (by rintro(h | h);exact hq h;exact h rQ)]
   have zN:=hid zk;have Hlf:=hid rQ;have KP:((l.length:Int) !=1+(f.size:Int))=false:=by rw[Bool.eq_false_iff];intro h;rw[bne_iff_ne] at h;omega
   have ze:=hid hR;have zj:=hid hI;have mH:f.size+1≤l.length:=by omega
   clear hq zk rQ hR hI cY sG lu iF HD c0;go_wp2;go_loopw [6] (fun j wr=>∃(k:Nat) (i:Cm),k≤f.size∧j= .int .i64 k∧BR wr w.heap.size (Cm.of ByteArray.empty).cells 101∧BR wr (w.heap.size+1) i.cells 101∧Av [] w wr∧
     D9 l=M7 ((bs f).drop k) (l.tail.drop k) i) (fun j _=>f.size - (intOf j).toNat)
   case atStart=>exact⟨0,_,Nat.zero_le _,rfl,ze.out,zj.out,HM.out,zN.out⟩
   case round=>
    clear yE KP ze zj zN HM Bi H5';obtain⟨k,i,hk,rfl,hR,hI,NG,dZ⟩:=hrel;by_cases rW:k < f.size
    ·have oX:(bs f).drop k=f[k]::(bs f).drop (k+1):=List.drop_eq_getElem_cons (by rw[Bu];exact rW);have Dp:(l.tail.drop k).tail=l.tail.drop (k+1):=by rw[List.tail_drop]
     have yZ:wd (l.tail.drop k) 0=wd l (k+1):=by
      unfold wd;rw[List.getD_eq_getElem?_getD,List.getD_eq_getElem?_getD,List.getElem?_drop,List.getElem?_tail]
     rw[oX] at dZ;unfold M7 at dZ;rw[Dp,yZ] at dZ;have c1:wr.cell? ⟨b,off+(1+k),none⟩=some (.string (wd l (k+1))):=by rw[Nat.add_comm 1 k];exact BB NG (H5.out (k+1) (by omega))
     have hX:=HS.out (k+1);generalize wd l (k+1)=X at*;have hV:=fun w=>jX X w hX
     have hN:=fun w=>Jw X w hX
     have wj:=fun w=>Oc X w
     unfold pJ at hV;unfold J8 at hN;unfold Nu at wj;simp only[SQ.val] at hV;generalize yr:Ko (bs X)=va at*;generalize yG:number (bs X)=nu at*;generalize yy:Kt (bs X)=re at*;have mY:=hid yr;have ng:=hid yG;have nc:=hid yy;clear yr yG yy;have zC:=hid dZ;have HV:=hid hV;have zK:=hid hN;have jF:=hid wj;have HR:=hid hR;have HI:=hid hI;have ZL:=hid NG;have Ey:=Gp c1;clear oX Dp yZ dZ hX hV hN wj hR hI NG;go_wp2_with fail;refine(HV.out _).mono ?_;rintro e w2 ⟨rfl,CY⟩;have Gw:=hid (ZL.out.Ac CY);have ZN:=hid (HR.out.Bh CY (by simp));have aR:=hid (HI.out.Bh CY (by simp));have lu:=aR.out.cell;have iF:=aR.out.free;have cY:=ZN.out.cell;have sG:=ZN.out.free;have zi:=aR.out.lt;have za:=ZN.out.lt;unfold Cm.cells at lu cY;clear CY HR HI ZL HV;go_wp2_with fail;refine(zK.out _).mono ?_;rintro e w' ⟨rfl,rfl⟩
     go_upto_block 2 with(fail)
     go_cut [9,12,13] (fun o _ _ wz=>∃(j:Cm) (c:Bool),o= .bool c∧FO f[k] (bs X) i=(j,c)∧BR wz w.heap.size (Cm.of ByteArray.empty).cells 101∧BR wz (w.heap.size+1) j.cells 101∧Av [] w wz)
     case first=>
      clear cY sG za;by_cases hd:(f[k]).toNat=100
      ·have qd:(((f[k]).toNat:Int)==100)=true:=by rw[hd];rfl
       have HZ:=hid (show FO f[k] (bs X) i=_ by simp only[FO,if_pos hd,mY.out,ng.out,nc.out];exact rfl);clear hd;go_wp2_with (go_at_call 93;refine(jF.out _).mono ?_;rintro e w' ⟨rfl,rfl⟩)
       go_meet
       exact⟨_,_,rfl,HZ.out,((ZN.out).DW (Nat.ne_of_lt (Nat.lt_succ_self _)) _).alloc _,((aR.out).set 1 _).alloc _,((Gw.out).setCell (.inr (Nat.le_succ _)) _).alloc _⟩
      have qd:(((f[k]).toNat:Int)==100)=false:=by rw[beq_eq_false_iff_ne];omega
      by_cases ha:(f[k]).toNat=97
      ·have qa:(((f[k]).toNat:Int)==97)=true:=by rw[ha];rfl
       have HZ:=hid (show FO f[k] (bs X) i=_ by simp only[FO,if_neg hd,if_pos ha,mY.out,ng.out,nc.out];exact rfl);clear hd ha;go_wp2_with (go_at_call 93;refine(jF.out _).mono ?_;rintro e w' ⟨rfl,rfl⟩)
       go_meet
       exact⟨_,_,rfl,HZ.out,(((ZN.out).DW (Nat.ne_of_lt (Nat.lt_succ_self _)) _).DW (Nat.ne_of_lt (Nat.lt_succ_self _)) _).alloc _,(((aR.out).set 2 _).set 3 _).alloc _,(((Gw.out).setCell (.inr (Nat.le_succ _)) _).setCell (.inr (Nat.le_succ _)) _).alloc _⟩
      have qa:(((f[k]).toNat:Int)==97)=false:=by rw[beq_eq_false_iff_ne];omega
      by_cases hb:(f[k]).toNat=98
      ·have qb:(((f[k]).toNat:Int)==98)=true:=by rw[hb];rfl
       have HZ:=hid (show FO f[k] (bs X) i=_ by simp only[FO,if_neg hd,if_neg ha,if_pos hb,mY.out,ng.out,nc.out];exact rfl);clear hd ha hb;go_wp2_with (go_at_call 93;refine(jF.out _).mono ?_;rintro e w' ⟨rfl,rfl⟩)
       go_meet
       exact⟨_,_,rfl,HZ.out,(((ZN.out).DW (Nat.ne_of_lt (Nat.lt_succ_self _)) _).DW (Nat.ne_of_lt (Nat.lt_succ_self _)) _).alloc _,(((aR.out).set 4 _).set 5 _).alloc _,(((Gw.out).setCell (.inr (Nat.le_succ _)) _).setCell (.inr (Nat.le_succ _)) _).alloc _⟩
      have qb:(((f[k]).toNat:Int)==98)=false:=by rw[beq_eq_false_iff_ne];omega
      by_cases hc:(f[k]).toNat=99
      ·have qc:(((f[k]).toNat:Int)==99)=true:=by rw[hc];rfl
       have HZ:=hid (show FO f[k] (bs X) i=_ by simp only[FO,if_neg hd,if_neg ha,if_neg hb,if_pos hc,mY.out,ng.out,nc.out];exact rfl);clear hd ha hb hc;go_wp2_with (go_at_call 93;refine(jF.out _).mono ?_;rintro e w' ⟨rfl,rfl⟩)
       go_meet
       exact⟨_,_,rfl,HZ.out,(((ZN.out).DW (Nat.ne_of_lt (Nat.lt_succ_self _)) _).DW (Nat.ne_of_lt (Nat.lt_succ_self _)) _).alloc _,(((aR.out).set 6 _).set 7 _).alloc _,(((Gw.out).setCell (.inr (Nat.le_succ _)) _).setCell (.inr (Nat.le_succ _)) _).alloc _⟩
      have qc:(((f[k]).toNat:Int)==99)=false:=by rw[beq_eq_false_iff_ne];omega
      by_cases hk:(f[k]).toNat=107
      ·have qk:(((f[k]).toNat:Int)==107)=true:=by rw[hk];rfl
       have HZ:=hid (show FO f[k] (bs X) i=_ by simp only[FO,if_neg hd,if_neg ha,if_neg hb,if_neg hc,if_pos hk,mY.out,ng.out,nc.out];exact rfl);clear hd ha hb hc hk;go_wp2_with (go_at_call 93;refine(jF.out _).mono ?_;rintro e w' ⟨rfl,rfl⟩)
       go_meet
       exact⟨_,_,rfl,HZ.out,((ZN.out).DW (Nat.ne_of_lt (Nat.lt_succ_self _)) _).alloc _,((aR.out).set 8 _).alloc _,((Gw.out).setCell (.inr (Nat.le_succ _)) _).alloc _⟩
      have qk:(((f[k]).toNat:Int)==107)=false:=by rw[beq_eq_false_iff_ne];omega
      by_cases ht:(f[k]).toNat=116
      ·have qt:(((f[k]).toNat:Int)==116)=true:=by rw[ht];rfl
       have HZ:=hid (show FO f[k] (bs X) i=_ by simp only[FO,if_neg hd,if_neg ha,if_neg hb,if_neg hc,if_neg hk,if_pos ht,mY.out,ng.out,nc.out];exact rfl);clear hd ha hb hc hk ht;cases nu with
       | none=>
        go_wp2_with (go_at_call 93;refine(jF.out _).mono ?_;rintro e w' ⟨rfl,rfl⟩)
        go_meet
        exact⟨_,_,rfl,HZ.out,((ZN.out).DW (Nat.ne_of_lt (Nat.lt_succ_self _)) _).alloc _,((aR.out).set 8 _).alloc _,((Gw.out).setCell (.inr (Nat.le_succ _)) _).alloc _⟩
       | some r=>
        by_cases Y2:0≤r <;>by_cases vx:r≤4000;all_goals try (exfalso;omega)
        all_goals
         go_wp2_with (go_at_call 93;refine(jF.out _).mono ?_;rintro e w' ⟨rfl,rfl⟩)
         go_meet
         refine⟨_,_,rfl,HZ.out.trans (ZY rfl ?_),((ZN.out).DW (Nat.ne_of_lt (Nat.lt_succ_self _)) _).alloc _,((aR.out).set 8 _).alloc _,((Gw.out).setCell (.inr (Nat.le_succ _)) _).alloc _⟩;simp[*]
      have qt:(((f[k]).toNat:Int)==116)=false:=by rw[beq_eq_false_iff_ne];omega
      by_cases hn:(f[k]).toNat=110
      ·have qn:(((f[k]).toNat:Int)==110)=true:=by rw[hn];rfl
       have HZ:=hid (show FO f[k] (bs X) i=_ by simp only[FO,if_neg hd,if_neg ha,if_neg hb,if_neg hc,if_neg hk,if_neg ht,if_pos hn,mY.out,ng.out,nc.out];exact rfl);clear hd ha hb hc hk ht hn;cases nu with
       | none=>
        go_wp2_with (go_at_call 93;refine(jF.out _).mono ?_;rintro e w' ⟨rfl,rfl⟩)
        go_meet
        exact⟨_,_,rfl,HZ.out,((ZN.out).DW (Nat.ne_of_lt (Nat.lt_succ_self _)) _).alloc _,((aR.out).set 8 _).alloc _,((Gw.out).setCell (.inr (Nat.le_succ _)) _).alloc _⟩
       | some r=>
        by_cases Y2:1≤r <;>by_cases vx:r≤9;all_goals try (exfalso;omega)
        all_goals
         go_wp2_with (go_at_call 93;refine(jF.out _).mono ?_;rintro e w' ⟨rfl,rfl⟩)
         go_meet
         refine⟨_,_,rfl,HZ.out.trans (ZY rfl ?_),((ZN.out).DW (Nat.ne_of_lt (Nat.lt_succ_self _)) _).alloc _,((aR.out).set 8 _).alloc _,((Gw.out).setCell (.inr (Nat.le_succ _)) _).alloc _⟩;simp[*]
      have qn:(((f[k]).toNat:Int)==110)=false:=by rw[beq_eq_false_iff_ne];omega
      have HZ:=hid (show FO f[k] (bs X) i=_ by simp only[FO,if_neg hd,if_neg ha,if_neg hb,if_neg hc,if_neg hk,if_neg ht,if_neg hn,mY.out,ng.out,nc.out];exact rfl);clear hd ha hb hc hk ht hn;go_wp2_with (go_at_call 93;refine(jF.out _).mono ?_;rintro e w' ⟨rfl,rfl⟩)
      go_meet
      exact⟨_,_,rfl,HZ.out,ZN.out.alloc _,aR.out.alloc _,Gw.out.alloc _⟩
     case rest=>
      obtain⟨j,c,rfl,hj,hR,hI,NG⟩:=hcut;have hg:=zC.out;rw[hj] at hg;have HR:=hid hR;have HI:=hid hI;have HM:=hid NG;have Hg:=hid hg;have lu:=hI.cell;have iF:=hI.free;have cY:=hR.cell;have sG:=hR.free;have zi:=hI.lt;have za:=hR.lt;unfold Cm.cells at lu cY;clear hR hI NG hg hj aR ZN Gw jF zC zK;cases c
      ·have HB:Hid (D9 l=none):=Hg.out;go_wp2;exact bodyPost_ret (W2 _ _ w.heap.size j false (lM HR.out) rfl rfl) rfl ⟨j,by rw[HB.out];rfl,(fun i hj=>by rw[HB.out] at hj;cases hj),QK HM.out⟩
      ·go_wp2;go_roundw;case rel=>exact⟨k+1,j,by omega,by go_num,HR.out,HI.out,HM.out,Hg.out⟩
       case measure=>simp[intOf];omega
    ·have hE:D9 l=some i:=by rw[dZ,List.drop_of_length_le (by rw[Bu];omega)];rfl
     have HE:=hid hE;have lu:=hI.cell;have iF:=hI.free;have cY:=hR.cell;have sG:=hR.free;have zi:=hI.lt;have HM:=hid NG;unfold Cm.cells at lu cY;clear dZ hE hR hI NG;go_wp2;refine bodyPost_ret (v:= .tuple #[i.val,.bool true]) (by simp[results,Tryz.results62,go_sem,cY,Cm.val,Cm.cells]) rfl ⟨i,by rw[HE.out];rfl,(fun j hj=>by rw[HE.out] at hj;cases hj;rfl),?_⟩;exact QK HM.out
  ·have HN:Hid (D9 l=none):=by rw[HD.out,if_pos (.inr rQ)];rfl
   have KP:((l.length:Int) !=1+(f.size:Int))=true:=by rw[bne_iff_ne];omega
   clear hq rQ hR hI;unfold Cm.cells at cY lu;go_wp2;refine bodyPost_ret (v:= .tuple #[(Cm.of x).val,.bool false]) (by simp[results,Tryz.results62,go_sem,cY,Cm.val,Cm.cells]) rfl ⟨Cm.of x,by rw[HN.out];rfl,(fun j hj=>by rw[HN.out] at hj;cases hj),?_⟩;exact QK HM.out
end Go.Proofs.YtpdfifdlhpmofaaGreatDoor
