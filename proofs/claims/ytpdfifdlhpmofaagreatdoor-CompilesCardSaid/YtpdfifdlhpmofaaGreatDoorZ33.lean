/-
  Part 33 of the proof, packed by program out of W9, W10, W11, W12, W13.
-/
import Derived.Test.YtpdfifdlhpmofaaGreatDoorZ32
import Derived.Deep.RegionLaw
import Derived.Test.YtpdfifdlhpmofaaGreatDoorZ06
import Derived.Test.YtpdfifdlhpmofaaGreatDoorZ12
set_option linter.unusedVariables false
set_option linter.unusedSimpArgs false
set_option maxHeartbeats 3200000
set_option maxRecDepth 100000
namespace Go.Proofs.YtpdfifdlhpmofaaGreatDoor
open Go.RowKit
open Go.Lib (hid)
def VZ.new:VZ:=⟨[],0,List.replicate 8 0,[],[],0⟩
def Oa (M:EW) (l:List ByteArray):Except Int EW:=
 if l.length=1∧bs (wd l 0)=AE then (if M.ts.length=3 then .error 5 else .ok {M with ts:=M.ts++[.new]})
 else match D9 l with
  | none=> .error 2
  | some i=>match M.ts.getLast? with
   | none=> .error 3
   | some t=>if t.Af.length=4000 then .error 5 else .ok {M with ts:=M.ts.dropLast++[{t with Af:=t.Af++[i]}]}
def TD (r:Except Int EW) (mb:Nat) (F:List Nat) (w:World) (e:Ending) (w':World):Prop:=
 match r with
 | .error c=>e= .returned (.int .i64 c)∧Av [] w w'
 | .ok M'=>e= .returned (.int .i64 0)∧∃mv' tv' xs',EE w' mb mv' tv' xs' M'∧Av F w w'∧∀b,b∈BJ mb mv' tv' xs'→b∈F∨w.heap.size≤b
theorem z7 (w:World):(Instr.makeSlice 31 (.int .i64 8) (.int .i64 8)).run Tryz.prog w= .ok (.slice (some ⟨w.heap.size,0,none⟩) 8 8) (w.alloc (.cells #[.int .i64 0,.int .i64 0,.int .i64 0,.int .i64 0,.int .i64 0,.int .i64 0,.int .i64 0,.int .i64 0] 2)):=by kernel_rfl
theorem ZE (w:World) (A B C:Obj):(((w.alloc A).alloc B).alloc C).drew.heap[w.heap.size+2]?=some C:=by
 show(((w.heap.push A).push B).push C)[w.heap.size+2]?=_;have h:((w.heap.push A).push B).size=w.heap.size+2:=by simp
 rw[←h,Array.getElem?_push_size]
theorem Mm (w:World) (A B C:Obj):(((w.alloc A).alloc B).alloc C).drew.heap.size=w.heap.size+3:=by
 show(((w.heap.push A).push B).push C).size=_;simp
theorem Rq {w w1:World} {mb:Nat} {mv:Value} {p:Option Addr} {Ml:Nat} {xs:List TV} {M:EW} {g2 VT:Nat} {C1:Array Value} {T1:TypeId}
  (uw:∀b,b∈BJ mb mv (.slice p xs.length Ml) xs→b < w.heap.size)
  (HB:BR w mb #[mv,.slice p xs.length Ml] 34) (uu:w.ownsRow 0 2 1 mv M.mem.length (cB M.mem)) (uq:w.ownsRow 0 69 1 (.slice p xs.length Ml) xs.length (xs.map TV.ptr))
  (sY:xs.length=M.ts.length) (pM:∀p,p∈xs.zip M.ts→Ni w p.1 p.2) (MS:(BJ mb mv (.slice p xs.length Ml) xs).Nodup)
  (CN:w1.ownsRow 0 69 1 (.slice (some ⟨g2,0,none⟩) (xs.length+1) VT) (xs.length+1) (xs.map TV.ptr++[.pointer (some ⟨w.heap.size+1,0,none⟩)]))
  (Eb:(((w.alloc (.cells #[.int .i64 0,.int .i64 0,.int .i64 0,.int .i64 0,.int .i64 0,.int .i64 0,.int .i64 0,.int .i64 0] 2)).alloc (.cells #[.slice none 0 0,.int .i64 0,.slice (some ⟨w.heap.size,0,none⟩) 8 8,.slice none 0 0,.slice none 0 0,.int .i64 0] 68)).alloc (.cells C1 T1)).drew.grownBy w1 (Value.slice p xs.length Ml).ownBlock)
  (Fh:(Value.slice p xs.length Ml).ownBlock=some g2∨g2=w.heap.size+3):
  TD (.ok {M with ts:=M.ts++[.new]}) mb (BJ mb mv (.slice p xs.length Ml) xs) w (.returned (.int .i64 0)) (w1.setCell ⟨mb,1,none⟩ (.slice (some ⟨g2,0,none⟩) (xs.length+1) VT)):=by
 have GK:∀b,b∈BJ mb mv (.slice p xs.length Ml) xs→b < w.heap.size:=uw;generalize L2:(Value.slice p xs.length Ml)=tv at*;have V6:=(((((Av.refl tv.ownBlock.toList w).alloc (.cells #[.int .i64 0,.int .i64 0,.int .i64 0,.int .i64 0,.int .i64 0,.int .i64 0,.int .i64 0,.int .i64 0] 2)).alloc (.cells #[.slice none 0 0,.int .i64 0,.slice (some ⟨w.heap.size,0,none⟩) 8 8,.slice none 0 0,.slice none 0 0,.int .i64 0] 68)).alloc (.cells C1 T1)).drew).grown Eb (fun k hk=> .inl (FI hk));have rO:mb∉tv.ownBlock.toList:=fun h=>by
  rw[BJ,List.nodup_cons] at MS;exact MS.1 (List.mem_append_right _ (List.mem_append_left _ h))
 have MY:=HB.lt;have C9:Av (mb::tv.ownBlock.toList) w (w1.setCell ⟨mb,1,none⟩ (.slice (some ⟨g2,0,none⟩) (xs.length+1) VT)):=
  (V6.mono (N:=mb::tv.ownBlock.toList) fun x hx=> .inl (List.mem_cons_of_mem _ hx)).setCell (p:=⟨mb,1,none⟩) (.inl (List.mem_cons_self ..)) _
 have JX:(w.alloc (.cells #[.int .i64 0,.int .i64 0,.int .i64 0,.int .i64 0,.int .i64 0,.int .i64 0,.int .i64 0,.int .i64 0] 2)).heap.size=w.heap.size+1:=Array.size_push _;have hold:∀g,tv.ownBlock=some g→g < w.heap.size:=fun g hg=>GK g (by simp[BJ,hg])
 have ln:g2≠mb:=by
  rcases Fh with h | h
  ·rintro rfl;exact rO (FI h)
  ·omega
 have hk:=(Av.refl tv.ownBlock.toList _).grown Eb (fun k hk=> .inl (FI hk));have b1:=((BR.new (w.alloc (.cells #[.int .i64 0,.int .i64 0,.int .i64 0,.int .i64 0,.int .i64 0,.int .i64 0,.int .i64 0,.int .i64 0] 2)) #[.slice none 0 0,.int .i64 0,.slice (some ⟨w.heap.size,0,none⟩) 8 8,.slice none 0 0,.slice none 0 0,.int .i64 0] 68).alloc (.cells C1 T1)).drew;have b0:=(((BR.new w #[.int .i64 0,.int .i64 0,.int .i64 0,.int .i64 0,.int .i64 0,.int .i64 0,.int .i64 0,.int .i64 0] 2).alloc (.cells #[.slice none 0 0,.int .i64 0,.slice (some ⟨w.heap.size,0,none⟩) 8 8,.slice none 0 0,.slice none 0 0,.int .i64 0] 68)).alloc (.cells C1 T1)).drew;rw[JX] at b1;have Kc:w.heap.size+1∉tv.ownBlock.toList:=fun h=>by have:=hold _ (Option.mem_toList.1 h);omega
 have Gb:w.heap.size∉tv.ownBlock.toList:=fun h=>by have:=hold _ (Option.mem_toList.1 h);omega
 have c1:=(b1.Bh hk Kc).DW (p:=⟨mb,1,none⟩) (by show w.heap.size+1≠mb;omega) (.slice (some ⟨g2,0,none⟩) (xs.length+1) VT);have c0:=(b0.Bh hk Gb).DW (p:=⟨mb,1,none⟩) (by show w.heap.size≠mb;omega) (.slice (some ⟨g2,0,none⟩) (xs.length+1) VT);refine⟨rfl,mv,.slice (some ⟨g2,0,none⟩) (xs.length+1) VT,xs++[⟨w.heap.size+1,.slice none 0 0,.slice (some ⟨w.heap.size,0,none⟩) 8 8,.slice none 0 0,.slice none 0 0⟩],⟨?_,?_,?_,?_,?_,?_⟩,?_,?_⟩
 ·exact(HB.Bh V6 rO).set 1 _
 ·refine B5 uu C9 fun g hg hx=> ?_
  have yT:g∈mv.ownBlock.toList:=FI hg;rw[BJ,List.nodup_cons,List.nodup_append] at MS;rcases List.mem_cons.1 hx with rfl | hx
  ·exact MS.1 (List.mem_append_left _ yT)
  ·exact MS.2.2.2 g yT g (List.mem_append_left _ hx) rfl
 ·rw[List.length_append,List.map_append];exact PQ CN (p:=⟨mb,1,none⟩) (fun h=>ln (Option.some.inj h)) _
 ·simp[sY]
 ·intro q hq;rw[List.zip_append sY] at hq;rcases List.mem_append.1 hq with hq | hq
  ·refine(pM q hq).Bh C9 fun b hb hx=> ?_
   have IJ:b∈xs.flatMap TV.fp:=List.mem_flatMap.2 ⟨q.1,(List.of_mem_zip (a:=q.1) (b:=q.2) hq).1,hb⟩;rw[BJ,List.nodup_cons,List.nodup_append,List.nodup_append] at MS;rcases List.mem_cons.1 hx with rfl | hx
   ·exact MS.1 (List.mem_append_right _ (List.mem_append_right _ IJ))
   ·exact MS.2.2.1.2.2 b hx b IJ rfl
  ·obtain rfl:q=_:=by simpa using hq
   exact⟨c1,Db _ _ _ _,⟨rfl,.inr ⟨w.heap.size,8,_,rfl,Nat.zero_le _,c0,Nat.le_refl _,by unfold maxLen;omega,rfl,rfl⟩⟩,Db _ _ _ _,Db _ _ _ _⟩
 ·have e:BJ mb mv (.slice (some ⟨g2,0,none⟩) (xs.length+1) VT) (xs++[⟨w.heap.size+1,.slice none 0 0,.slice (some ⟨w.heap.size,0,none⟩) 8 8,.slice none 0 0,.slice none 0 0⟩])=
    mb::(mv.ownBlock.toList++(g2::(xs.flatMap TV.fp++[w.heap.size+1,w.heap.size]))):=by
   simp[BJ,TV.fp,Value.ownBlock]
  rw[e];have hlA:∀b,b∈mv.ownBlock.toList→b < w.heap.size:=fun b hb=>GK b (List.mem_cons_of_mem _ (List.mem_append_left _ hb))
  have hlC:∀b,b∈xs.flatMap TV.fp→b < w.heap.size:=fun b hb=>GK b (List.mem_cons_of_mem _ (List.mem_append_right _ (List.mem_append_right _ hb)))
  have hgA:g2∉mv.ownBlock.toList:=fun h=>by
   rcases Fh with h1 | h1
   ·rw[BJ,List.nodup_cons,List.nodup_append] at MS;exact MS.2.2.2 g2 h g2 (List.mem_append_left _ (FI h1)) rfl
   ·have:=hlA _ h;omega
  have hgC:g2∉xs.flatMap TV.fp:=fun h=>by
   rcases Fh with h1 | h1
   ·rw[BJ,List.nodup_cons,List.nodup_append,List.nodup_append] at MS;exact MS.2.2.1.2.2 g2 (FI h1) g2 h rfl
   ·have:=hlC _ h;omega
  have r4:g2 < w.heap.size∨g2=w.heap.size+3:=by
   rcases Fh with h1 | h1
   ·exact .inl (hold _ h1)
   ·exact .inr h1
  rw[BJ,List.nodup_cons,List.nodup_append,List.nodup_append] at MS;obtain⟨n1,n2,⟨n3,n4,n5⟩,n6⟩:=MS;generalize mv.ownBlock.toList=A at*;generalize xs.flatMap TV.fp=C at*;simp only[List.nodup_cons,List.nodup_append,List.mem_append,List.mem_cons,List.not_mem_nil] at n1⊢;grind
 ·exact C9.mono fun x hx=> .inl (by
     rcases List.mem_cons.1 hx with rfl | hx
     · simp[BJ]
     · rw[BJ];exact List.mem_cons_of_mem _ (List.mem_append_right _ (List.mem_append_left _ hx)))
 ·intro b hb;have e:BJ mb mv (.slice (some ⟨g2,0,none⟩) (xs.length+1) VT) (xs++[⟨w.heap.size+1,.slice none 0 0,.slice (some ⟨w.heap.size,0,none⟩) 8 8,.slice none 0 0,.slice none 0 0⟩])=
    mb::(mv.ownBlock.toList++(g2::(xs.flatMap TV.fp++[w.heap.size+1,w.heap.size]))):=by
   simp[BJ,TV.fp,Value.ownBlock]
  rw[e] at hb;simp only[BJ,List.mem_cons,List.mem_append,List.not_mem_nil] at hb⊢;rcases hb with h | h | h | h | h | h | h
  ·exact .inl (.inl h)
  ·exact .inl (.inr (.inl h))
  ·subst h;rcases Fh with h1 | h1
   ·exact .inl (.inr (.inr (.inl (FI h1))))
   ·exact .inr (by omega)
  ·exact .inl (.inr (.inr (.inr h)))
  ·exact .inr (by omega)
  ·exact .inr (by omega)
  ·exact h.elim
theorem Yu (l:List ByteArray) (v:Value) (w:World) (mb:Nat) (mv tv:Value) (xs:List TV) (M:EW) (hM:EE w mb mv tv xs M) (ok:Nat→Prop) (hv:Sl w ok v (AY l)) (h1:l.length=1) (ht:bs (wd l 0)=AE) (h3:M.ts.length < 3):
  Calls Tryz.prog 39 #[.pointer (some ⟨mb,0,none⟩),v] w (TD (.ok {M with ts:=M.ts++[.new]}) mb (BJ mb mv tv xs) w):=by
 obtain⟨i0,hi,I9,EK,JW⟩:=info_parts gq;have Bi:=hM.lt;obtain⟨hB,Y6,L2,Et,M8,GH⟩:=hM;obtain⟨hm,⟨rfl,hn⟩ | ⟨b,off,cap,rfl,g1,g2,g3,g4,g5⟩⟩:=hv
 ·exact absurd (show l.length=0 by rw[←Cy,hn];rfl) (by omega)
 rw[Cy,h1] at hm g1⊢;have c0:=Sl.Kl g5 0 (by omega);simp only[Nat.add_zero] at c0;have hq:=BN ht;unfold AE at hq;have Ze:=hB.cell;have qj:=hB.free;have gT:=hB.lt;have Kc:((xs.length:Int)==3)=false:=by rw[beq_eq_false_iff_ne];omega
 have JA:xs.length < 3:=by omega
 obtain⟨p,Ml,rfl⟩:∃p c,tv= .slice p xs.length c:=by
  rcases L2.2 with⟨rfl,h⟩ | ⟨g,c,cur,rfl,_⟩
  ·exact⟨none,0,by rw[h]⟩
  ·exact⟨_,_,rfl⟩
 have HB:=hid hB;have uu:=hid Y6;have uq:=hid L2;have sY:=hid Et;have pM:=hid M8;have MS:=hid GH;have uw:=hid Bi;clear hB Y6 L2 Et M8 GH g5 g3 hm g1 g2 h1 ht h3 Bi;have jL:=z7;have zB:=hid jL;go_enter Tryz.func39,Tryz.ntmps39;go_wp2_with fail;have hS1:w.cell? ⟨mb,1,none⟩=some (.slice p xs.length Ml):=Ze 1;have hS2:=qj 1;have BQ:some mb≠(Value.slice p xs.length Ml).ownBlock:=by
  intro h;have:=MS.out;rw[BJ,List.nodup_cons] at this;exact this.1 (by simp[←h])
 have KM:=hid BQ;have tt:=hid gT;have yK:mb < w.heap.size+1:=by omega
 have yJ:mb < w.heap.size+1+1:=by omega
 have yI:mb < w.heap.size+2:=by omega
 clear Ze qj c0 BQ
 go_region_law
  ((refine step_append_lies _ (by rfl) _ _ _ (by rfl) 0 69 i0 _ 1 8 Tryz.underlying32 hi I9 EK JW rfl (by omega) (.slice p xs.length Ml) xs.length (xs.map TV.ptr) (by rfl)
      (I2 (DJ (DJ (DJ uq.out _) _) _))
      ⟨w.heap.size+2,0,none⟩ 1 1 [.pointer (some ⟨w.heap.size+1,0,none⟩)] (by rfl) (by rfl) (World.news_of_block (cs:= #[.pointer (some ⟨w.heap.size+1,0,none⟩)]) (t:=69) (fr:=(0,0)) (ZE w _ _ _)) (by simp[Value.oneCell'])
      (by omega) (by unfold maxLen;omega) (by omega) (Nat.zero_le _) (w.heap.size+3) (Mm w _ _ _) ?_;intro g2 VT w1 gO Eb Fh Y7
    have Qa:w1.frozen? ⟨mb,1,none⟩=false:=by
      rw[Eb.frozen_far _ (by rw[Mm];exact Nat.lt_of_lt_of_le tt.out (Nat.le_add_right _ 3)) KM.out];exact((((HB.out.alloc _).alloc _).alloc _).free 1)
    have LC:w1.cell? ⟨mb,1,none⟩=some (.slice p xs.length Ml):=by
      rw[Eb.cell_far _ (by rw[Mm];exact Nat.lt_of_lt_of_le tt.out (Nat.le_add_right _ 3)) KM.out];exact((((HB.out.alloc _).alloc _).alloc _).cell 1)))
 all_goals
  go_wp2;go_ret;exact Rq uw.out HB.out uu.out uq.out sY.out pM.out MS.out ‹_› ‹_› ‹_›
theorem SO (w:World) (A B:Obj):((w.alloc A).alloc B).drew.heap[w.heap.size+1]?=some B:=by
 show((w.heap.push A).push B)[w.heap.size+1]?=_;have h:(w.heap.push A).size=w.heap.size+1:=by simp
 rw[←h,Array.getElem?_push_size]
theorem QJ {mb:Nat} {mv tv:Value} {xs:List TV} {x:TV} (h:(BJ mb mv tv (xs++[x])).Nodup):
  (∀g,tv.ownBlock=some g→mb≠g∧∀b,b∈x.fp→g≠b)∧(∀b,b∈x.fp→mb≠b)∧x.fp.Nodup:=by
 have hx:∀b,b∈x.fp→b∈(xs++[x]).flatMap TV.fp:=fun b hb=>List.mem_flatMap.2 ⟨x,by simp,hb⟩
 rw[BJ,List.nodup_cons,List.nodup_append,List.nodup_append] at h;obtain⟨h1,h2,⟨h3,h4,h5⟩,h6⟩:=h;refine⟨fun g hg=>⟨?_,fun b hb=>h5 g (FI hg) b (hx b hb)⟩,fun b hb=> ?_,?_⟩
 ·rintro rfl;exact h1 (List.mem_append_right _ (List.mem_append_left _ (FI hg)))
 ·rintro rfl;exact h1 (List.mem_append_right _ (List.mem_append_right _ (hx _ hb)))
 ·rw[List.flatMap_append,List.nodup_append] at h4;simpa using h4.2.1
theorem Wv {w w1 w6:World} {mb:Nat} {mv tv:Value} {xs:List TV} {x:TV} {M:EW} {ts:List VZ} {t:VZ} {i:Cm} {g6 Bb:Nat} {A B:Obj}
  (hM:EE w mb mv tv (xs++[x]) M) (M8:M.ts=ts++[t]) (C9:Av [] w w1)
  (CN:w6.ownsRow 0 101 9 (.slice (some ⟨g6,0,none⟩) (t.Af.length+1) Bb) (t.Af.length+1) (KG t.Af++i.cells.toList))
  (Eb:((w1.alloc A).alloc B).drew.grownBy w6 x.cv.ownBlock) (Fh:x.cv.ownBlock=some g6∨g6=w1.heap.size+2):
  TD (.ok {M with ts:=ts++[{t with Af:=t.Af++[i]}]}) mb (BJ mb mv tv (xs++[x])) w (.returned (.int .i64 0)) (w6.setCell ⟨x.tb,0,none⟩ (.slice (some ⟨g6,0,none⟩) (t.Af.length+1) Bb)):=by
 have GK:=hM.lt;obtain⟨hB,Y6,L2,Et,Tt,GH⟩:=hM;have nT:xs.length=ts.length:=by rw[M8] at Et;simpa using Et
 have hz:(xs++[x]).zip M.ts=xs.zip ts++[(x,t)]:=by rw[M8,List.zip_append nT];rfl
 obtain⟨x1,x2,x3,x4,x5⟩:Ni w x t:=Tt (x,t) (by rw[hz];simp);have dX:Av x.cv.ownBlock.toList w w6:=((((C9.nil (M:=x.cv.ownBlock.toList)).alloc A).alloc B).drew).grown Eb (fun k hk=> .inl (FI hk));have mF:Av (x.tb::x.cv.ownBlock.toList) w (w6.setCell ⟨x.tb,0,none⟩ (.slice (some ⟨g6,0,none⟩) (t.Af.length+1) Bb)):=
  (dX.mono (N:=x.tb::x.cv.ownBlock.toList) fun y hy=> .inl (List.mem_cons_of_mem _ hy)).setCell (p:=⟨x.tb,0,none⟩) (.inl (List.mem_cons_self ..)) _
 have hf:∀b,b∈x.tb::x.cv.ownBlock.toList→b∈x.fp:=fun b hb=>by
  rcases List.mem_cons.1 hb with rfl | hb
  ·simp[TV.fp]
  ·simp[TV.fp,Option.mem_toList.1 hb]
 have hl:∀g,x.cv.ownBlock=some g→g < w.heap.size:=fun g hg=>(Dm x2 hg).2
 have V7:=C9.size;refine⟨rfl,mv,tv,xs++[{x with cv:= .slice (some ⟨g6,0,none⟩) (t.Af.length+1) Bb}],⟨?_,?_,?_,?_,?_,?_⟩,?_,?_⟩
 ·exact hB.Bh mF fun h=>(QJ GH).2.1 mb (hf mb h) rfl
 ·refine B5 Y6 mF fun g hg hx=> ?_
  have h1:g∈mv.ownBlock.toList:=FI hg;have h2:g∈(xs++[x]).flatMap TV.fp:=List.mem_flatMap.2 ⟨x,by simp,hf g hx⟩;rw[BJ,List.nodup_cons,List.nodup_append] at GH;exact GH.2.2.2 g h1 g (List.mem_append_right _ h2) rfl
 ·have:=B5 L2 mF fun g hg hx=>((QJ GH).1 g hg).2 g (hf g hx) rfl
  simpa[TV.ptr] using this
 ·simpa using nT
 ·intro q hq;rw[List.zip_append nT] at hq;rcases List.mem_append.1 hq with hq | hq
  ·refine(Tt q (by rw[hz];exact List.mem_append_left _ hq)).Bh mF fun b hb hx=> ?_
   have h1:b∈xs.flatMap TV.fp:=List.mem_flatMap.2 ⟨q.1,(List.of_mem_zip (a:=q.1) (b:=q.2) hq).1,hb⟩;rw[BJ,List.nodup_cons,List.nodup_append,List.nodup_append,List.flatMap_append,List.nodup_append] at GH;exact GH.2.2.1.2.1.2.2 b h1 b (by simpa using hf b hx) rfl
  ·obtain rfl:q=_:=by simpa using hq
   have iq:=(QJ GH).2.2;rw[TV.fp,List.nodup_cons,List.nodup_append] at iq;have hr:∀b,b∈x.rv.ownBlock.toList++(x.wv.ownBlock.toList++x.ov.ownBlock.toList)→b∉x.tb::x.cv.ownBlock.toList:=fun b hb hx=>by
    rcases List.mem_cons.1 hx with rfl | hx
    ·exact iq.1 (List.mem_append_right _ hb)
    ·exact iq.2.2.2 b hx b hb rfl
   have hg6:g6≠x.tb:=by
    rcases Fh with h | h
    ·rintro rfl;exact iq.1 (List.mem_append_left _ (FI h))
    ·have:=x1.lt;omega
   refine⟨(x1.Bh dX fun h=>iq.1 (List.mem_append_left _ h)).set 0 _,?_,B5 x3 mF fun g hg=>hr g (by simp[hg]),B5 x4 mF fun g hg=>hr g (by simp[hg]),B5 x5 mF fun g hg=>hr g (by simp[hg])⟩;have:=PQ CN (p:=⟨x.tb,0,none⟩) (fun h=>hg6 (Option.some.inj h)) (.slice (some ⟨g6,0,none⟩) (t.Af.length+1) Bb);simpa[KG] using this
 ·have e1:BJ mb mv tv (xs++[x])=(mb::(mv.ownBlock.toList++(tv.ownBlock.toList++(xs.flatMap TV.fp++[x.tb]))))++(x.cv.ownBlock.toList++(x.rv.ownBlock.toList++(x.wv.ownBlock.toList++x.ov.ownBlock.toList))):=by
   simp[BJ,TV.fp]
  have e2:BJ mb mv tv (xs++[{x with cv:= .slice (some ⟨g6,0,none⟩) (t.Af.length+1) Bb}])=(mb::(mv.ownBlock.toList++(tv.ownBlock.toList++(xs.flatMap TV.fp++[x.tb]))))++(g6::(x.rv.ownBlock.toList++(x.wv.ownBlock.toList++x.ov.ownBlock.toList))):=by
   simp[BJ,TV.fp,Value.ownBlock]
  rw[e2];rw[e1] at GH GK;rcases Fh with h | h
  ·rw[h] at GH;exact GH
  ·rw[List.perm_middle.nodup_iff,List.nodup_cons];refine⟨fun hx=> ?_,GH.sublist (List.Sublist.append (List.Sublist.refl _) (List.sublist_append_right _ _))⟩;have:g6 < w.heap.size:=GK g6 (by
     rcases List.mem_append.1 hx with hx | hx
     · exact List.mem_append_left _ hx
     · exact List.mem_append_right _ (List.mem_append_right _ hx))
   omega
 ·exact mF.mono fun y hy=> .inl (by
     have:=hf y hy;rw[BJ];exact List.mem_cons_of_mem _ (List.mem_append_right _ (List.mem_append_right _ (List.mem_flatMap.2 ⟨x,by simp,this⟩))))
 ·intro b hb;have e2:BJ mb mv tv (xs++[{x with cv:= .slice (some ⟨g6,0,none⟩) (t.Af.length+1) Bb}])=(mb::(mv.ownBlock.toList++(tv.ownBlock.toList++(xs.flatMap TV.fp++[x.tb]))))++(g6::(x.rv.ownBlock.toList++(x.wv.ownBlock.toList++x.ov.ownBlock.toList))):=by
   simp[BJ,TV.fp,Value.ownBlock]
  have e1:BJ mb mv tv (xs++[x])=(mb::(mv.ownBlock.toList++(tv.ownBlock.toList++(xs.flatMap TV.fp++[x.tb]))))++(x.cv.ownBlock.toList++(x.rv.ownBlock.toList++(x.wv.ownBlock.toList++x.ov.ownBlock.toList))):=by
   simp[BJ,TV.fp]
  rw[e2] at hb;rw[e1];rcases List.mem_append.1 hb with hb | hb
  ·exact .inl (List.mem_append_left _ hb)
  ·rcases List.mem_cons.1 hb with rfl | hb
   ·rcases Fh with h | h
    ·exact .inl (List.mem_append_right _ (List.mem_append_left _ (FI h)))
    ·exact .inr (by omega)
   ·exact .inl (List.mem_append_right _ (List.mem_append_right _ hb))
theorem kz (l:List ByteArray) (v:Value) (w:World) (mb:Nat) (mv tv:Value) (xs:List TV) (x:TV) (M:EW) (ts:List VZ) (t:VZ) (i:Cm) (hM:EE w mb mv tv (xs++[x]) M) (M8:M.ts=ts++[t]) (ok:Nat→Prop) (hv:Sl w ok v (AY l))
  (BQ:l≠[]) (hs:∀s,s∈l→s.size≤maxLen) (Xb:¬(l.length=1∧bs (wd l 0)=AE)) (hi:D9 l=some i) (hc:t.Af.length < 4000) (uS:xs.length < 3):
  Calls Tryz.prog 39 #[.pointer (some ⟨mb,0,none⟩),v] w (TD (.ok {M with ts:=ts++[{t with Af:=t.Af++[i]}]}) mb (BJ mb mv tv (xs++[x])) w):=by
 have Gr:=fun w hv=>QO l v w ok hv BQ hs
 unfold jy at Gr;simp only[Cm.val,Cm.cells] at Gr;obtain⟨j0,hj,I9,EK,JW⟩:=info_parts gw;have HMm:=hid hM;have Bi:=hM.lt;have Gb:=QJ hM.2.2.2.2.2;obtain⟨hB,Y6,L2,Et,Tt,GH⟩:=hM;have hlen:0 < l.length:=by cases l with | nil=>exact absurd rfl BQ | cons a r=>simp
 have hx:Ni w x t:=Tt (x,t) (by rw[M8,List.zip_append (by rw[M8] at Et;simpa using Et)];simp);obtain⟨x1,x2,x3,x4,x5⟩:=hx;obtain⟨g,cap,rfl,uf,ln,r4,yW,r3,vO⟩:=AX L2 (by simp);have Kc:=Gb.1 g rfl;have n1:mb≠g:=Kc.1;have n2:mb≠x.tb:=Gb.2.1 _ (by simp[TV.fp]);have n3:g≠x.tb:=Kc.2 _ (by simp[TV.fp]);have n4:∀h,x.cv.ownBlock=some h→h≠mb∧h≠g∧h≠x.tb:=fun h hh=>by
  have hf:h∈x.fp:=by simp[TV.fp,hh]
  refine⟨fun e=>Gb.2.1 h hf e.symm,fun e=>Kc.2 h hf e.symm,fun e=> ?_⟩;have:=Gb.2.2;rw[TV.fp,List.nodup_cons] at this;exact this.1 (by rw[←e];simp[hh])
 have N4:=hid n4;clear Gb Kc n4;have hk:w.cell? ⟨g,xs.length,none⟩=some (.pointer (some ⟨x.tb,0,none⟩)):=by
  rw[r3 xs.length (by simp)];simp[TV.ptr]
 rw[show(xs++[x]).length=xs.length+1 by simp] at L2 Et;have Hv:=hid hv;obtain⟨hm,⟨rfl,hn⟩ | ⟨b,off,pA,rfl,g1,g2,g3,g4,g5⟩⟩:=hv
 ·exact absurd (show l.length=0 by rw[←Cy,hn];rfl) (by omega)
 rw[Cy] at hm g1 Gr Hv⊢;have c0:=Sl.Kl g5 0 hlen;simp only[Nat.add_zero] at c0;have Ze:=hB.cell;have qj:=hB.free;have gT:=hB.lt;have OJ:=hid Gr;have HB:=hid hB;have uu:=hid Y6;have uq:=hid L2;have sY:=hid Et;have ur:=hid Tt;have MS:=hid GH;have uw:=hid Bi;have X1:=hid x1;have X2:=hid x2;have X3:=hid x3;have X4:=hid x4;have X5:=hid x5;have Hk:=hid hk;have pM:=hid M8;have Hi:=hid hi;have pQ:=hid Xb;clear Gr hB Y6 L2 Et Tt GH x1 x2 x3 x4 x5 g5 Bi hk M8 hi r3 vO hs BQ g3 Xb;go_enter Tryz.func39,Tryz.ntmps39;go_upto_region 2 with(fail)
 go_cut [22] (fun q w'=>w'=w∧q= .bool false)
 case first=>
  by_cases JD:l.length=1
  ·have hq:=Ar (fun h=>pQ.out ⟨JD,h⟩);unfold AE at hq;have Na:((l.length:Int)==1)=true:=by rw[JD];rfl
   clear JD;go_wp2;all_goals go_meet
   exact⟨rfl,rfl⟩
  ·have Na:((l.length:Int)==1)=false:=by rw[beq_eq_false_iff_ne];omega
   clear JD;go_wp2;all_goals go_meet
   exact⟨rfl,rfl⟩
 case rest=>
  obtain⟨hw,rfl⟩:=hcut;obtain rfl:=hw;go_wp2_with fail;refine(OJ.out _ Hv.out).mono ?_;rintro e w1 ⟨i',rfl,mJ,C9⟩;obtain rfl:=mJ i Hi.out;rw[Hi.out];have Kh:=hid C9;have Hk1:=BB C9 Hk.out;have eb:=HB.out.Bh C9 (by simp);have mP:=X1.out.Bh C9 (by simp);have wB:=eb.cell 1;have Ir:=mP.cell 0;have JE:=mP.free 0;simp only[List.getElem?_toArray,List.getElem?_cons_zero,List.getElem?_cons_succ] at wB Ir;have aj:=eb.lt;have Et:=mP.lt;have yU:g < w1.heap.size:=Gp Hk1;obtain⟨pc,capc,mM⟩:∃p c,x.cv= .slice p t.Af.length c:=by
   rcases X2.out.2 with⟨h,h0⟩ | ⟨g',c',cur,h,_⟩
   ·exact⟨none,0,by rw[h,h0]⟩
   ·exact⟨_,_,h⟩
  rw[mM] at Ir;have Dp:((t.Af.length:Int)==4000)=false:=by rw[beq_eq_false_iff_ne];omega
  have dQ:=hid mM;have Qf:w1.ownsRow 0 101 9 (.slice pc t.Af.length capc) t.Af.length (KG t.Af):=by
   rw[←mM];exact B5 X2.out C9 (by simp)
  have zI:=hid Qf;have N5:=hid (show∀h,(Value.slice pc t.Af.length capc).ownBlock=some h→h≠mb∧h≠g∧h≠x.tb by rw[←mM];exact N4.out);have tA:=hid mP;clear mJ C9 eb mP mM Ze qj Qf;have Aar:mb≠w1.heap.size:=by omega
  have hgn:g≠w1.heap.size:=by omega
  have hxn:x.tb≠w1.heap.size:=by omega
  have rj:∀(A B:Obj),((w1.alloc A).alloc B).drew.heap.size=w1.heap.size+2:=fun A B=>by show((w1.heap.push A).push B).size=_;simp
  have xX:=hid rj;clear rj;go_upto_region 14 with fail
  have hI0:(0:Int)≤(xs.length:Int):=Int.natCast_nonneg _;have hI1:(xs.length:Int) < ((xs.length:Int)+1):=by omega
  have VG:∀h,(Value.slice pc t.Af.length capc).ownBlock=some h→h < w1.heap.size:=fun h hh=>(Dm zI.out hh).2
  have Hbn:=hid VG;clear VG;refine Ao (l:=[(0,true),(1,true),(2,true),(3,true),(4,true),(5,true),(6,true),(7,true),(8,true),(9,true),(10,true),(11,true),(12,true),(13,true),(14,true),(15,true),(16,true),(17,true),(18,false),(19,false),(20,true),(21,true),(22,false)]) (fun w'=>w'.cell? ⟨mb,1,none⟩=some (.slice (some ⟨g,0,none⟩) (xs.length+1) cap)∧w'.cell? ⟨g,xs.length,none⟩=some (.pointer (some ⟨x.tb,0,none⟩))∧
      w'.cell? ⟨x.tb,0,none⟩=some (.slice pc t.Af.length capc)∧∀i,w'.cell? ⟨w1.heap.size,i,none⟩=(#[.string i'.Kl,.int .i64 i'.d,.bool i'.a.BF,.int .i64 i'.a.v,.bool i'.b.BF,.int .i64 i'.b.v,.bool i'.c.BF,.int .i64 i'.c.v,.int .i64 i'.k]:Array Value)[i]?) 22 (by kernel_rfl) (by kernel_rfl) (by kernel_rfl) (by kernel_rfl) (by kernel_rfl) (fun c a d v w h=>by cases d <;>exact h) ?_ ?_
  ·exact⟨by go_simp,by go_simp,by go_simp,fun q=>(BR.new w1 #[.string i'.Kl,.int .i64 i'.d,.bool i'.a.BF,.int .i64 i'.a.v,.bool i'.b.BF,.int .i64 i'.b.v,.bool i'.c.BF,.int .i64 i'.c.v,.int .i64 i'.k] 101).cell q⟩
  ·repeat
    refine Ak (v:= ?_) rfl rfl rfl (fun W hW=> ?_) ?_;rotate_left
    ·obtain⟨s1,s2,s3,s4⟩:=hW;go_simp;rfl
    simp only[Bo]
   refine Ab rfl (fun K hK=> ?_);go_simp;refine hK _ _ (fun _=>⟨by go_simp,by go_simp,by go_simp,fun q=>((BR.new w1 #[.string i'.Kl,.int .i64 i'.d,.bool i'.a.BF,.int .i64 i'.a.v,.bool i'.b.BF,.int .i64 i'.b.v,.bool i'.c.BF,.int .i64 i'.c.v,.int .i64 i'.k] 101).alloc _).cell q⟩) ?_;refine Ab rfl (fun K hK=> ?_);refine step_append_lies _ (by rfl) _ _ _ (by rfl) 0 101 j0 _ 9 80 Tryz.underlying65 hj I9 EK JW rfl (by omega) (.slice pc t.Af.length capc) t.Af.length (KG t.Af) (by rfl)
     (I2 (DJ (DJ zI.out _) _))
     ⟨w1.heap.size+1,0,none⟩ 1 1 i'.cells.toList (by rfl) (by rfl) (World.news_of_block (cs:=i'.cells) (t:=101) (fr:=(0,0)) (SO w1 _ _)) (by simp[Value.oneCell',Cm.cells])
     (by omega) (by unfold maxLen;omega) (by omega) (Nat.zero_le _) (w1.heap.size+2) (xX.out _ _) ?_
   intro g6 Bb w6 ag Eb sB Aas;have jP:∀a:Addr,a.block < w1.heap.size+2→(Value.slice pc t.Af.length capc).ownBlock≠some a.block→w6.cell? a=((w1.alloc (.cells i'.cells 101)).alloc (.cells i'.cells 101)).drew.cell? a:=fun a h1 h2=>Eb.cell_far a (by rw[xX.out];exact h1) (Ne.symm h2)
   have s1:w6.cell? ⟨mb,1,none⟩=some (.slice (some ⟨g,0,none⟩) (xs.length+1) cap):=by
    rw[jP _ (by show mb < _;omega) (fun h=>(N5.out _ h).1 rfl)];go_simp
   have s2:w6.cell? ⟨g,xs.length,none⟩=some (.pointer (some ⟨x.tb,0,none⟩)):=by
    rw[jP _ (by show g < _;omega) (fun h=>(N5.out _ h).2.1 rfl)];go_simp
   have s3:w6.cell? ⟨x.tb,0,none⟩=some (.slice pc t.Af.length capc):=by
    rw[jP _ (by show x.tb < _;omega) (fun h=>(N5.out _ h).2.2 rfl)];go_simp
   have s4:∀q,w6.cell? ⟨w1.heap.size,q,none⟩=(#[.string i'.Kl,.int .i64 i'.d,.bool i'.a.BF,.int .i64 i'.a.v,.bool i'.b.BF,.int .i64 i'.b.v,.bool i'.c.BF,.int .i64 i'.c.v,.int .i64 i'.k]:Array Value)[q]?:=fun q=>by
    rw[jP _ (by show w1.heap.size < _;omega) (fun h=>Nat.lt_irrefl _ (Hbn.out _ h))];exact((BR.new w1 #[.string i'.Kl,.int .i64 i'.d,.bool i'.a.BF,.int .i64 i'.a.v,.bool i'.b.BF,.int .i64 i'.b.v,.bool i'.c.BF,.int .i64 i'.c.v,.int .i64 i'.k] 101).alloc _).cell q
   have hf6:w6.frozen? ⟨x.tb,0,none⟩=false:=by
    rw[Eb.frozen_far _ (by rw[xX.out];show x.tb < _;omega) (fun h=>(N5.out _ h.symm).2.2 rfl)];exact(((tA.out.alloc _).alloc _).free 0)
   refine hK _ _ (fun _=>⟨s1,s2,s3,s4⟩) (DM rfl ?_);simp only[Bo];repeat
    refine Ak (v:= ?_) rfl rfl rfl (fun W hW=> ?_) ?_;rotate_left
    ·obtain⟨s1,s2,s3,s4⟩:=hW;go_simp;rfl
    simp only[Bo]
   clear s4 jP;refine Ab rfl (fun K hK=> ?_);go_simp;refine hK _ _ (fun h=>absurd rfl h) ?_;simp only[A0];go_wp2;go_ret;rw[←dQ.out] at Eb sB;exact Wv HMm.out pM.out Kh.out ag Eb sB
theorem e8 (l:List ByteArray) (v:Value) (w:World) (mb:Nat) (mv tv:Value) (xs:List TV) (M:EW) (hM:EE w mb mv tv xs M) (ok:Nat→Prop) (hv:Sl w ok v (AY l)) (h1:l.length=1) (ht:bs (wd l 0)=AE) (h3:M.ts.length=3) (F:List Nat):
  Calls Tryz.prog 39 #[.pointer (some ⟨mb,0,none⟩),v] w (TD (.error 5) mb F w):=by
 obtain⟨hB,Y6,L2,Et,M8,GH⟩:=hM;obtain⟨hm,⟨rfl,hn⟩ | ⟨b,off,cap,rfl,g1,g2,g3,g4,g5⟩⟩:=hv
 ·exact absurd (show l.length=0 by rw[←Cy,hn];rfl) (by omega)
 rw[Cy,h1] at hm g1⊢;have c0:=Sl.Kl g5 0 (by omega);simp only[Nat.add_zero] at c0;have hq:=BN ht;unfold AE at hq;have Ze:=hB.cell 1;have JA:xs.length=3:=by omega
 obtain⟨p,Ml,rfl⟩:∃p c,tv= .slice p xs.length c:=by
  rcases L2.2 with⟨rfl,h⟩ | ⟨g,c,cur,rfl,_⟩
  ·exact⟨none,0,by rw[h]⟩
  ·exact⟨_,_,rfl⟩
 rw[JA] at Ze;simp only[List.getElem?_toArray,List.getElem?_cons_zero,List.getElem?_cons_succ] at Ze;clear hB Y6 L2 Et M8 GH g5 g3 hm g1 g2 h1 ht h3 JA;go_enter Tryz.func39,Tryz.ntmps39;go_wp2;go_ret;exact⟨rfl,Av.refl _ _⟩
theorem eV (l:List ByteArray) (v:Value) (w:World) (mb:Nat) (mv tv:Value) (xs:List TV) (M:EW) (hM:EE w mb mv tv xs M) (ok:Nat→Prop) (hv:Sl w ok v (AY l))
  (BQ:l≠[]) (hs:∀s,s∈l→s.size≤maxLen) (Xb:¬(l.length=1∧bs (wd l 0)=AE)) (hi:D9 l=none) (F:List Nat):
  Calls Tryz.prog 39 #[.pointer (some ⟨mb,0,none⟩),v] w (TD (.error 2) mb F w):=by
 have Gr:=fun w hv=>QO l v w ok hv BQ hs
 unfold jy at Gr;simp only[Cm.val,Cm.cells] at Gr;obtain⟨hB,Y6,L2,Et,Tt,GH⟩:=hM;have hlen:0 < l.length:=by cases l with | nil=>exact absurd rfl BQ | cons a r=>simp
 have Hv:=hid hv;obtain⟨hm,⟨rfl,hn⟩ | ⟨b,off,pA,rfl,g1,g2,g3,g4,g5⟩⟩:=hv
 ·exact absurd (show l.length=0 by rw[←Cy,hn];rfl) (by omega)
 rw[Cy] at hm g1 Gr Hv⊢;have c0:=Sl.Kl g5 0 hlen;simp only[Nat.add_zero] at c0;obtain⟨p,Ml,rfl⟩:∃p c,tv= .slice p xs.length c:=by
  rcases L2.2 with⟨rfl,h⟩ | ⟨g,c,cur,rfl,_⟩
  ·exact⟨none,0,by rw[h]⟩
  ·exact⟨_,_,rfl⟩
 have Ze:=hB.cell 1;simp only[List.getElem?_toArray,List.getElem?_cons_zero,List.getElem?_cons_succ] at Ze;have gT:=hB.lt;have OJ:=hid Gr;have HB:=hid hB;have pQ:=hid Xb;have Hi:=hid hi;clear Gr hB Y6 L2 Et Tt GH g5 hs BQ g3 Xb hi;go_enter Tryz.func39,Tryz.ntmps39;go_upto_region 2 with(fail)
 go_cut [22] (fun q w'=>w'=w∧q= .bool false)
 case first=>
  by_cases JD:l.length=1
  ·have hq:=Ar (fun h=>pQ.out ⟨JD,h⟩);unfold AE at hq;have Na:((l.length:Int)==1)=true:=by rw[JD];rfl
   clear JD;go_wp2;all_goals go_meet
   exact⟨rfl,rfl⟩
  ·have Na:((l.length:Int)==1)=false:=by rw[beq_eq_false_iff_ne];omega
   clear JD;go_wp2;all_goals go_meet
   exact⟨rfl,rfl⟩
 case rest=>
  obtain⟨hw,rfl⟩:=hcut;obtain rfl:=hw;go_wp2_with fail;refine(OJ.out _ Hv.out).mono ?_;rintro e w1 ⟨i',rfl,mJ,C9⟩;rw[Hi.out];have Kh:=hid C9;clear mJ C9;go_wp2;go_ret;exact⟨rfl,Kh.out.alloc _⟩
theorem eX (l:List ByteArray) (v:Value) (w:World) (mb:Nat) (mv tv:Value) (xs:List TV) (M:EW) (i:Cm) (hM:EE w mb mv tv xs M) (ok:Nat→Prop) (hv:Sl w ok v (AY l))
  (BQ:l≠[]) (hs:∀s,s∈l→s.size≤maxLen) (Xb:¬(l.length=1∧bs (wd l 0)=AE)) (hi:D9 l=some i) (h0:M.ts=[]) (F:List Nat):
  Calls Tryz.prog 39 #[.pointer (some ⟨mb,0,none⟩),v] w (TD (.error 3) mb F w):=by
 have Gr:=fun w hv=>QO l v w ok hv BQ hs
 unfold jy at Gr;simp only[Cm.val,Cm.cells] at Gr;obtain⟨hB,Y6,L2,Et,Tt,GH⟩:=hM;have hlen:0 < l.length:=by cases l with | nil=>exact absurd rfl BQ | cons a r=>simp
 have Hv:=hid hv;obtain⟨hm,⟨rfl,hn⟩ | ⟨b,off,pA,rfl,g1,g2,g3,g4,g5⟩⟩:=hv
 ·exact absurd (show l.length=0 by rw[←Cy,hn];rfl) (by omega)
 rw[Cy] at hm g1 Gr Hv⊢;have c0:=Sl.Kl g5 0 hlen;simp only[Nat.add_zero] at c0;obtain⟨p,Ml,rfl⟩:∃p c,tv= .slice p xs.length c:=by
  rcases L2.2 with⟨rfl,h⟩ | ⟨g,c,cur,rfl,_⟩
  ·exact⟨none,0,by rw[h]⟩
  ·exact⟨_,_,rfl⟩
 have Ze:=hB.cell 1;simp only[List.getElem?_toArray,List.getElem?_cons_zero,List.getElem?_cons_succ] at Ze;have gT:=hB.lt;have OJ:=hid Gr;have HB:=hid hB;have pQ:=hid Xb;have Hi:=hid hi;obtain rfl:xs=[]:=List.eq_nil_of_length_eq_zero (by rw[Et,h0];rfl);clear h0;clear Gr hB Y6 L2 Et Tt GH g5 hs BQ g3 Xb hi;go_enter Tryz.func39,Tryz.ntmps39;go_upto_region 2 with(fail)
 go_cut [22] (fun q w'=>w'=w∧q= .bool false)
 case first=>
  by_cases JD:l.length=1
  ·have hq:=Ar (fun h=>pQ.out ⟨JD,h⟩);unfold AE at hq;have Na:((l.length:Int)==1)=true:=by rw[JD];rfl
   clear JD;go_wp2;all_goals go_meet
   exact⟨rfl,rfl⟩
  ·have Na:((l.length:Int)==1)=false:=by rw[beq_eq_false_iff_ne];omega
   clear JD;go_wp2;all_goals go_meet
   exact⟨rfl,rfl⟩
 case rest=>
  obtain⟨hw,rfl⟩:=hcut;obtain rfl:=hw;go_wp2_with fail;refine(OJ.out _ Hv.out).mono ?_;rintro e w1 ⟨i',rfl,mJ,C9⟩;rw[Hi.out];have Kh:=hid C9;clear mJ C9;go_wp2;go_ret;exact⟨rfl,Kh.out.alloc _⟩
theorem eW (l:List ByteArray) (v:Value) (w:World) (mb:Nat) (mv tv:Value) (xs:List TV) (x:TV) (M:EW) (ts:List VZ) (t:VZ) (i:Cm) (hM:EE w mb mv tv (xs++[x]) M) (ok:Nat→Prop) (hv:Sl w ok v (AY l))
  (BQ:l≠[]) (hs:∀s,s∈l→s.size≤maxLen) (Xb:¬(l.length=1∧bs (wd l 0)=AE)) (hi:D9 l=some i) (M8:M.ts=ts++[t]) (h4:t.Af.length=4000) (uS:xs.length < 3) (F:List Nat):
  Calls Tryz.prog 39 #[.pointer (some ⟨mb,0,none⟩),v] w (TD (.error 5) mb F w):=by
 have Gr:=fun w hv=>QO l v w ok hv BQ hs
 unfold jy at Gr;simp only[Cm.val,Cm.cells] at Gr;obtain⟨hB,Y6,L2,Et,Tt,GH⟩:=hM;have hx:Ni w x t:=Tt (x,t) (by rw[M8,List.zip_append (by rw[M8] at Et;simpa using Et)];simp);obtain⟨x1,x2,x3,x4,x5⟩:=hx;obtain⟨g,cap,rfl,uf,ln,r4,yW,r3,vO⟩:=AX L2 (by simp);have hk:w.cell? ⟨g,xs.length,none⟩=some (.pointer (some ⟨x.tb,0,none⟩)):=by
  rw[r3 xs.length (by simp)];simp[TV.ptr]
 have hle:(xs++[x]).length=xs.length+1:=by simp
 rw[hle] at hB;obtain⟨pc,capc,mM⟩:∃p c,x.cv= .slice p t.Af.length c:=by
  rcases x2.2 with⟨h,h0⟩ | ⟨g',c',cur,h,_⟩
  ·exact⟨none,0,by rw[h,h0]⟩
  ·exact⟨_,_,h⟩
 have Ir:=x1.cell 0;simp only[List.getElem?_toArray,List.getElem?_cons_zero] at Ir;rw[mM,h4] at Ir;have hlen:0 < l.length:=by cases l with | nil=>exact absurd rfl BQ | cons a r=>simp
 have Hv:=hid hv;obtain⟨hm,⟨rfl,hn⟩ | ⟨b,off,pA,rfl,g1,g2,g3,g4,g5⟩⟩:=hv
 ·exact absurd (show l.length=0 by rw[←Cy,hn];rfl) (by omega)
 rw[Cy] at hm g1 Gr Hv⊢;have c0:=Sl.Kl g5 0 hlen;simp only[Nat.add_zero] at c0;have Ze:=hB.cell 1;simp only[List.getElem?_toArray,List.getElem?_cons_zero,List.getElem?_cons_succ] at Ze;have gT:=hB.lt;have OJ:=hid Gr;have HB:=hid hB;have pQ:=hid Xb;have Hi:=hid hi;have Hk:=hid hk;have HXc:=hid Ir;have zP:=hid Ze;clear hk Ir Ze r3 vO M8 h4 x1 x2 x3 x4 x5 mM hle;clear Gr hB Y6 L2 Et Tt GH g5 hs BQ g3 Xb hi;have AaH:=zP.out;go_enter Tryz.func39,Tryz.ntmps39;go_upto_region 2 with(fail)
 go_cut [22] (fun q w'=>w'=w∧q= .bool false)
 case first=>
  by_cases JD:l.length=1
  ·have hq:=Ar (fun h=>pQ.out ⟨JD,h⟩);unfold AE at hq;have Na:((l.length:Int)==1)=true:=by rw[JD];rfl
   clear JD;go_wp2;all_goals go_meet
   exact⟨rfl,rfl⟩
  ·have Na:((l.length:Int)==1)=false:=by rw[beq_eq_false_iff_ne];omega
   clear JD;go_wp2;all_goals go_meet
   exact⟨rfl,rfl⟩
 case rest=>
  obtain⟨hw,rfl⟩:=hcut;obtain rfl:=hw;go_wp2_with fail;refine(OJ.out _ Hv.out).mono ?_;rintro e w1 ⟨i',rfl,mJ,C9⟩;rw[Hi.out];have Kh:=hid C9;have k1:=BB C9 Hk.out;have k2:=BB C9 HXc.out;have k3:=BB C9 zP.out;have l1:g < w1.heap.size:=Gp k1;have l2:x.tb < w1.heap.size:=Gp k2;have l3:mb < w1.heap.size:=Gp k3;clear mJ C9;go_wp2;go_ret;exact⟨rfl,Kh.out.alloc _⟩
theorem kA (l:List ByteArray) (v:Value) (w:World) (mb:Nat) (mv tv:Value) (xs:List TV) (M:EW) (hM:EE w mb mv tv xs M) (ok:Nat→Prop) (hv:Sl w ok v (AY l))
  (BQ:l≠[]) (hs:∀s,s∈l→s.size≤maxLen) (h3:M.ts.length≤3) (h4:∀t,t∈M.ts→t.Af.length≤4000):
  Calls Tryz.prog 39 #[.pointer (some ⟨mb,0,none⟩),v] w (TD (Oa M l) mb (BJ mb mv tv xs) w):=by
 unfold Oa;by_cases ht:l.length=1∧bs (wd l 0)=AE
 ·rw[if_pos ht];by_cases hf:M.ts.length=3
  ·rw[if_pos hf];exact e8 l v w mb mv tv xs M hM ok hv ht.1 ht.2 hf _
  ·rw[if_neg hf];exact Yu l v w mb mv tv xs M hM ok hv ht.1 ht.2 (by omega)
 ·rw[if_neg ht];cases hi:D9 l with
  | none=>exact eV l v w mb mv tv xs M hM ok hv BQ hs ht hi _
  | some i=>
   rcases List.eq_nil_or_concat M.ts with h0 | ⟨ts,t,M8⟩
   ·rw[h0];exact eX l v w mb mv tv xs M i hM ok hv BQ hs ht hi h0 _
   ·rw[List.concat_eq_append] at M8;have Et:=hM.2.2.2.1;rw[M8,List.length_append] at Et;rcases List.eq_nil_or_concat xs with hx | ⟨ys,x,hx⟩
    ·rw[hx] at Et;simp at Et
    ·rw[List.concat_eq_append] at hx;subst hx;have V3:ys.length < 3:=by rw[M8] at h3;simp at Et h3;omega
     rw[M8];simp only[List.getLast?_append,List.getLast?_singleton,Option.some_or,List.dropLast_concat];by_cases hc:t.Af.length=4000
     ·rw[if_pos hc];exact eW l v w mb mv tv ys x M ts t i hM ok hv BQ hs ht hi M8 hc V3 _
     ·rw[if_neg hc];have:=h4 t (by rw[M8];simp);exact kz l v w mb mv tv ys x M ts t i hM M8 ok hv BQ hs ht hi (by omega) V3
def Ev:List By→Nat→EW→Except (Int×Nat) EW
 | [],_,M=> .ok M
 | [p],n,M=>if p=[]∧0 < n then .ok M else .error (2,n+1)
 | p::q::r,n,M=>match Oa M (Bv p) with
  | .error c=> .error (c,n+1)
  | .ok M'=>Ev (q::r) (n+1) M'
def Ky (s:By):Except (Int×Nat) EW:=
 if 131072 < s.length then .error (1,0) else Ev (Ay 10 s) 0 ⟨List.replicate 256 0,[]⟩
def sU (r:Except (Int×Nat) EW) (w:World) (e:Ending) (w':World):Prop:=
 match r with
 | .error c=>e= .returned (.tuple #[.pointer none,.int .i64 c.1,.int .i64 c.2])∧Av [] w w'
 | .ok M=>∃mb mv tv xs,e= .returned (.tuple #[.pointer (some ⟨mb,0,none⟩),.int .i64 0,.int .i64 0])∧EE w' mb mv tv xs M∧Av [] w w'∧∀b,b∈BJ mb mv tv xs→w.heap.size≤b
theorem qP (w:World):(Instr.makeSlice 31 (.int .i64 256) (.int .i64 256)).run Tryz.prog w= .ok (.slice (some ⟨w.heap.size,0,none⟩) 256 256) (w.alloc (.cells (Array.replicate 256 (.int .i64 0)) 2)):=by kernel_rfl
def sV (s:ByteArray) (w:World) (mb fr n k:Nat) (wr:World):Prop:=
 ∃(M:EW) (mv tv:Value) (xs:List TV),fr≤k∧k≤s.size∧n≤k∧EE wr mb mv tv xs M∧Av [] w wr∧(∀b,b∈BJ mb mv tv xs→w.heap.size≤b)∧
  M.ts.length≤3∧(∀t,t∈M.ts→t.Af.length≤4000)∧Ky (bs s)=Ev (MZ (bs (s.extract fr k)) (Ay 10 ((bs s).drop k))) n M
theorem iG (a:By) (q:List By) (n m:Nat) (ha:a.length≤m) (hq:∀p,p∈q→p.length≤n):∀p,p∈MZ a q→p.length≤m+n:=by
 cases q with
 | nil=>intro p hp;rw[MZ,List.mem_singleton] at hp;subst hp;omega
 | cons r rs=>
  intro p hp;rcases List.mem_cons.1 hp with rfl | hp
  ·have:=hq r (by simp);rw[List.length_append];omega
  ·have:=hq p (List.mem_cons_of_mem _ hp);omega
theorem Wl (c:UInt8) (s:By):∀p,p∈Ay c s→p.length≤s.length:=by
 induction s with
 | nil=>intro p hp;simp[Ay] at hp;subst hp;exact Nat.le_refl _
 | cons x r ih=>
  intro p hp;by_cases h:x=c
  ·simp only[Ay,if_pos h] at hp;rcases List.mem_cons.1 hp with rfl | hp
   ·exact Nat.zero_le _
   ·have:=ih p hp;simp only[List.length_cons];omega
  ·rw[Gj c x r h] at hp;have:=iG [x] _ r.length 1 (Nat.le_refl _) ih p hp;simp only[List.length_cons];omega
theorem ff {M:EW} {l:List ByteArray} {c:Int} (h:Oa M l= .error c):c=2∨c=3∨c=5:=by
 unfold Oa at h;split at h
 ·split at h
  ·cases h;simp
  ·cases h
 ·split at h
  ·cases h;simp
  ·split at h
   ·cases h;simp
   ·split at h
    ·cases h;simp
    ·cases h
theorem kB {M M':EW} {l:List ByteArray} (h:Oa M l= .ok M') (h3:M.ts.length≤3) (h4:∀t,t∈M.ts→t.Af.length≤4000):M'.ts.length≤3∧∀t,t∈M'.ts→t.Af.length≤4000:=by
 unfold Oa at h;split at h
 ·split at h
  ·cases h
  ·cases h;refine⟨by simp;omega,fun t ht=> ?_⟩;rcases List.mem_append.1 ht with ht | ht
   ·exact h4 t ht
   ·rw[List.mem_singleton] at ht;subst ht;exact Nat.zero_le _
 ·split at h
  ·cases h
  ·split at h
   ·cases h
   ·rename_i i _ t hl;split at h
    ·cases h
    ·rename_i hc;cases h;have hm:t∈M.ts:=List.mem_of_getLast? hl;have vl:0 < M.ts.length:=List.length_pos_of_mem hm;refine⟨by simp;omega,fun u hu=> ?_⟩;rcases List.mem_append.1 hu with hu | hu
     ·exact h4 u (List.dropLast_subset _ hu)
     ·rw[List.mem_singleton] at hu;subst hu;have:=h4 t hm;simp only[List.length_append,List.length_singleton];omega
theorem JG (s:ByteArray) (a b:Nat):bs (s.extract a b)=((bs s).drop a).take (b - a):=Lib.extract_data ..
theorem VL (s:ByteArray) (a k:Nat) (h:a≤k) (hk:k < s.size):bs (s.extract a (k+1))=bs (s.extract a k)++[s[k]]:=by
 rw[JG,JG,show k+1 - a=(k - a)+1 by omega,List.take_succ_eq_append_getElem (by rw[List.length_drop,Bu];omega)];congr 1;rw[List.getElem_drop];have:a+(k - a)=k:=by omega
 simp only[this];rfl
theorem fX (s:ByteArray) (w:World) (hs:s.size≤131072):
  Calls Tryz.prog 24 #[.string s] w (sU (Ky (bs s)) w):=by
 have jL:=qP;go_enter Tryz.func24,Tryz.ntmps24;go_wp2;go_loopw [6,7,8] (fun f n i wr=>∃fr nn k:Nat,f= .int .i64 fr∧n= .int .i64 nn∧i= .int .i64 k∧sV s w (w.heap.size+1) fr nn k wr) (fun _ _ i _=>s.size+1 - (intOf i).toNat);case atStart=>
  refine⟨0,0,0,rfl,rfl,rfl,⟨List.replicate 256 0,[]⟩,.slice (some ⟨w.heap.size,0,none⟩) 256 256,.slice none 0 0,[],Nat.le_refl _,Nat.zero_le _,Nat.le_refl _,?_,((Av.refl _ _).alloc _).alloc _,?_,Nat.zero_le _,(fun t ht=>by cases ht),?_⟩
  ·have hB:=(BR.new (w.alloc (.cells (Array.replicate 256 (.int .i64 0)) 2)) #[.slice (some ⟨w.heap.size,0,none⟩) 256 256,.slice none 0 0] 34);rw[show(w.alloc (.cells (Array.replicate 256 (.int .i64 0)) 2)).heap.size=w.heap.size+1 from Array.size_push _] at hB;have hm:=(BR.new w (Array.replicate 256 (.int .i64 0)) 2).alloc (.cells #[.slice (some ⟨w.heap.size,0,none⟩) 256 256,.slice none 0 0] 34);refine⟨hB,⟨by simp[cB],.inr ⟨w.heap.size,256,_,rfl,Nat.zero_le _,hm,by simp,by unfold maxLen;omega,by simp,by simp[cB]⟩⟩,Db _ _ _ _,rfl,(fun p hp=>by cases hp),?_⟩;simp[BJ,Value.ownBlock]
  ·intro b hb;simp[BJ,Value.ownBlock] at hb;omega
  ·unfold Ky;rw[if_neg (by rw[Bu];omega),JG,Nat.sub_self,List.take_zero,KC _ (Cc _ _)];rfl
 case round=>
  clear jL;obtain⟨fr,nn,k,rfl,rfl,rfl,hI⟩:=hrel;have HI:=hid hI;obtain⟨M,mv,tv,xs,h1,h2,h3,hM,hm,iq,h5,h6,hl⟩:=hI;have HM:=hid hM;have Hm:=hid hm;have ux:=hid iq;have H6:=hid h6;have Hl:=hid hl;clear hM hm iq h6 hl;by_cases hk:k < s.size
  ·have Ma:(bs s).drop k=s[k]::(bs s).drop (k+1):=List.drop_eq_getElem_cons (by rw[Bu];exact hk);by_cases he:s[k]=10
   ·have hb:(((s[k]).toNat:Int) !=10)=false:=by rw[he];rfl
    have Y1:(s.extract fr k).size≤1000000:=by rw[ByteArray.size_extract];omega
    have HP:=hid (show Ky (bs s)=Ev (bs (s.extract fr k)::Ay 10 ((bs s).drop (k+1))) nn M by
      rw[Hl.out,Ma,he,QS])
    have pN:=hid Y1;have vU:(0:Int)≤(fr:Int):=Int.natCast_nonneg _;have Qa:(fr:Int)≤(k:Int):=by omega
    clear Ma he Y1;go_wp2_with fail;refine(OB (s.extract fr k) 32 _ pN.out).mono ?_;rintro e w1 ⟨v,l,rfl,C9,CN,XX⟩;have cJ:=Sl.Lg CN;have hle:l=Bv (bs (s.extract fr k)):=NX XX;have BQ:l≠[]:=by rintro rfl;exact Cc 32 _ XX.symm
    have yw:∀a,a∈l→a.size≤maxLen:=fun a ha=>by
     have:bs a∈Ay 32 (bs (s.extract fr k)):=by rw[←XX];exact List.mem_map_of_mem ha
     have:=Wl 32 _ _ this;rw[Bu,Bu] at this;have:=pN.out;unfold maxLen;omega
    have wk:=HM.out.Bh C9 (by simp);have dO:=hid (kA l v w1 _ mv tv xs M wk _ cJ BQ yw h5 H6.out);have dP:=hid (Hm.out.Ac C9);have Kh:=hid wk;have xI:=hid hle;have Sb:=dP.out.size;clear C9 CN XX cJ hle BQ yw wk;go_wp2_with fail;refine dO.out.mono ?_;intro e w2 h2;unfold TD at h2;cases hr:Oa M l with
    | error c=>
     rw[hr] at h2;obtain⟨rfl,CY⟩:=h2;have QR:((c:Int) !=0)=true:=by
      rw[bne_iff_ne];rcases ff hr with rfl | rfl | rfl <;>decide
     have HR:=hid (show Ky (bs s)= .error (c,nn+1) by
       obtain⟨q,r,hq⟩:=List.exists_cons_of_ne_nil (Cc 10 ((bs s).drop (k+1)));rw[HP.out,hq];simp only[Ev];rw[←xI.out,hr])
     have V9:=hid (dP.out.Ac CY);clear hr CY;go_wp2;go_ret3;rw[HR.out];exact⟨rfl,V9.out⟩
    | ok M'=>
     rw[hr] at h2;obtain⟨rfl,mv',tv',xs',zh,CY,sa⟩:=h2;obtain⟨h7,h8⟩:=kB hr h5 H6.out;have HR:=hid (show Ky (bs s)=Ev (Ay 10 ((bs s).drop (k+1))) (nn+1) M' by
       obtain⟨q,r,hq⟩:=List.exists_cons_of_ne_nil (Cc 10 ((bs s).drop (k+1)));rw[HP.out,hq];simp only[Ev];rw[←xI.out,hr])
     have V9:=hid (dP.out.trans CY fun b hb=> .inr (ux.out b hb));have Gw:=hid zh;have xO:=hid (show∀b,b∈BJ (w.heap.size+1) mv' tv' xs'→w.heap.size≤b from fun b hb=>by
       rcases sa b hb with h | h
       · exact ux.out b h
       · omega)
     have H8:=hid h8;clear hr CY zh sa h8;go_wp2;go_roundw;case rel=>
      refine⟨k+1,nn+1,k+1,by go_num,by go_num,by go_num,M',mv',tv',xs',Nat.le_refl _,by omega,by omega,Gw.out,V9.out,xO.out,h7,H8.out,?_⟩;rw[HR.out,JG,Nat.sub_self,List.take_zero,KC _ (Cc _ _)]
     case measure=>simp[intOf];omega
   ·have hb:(((s[k]).toNat:Int) !=10)=true:=by
     rw[bne_iff_ne];intro h;exact he (UInt8.toNat_inj.1 (by show _=10;omega))
    have HL:=hid (show Ky (bs s)=Ev (MZ (bs (s.extract fr (k+1))) (Ay 10 ((bs s).drop (k+1)))) nn M by
      rw[Hl.out,Ma,au _ _ _ _ he,VL s fr k h1 hk])
    clear Ma he;go_wp2;go_roundw;case rel=>exact⟨fr,nn,k+1,rfl,rfl,by go_num,M,mv,tv,xs,by omega,by omega,by omega,HM.out,Hm.out,ux.out,h5,H6.out,HL.out⟩
    case measure=>simp[intOf];omega
  ·have oJ:k=s.size:=by omega
   have HL:=hid (show Ky (bs s)=Ev [bs (s.extract fr k)] nn M by
     rw[Hl.out,List.drop_of_length_le (by rw[Bu];omega)];show Ev (MZ _ [[]]) nn M=_;simp[MZ])
   have hex:(bs (s.extract fr k)).length=k - fr:=by rw[JG,List.length_take,List.length_drop,Bu];omega
   by_cases hb:fr=k∧0 < nn
   ·obtain⟨KP,Td⟩:=hb;have HR:=hid (show Ky (bs s)= .ok M by
      rw[HL.out,Ev,if_pos ⟨List.eq_nil_of_length_eq_zero (by omega),Td⟩])
    have Sg:((k:Int)==(s.size:Int))=true:=by rw[oJ];simp
    have yD:((fr:Int)==(k:Int))=true:=by rw[KP];simp
    have cV:(0:Int) < (nn:Int):=by omega
    clear KP hex oJ hk;go_wp2;go_ret3;rw[HR.out];exact⟨_,mv,tv,xs,rfl,HM.out,Hm.out,ux.out⟩
   ·have HR:=hid (show Ky (bs s)= .error (2,nn+1) by
       rw[HL.out,Ev,if_neg (fun h=>hb ⟨by have:=congrArg List.length h.1;rw[hex] at this;simp at this;omega,h.2⟩)])
    have Sg:((k:Int)==(s.size:Int))=true:=by rw[oJ];simp
    have Y1:(s.extract fr k).size≤1000000:=by rw[ByteArray.size_extract];omega
    have pN:=hid Y1;have vU:(0:Int)≤(fr:Int):=Int.natCast_nonneg _;have Qa:(fr:Int)≤(k:Int):=by omega
    have Hb:=hid hb;by_cases h9:fr=k
    ·have Gb:¬(0:Int) < (nn:Int):=fun h=>Hb.out ⟨h9,by omega⟩
     have yD:((fr:Int)==(k:Int))=true:=by rw[h9];simp
     clear hb hex oJ hk Y1 h9;go_wp2_with fail;refine(OB (s.extract fr k) 32 _ pN.out).mono ?_;rintro e w1 ⟨v,l,rfl,C9,CN,XX⟩;have dP:=hid (Hm.out.Ac C9);clear C9 CN XX;go_wp2;go_ret3;rw[HR.out];exact⟨rfl,dP.out⟩
    ·have yD:((fr:Int)==(k:Int))=false:=by rw[beq_eq_false_iff_ne];omega
     clear hb hex oJ hk Y1 h9;go_wp2_with fail;refine(OB (s.extract fr k) 32 _ pN.out).mono ?_;rintro e w1 ⟨v,l,rfl,C9,CN,XX⟩;have dP:=hid (Hm.out.Ac C9);clear C9 CN XX;go_wp2;go_ret3;rw[HR.out];exact⟨rfl,dP.out⟩
end Go.Proofs.YtpdfifdlhpmofaaGreatDoor
