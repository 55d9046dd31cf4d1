/-
  Part 22 of the proof.
-/
import Derived.Test.YtpdfifdlhpmofaaGreatDoorZ21
set_option linter.unusedVariables false
set_option linter.unusedSimpArgs false
set_option maxHeartbeats 3200000
set_option maxRecDepth 100000
namespace Go.Proofs.YtpdfifdlhpmofaaGreatDoor
open Go.RowKit Tryz
open Go.Lib (hid)
theorem maq {p:Prop} (h:p:=by
 by_cases KL:l.length=1
 ·have hq:=An (fun h=>Hnt.out ⟨KL,h⟩);unfold AE at hq;have LG:((l.length:Int)==1)=true:=by rw[KL];rfl
  clear KL;go_wp2;all_goals go_meet
  exact⟨rfl,rfl⟩
 ·have LG:((l.length:Int)==1)=false:=by rw[NE];omega
  clear KL;go_wp2;all_goals go_meet
  exact⟨rfl,rfl⟩):p:=h
theorem maM {p:Prop} (h:p:=by
 rcases Ou.2 with⟨rfl,h⟩ | ⟨g,c,cur,rfl,_⟩
 ·exact⟨none,0,by rw[h]⟩
 ·exact⟨_,_,rfl⟩):p:=h
theorem maO {p:Prop} (h:p:=by
 exact UV (show l.length=0 by rw[<-CK,hn];rfl) Y):p:=h
theorem mbb {p:Prop} (h:p:=by
 obtain⟨hw,rfl⟩:=hcut;obtain rfl:=hw;go_wp2_with fail;refine(Sj _ Hv).mono ?_;rintro e w1 ⟨i',rfl,Zg,CS⟩;rw[Hi.out];have LD:=hid CS;clear Zg CS;go_wp2;go_ret;exact⟨rfl,LD.alloc _⟩):p:=h
variable {w w1:World} {mb:Nat} {mv tv:Value} {xs:List TV} {M:Al} {x:TV} {l:List ByteArray}
def C9.new:C9:=⟨[],0,List.replicate 8 0,[],[],0⟩
def Rm (M:Al) (l:List ByteArray):Except Int Al:=
 if l.length=1/\bs (wd l 0)=AE then (if M.ts.length=3 then .error 5 else .ok {M with ts:=M.ts++[.new]})
 else match Ez l with
  | none=> .error 2
  | some i=>match M.ts.getLast? with
   | none=> .error 3
   | some t=>if t.Ab.length=4000 then .error 5 else .ok {M with ts:=M.ts.dropLast++[{t with Ab:=t.Ab++[i]}]}
def Yg (r:Except Int Al) (mb:Nat) (F:List Nat) (w:World) (e:Ending) (w':World):Prop:=
 match r with
 | .error c=>e= .returned (i5 c)/\Av [] w w'
 | .ok M'=>e= .returned (i5 0)/\∃mv' tv' xs',Ex w' mb mv' tv' xs' M'/\Av F w w'/\∀b,b∈BD mb mv' tv' xs'->b∈F\/w.heap.size<=b
theorem mk8 (w:World):(Instr.makeSlice 31 (i5 8) (i5 8)).run prog w= .ok (.slice (some ⟨w.heap.size,0,none⟩) 8 8) (w.alloc (.cells #[i5 0,i5 0,i5 0,i5 0,i5 0,i5 0,i5 0,i5 0] 2)):=Fd
theorem jH (w:World) (A B C:Obj):(((w.alloc A).alloc B).alloc C).drew.heap[w.heap.size+2]?=some C:=by
 show(((w.heap.push A).push B).push C)[w.heap.size+2]?=_;have h:((w.heap.push A).push B).size=w.heap.size+2:=EQ
 rw[<-h,Array.getElem?_push_size]
theorem OS (w:World) (A B C:Obj):(((w.alloc A).alloc B).alloc C).drew.heap.size=w.heap.size+3:=by
 show(((w.heap.push A).push B).push C).size=_;simp
theorem VS {p:Option Addr} {OQ:Nat} {g2 bR:Nat} {C1:Array Value} {T1:TypeId}
  (NY:∀b,b∈BD mb mv (.slice p xs.length OQ) xs->b < w.heap.size)
  (HB:BM w mb #[mv,.slice p xs.length OQ] 34) (Hmv:w.ownsRow 0 2 1 mv M.mem.length (Fy M.mem)) (Htv:w.ownsRow 0 69 1 (.slice p xs.length OQ) xs.length (xs.map TV.ptr))
  (Hxl:xs.length=M.ts.length) (Hts:∀p,p∈xs.zip M.ts->NN w p.1 p.2) (Pr:(BD mb mv (.slice p xs.length OQ) xs).Nodup)
  (Ct:w1.ownsRow 0 69 1 (.slice (some ⟨g2,0,none⟩) (xs.length+1) bR) (xs.length+1) (xs.map TV.ptr++[i6 (w.heap.size+1)]))
  (EC:(((w.alloc (.cells #[i5 0,i5 0,i5 0,i5 0,i5 0,i5 0,i5 0,i5 0] 2)).alloc (.cells #[.slice none 0 0,i5 0,.slice (some ⟨w.heap.size,0,none⟩) 8 8,.slice none 0 0,.slice none 0 0,i5 0] 68)).alloc (.cells C1 T1)).drew.grownBy w1 (Value.slice p xs.length OQ).ownBlock)
  (FA:(Value.slice p xs.length OQ).ownBlock=some g2\/g2=w.heap.size+3):
  Yg (.ok {M with ts:=M.ts++[.new]}) mb (BD mb mv (.slice p xs.length OQ) xs) w (.returned (i5 0)) (w1.setCell ⟨mb,1,none⟩ (.slice (some ⟨g2,0,none⟩) (xs.length+1) bR)):=by
 have Ia:∀b,b∈BD mb mv (.slice p xs.length OQ) xs->b < w.heap.size:=NY;generalize Ou:(Value.slice p xs.length OQ)=tv at*;have WI:=(((((Av.refl tv.ownBlock.toList w).alloc (.cells #[i5 0,i5 0,i5 0,i5 0,i5 0,i5 0,i5 0,i5 0] 2)).alloc (.cells #[.slice none 0 0,i5 0,.slice (some ⟨w.heap.size,0,none⟩) 8 8,.slice none 0 0,.slice none 0 0,i5 0] 68)).alloc (.cells C1 T1)).drew).grown EC (fun k hk=> .inl (Gn hk));have AdS:mb∉tv.ownBlock.toList:=fun h=>by
  rw[BD,Qa5] at Pr;exact Pr.1 (GT _ (D _ h))
 have PE:=HB.lt;have CS:Av (mb::tv.ownBlock.toList) w (w1.setCell ⟨mb,1,none⟩ (.slice (some ⟨g2,0,none⟩) (xs.length+1) bR)):=
  (WI.mono (N:=mb::tv.ownBlock.toList) fun x hx=> .inl (U _ hx)).setCell (p:=⟨mb,1,none⟩) (.inl (J ..)) _
 have Lk:(w.alloc (.cells #[i5 0,i5 0,i5 0,i5 0,i5 0,i5 0,i5 0,i5 0] 2)).heap.size=w.heap.size+1:=Qcg _;have hold:∀g,tv.ownBlock=some g->g < w.heap.size:=fun g hg=>Ia g (by simp[BD,hg])
 have zh:g2≠mb:=by
  rcases FA with h | h
  ·rintro rfl;exact AdS (Gn h)
  ·omega
 have hk:=(Av.refl tv.ownBlock.toList _).grown EC (fun k hk=> .inl (Gn hk));have b1:=((BM.new (w.alloc (.cells #[i5 0,i5 0,i5 0,i5 0,i5 0,i5 0,i5 0,i5 0] 2)) #[.slice none 0 0,i5 0,.slice (some ⟨w.heap.size,0,none⟩) 8 8,.slice none 0 0,.slice none 0 0,i5 0] 68).alloc (.cells C1 T1)).drew;have b0:=(((BM.new w #[i5 0,i5 0,i5 0,i5 0,i5 0,i5 0,i5 0,i5 0] 2).alloc (.cells #[.slice none 0 0,i5 0,.slice (some ⟨w.heap.size,0,none⟩) 8 8,.slice none 0 0,.slice none 0 0,i5 0] 68)).alloc (.cells C1 T1)).drew;rw[Lk] at b1;have K8:w.heap.size+1∉tv.ownBlock.toList:=fun h=>by have:=hold _ (Qci.1 h);omega
 have Gu:w.heap.size∉tv.ownBlock.toList:=fun h=>by have:=hold _ (Qci.1 h);omega
 have c1:=(b1.Bf hk K8).Em (p:=⟨mb,1,none⟩) (by show w.heap.size+1≠mb;omega) (.slice (some ⟨g2,0,none⟩) (xs.length+1) bR);have c0:=(b0.Bf hk Gu).Em (p:=⟨mb,1,none⟩) (by show w.heap.size≠mb;omega) (.slice (some ⟨g2,0,none⟩) (xs.length+1) bR);refine⟨rfl,mv,.slice (some ⟨g2,0,none⟩) (xs.length+1) bR,xs++[⟨w.heap.size+1,.slice none 0 0,.slice (some ⟨w.heap.size,0,none⟩) 8 8,.slice none 0 0,.slice none 0 0⟩],⟨?_,?_,?_,?_,?_,?_⟩,?_,?_⟩
 ·exact(HB.Bf WI AdS).set 1 _
 ·refine Ce Hmv CS fun g hg hx=> ?_
  have hgm:g∈mv.ownBlock.toList:=Gn hg;rw[BD,Qa5,i9] at Pr;rcases Pi.1 hx with rfl | hx
  ·exact Pr.1 (D _ hgm)
  ·exact Pr.2.2.2 g hgm g (D _ hx) rfl
 ·rw[V,Qaz];exact TZ Ct (p:=⟨mb,1,none⟩) (fun h=>zh (Option.some.inj h)) _
 ·simp[Hxl]
 ·intro q hq;rw[Qc1 Hxl] at hq;rcases Nm.1 hq with hq | hq
  ·refine(Hts q hq).Bf CS fun b hb hx=> ?_
   have JK:b∈xs.flatMap TV.fp:=Qay.2 ⟨q.1,(List.of_mem_zip (a:=q.1) (b:=q.2) hq).1,hb⟩;rw[BD,Qa5,i9,i9] at Pr;rcases Pi.1 hx with rfl | hx
   ·exact Pr.1 (GT _ (GT _ JK))
   ·exact Pr.2.2.1.2.2 b hx b JK rfl
  ·obtain rfl:q=_:=by simpa using hq
   exact⟨c1,Da _ _ _ _,⟨rfl,.inr ⟨w.heap.size,8,_,rfl,d6 _,c0,LE _,by unfold maxLen;omega,rfl,rfl⟩⟩,Da _ _ _ _,Da _ _ _ _⟩
 ·have e:BD mb mv (.slice (some ⟨g2,0,none⟩) (xs.length+1) bR) (xs++[⟨w.heap.size+1,.slice none 0 0,.slice (some ⟨w.heap.size,0,none⟩) 8 8,.slice none 0 0,.slice none 0 0⟩])=
    mb::(mv.ownBlock.toList++(g2::(xs.flatMap TV.fp++[w.heap.size+1,w.heap.size]))):=by
   simp[BD,TV.fp,Value.ownBlock]
  rw[e];have hlA:∀b,b∈mv.ownBlock.toList->b < w.heap.size:=fun b hb=>Ia b (U _ (D _ hb))
  have hlC:∀b,b∈xs.flatMap TV.fp->b < w.heap.size:=fun b hb=>Ia b (U _ (GT _ (GT _ hb)))
  have hgA:g2∉mv.ownBlock.toList:=fun h=>by
   rcases FA with h1 | h1
   ·rw[BD,Qa5,i9] at Pr;exact Pr.2.2.2 g2 h g2 (D _ (Gn h1)) rfl
   ·have:=hlA _ h;omega
  have hgC:g2∉xs.flatMap TV.fp:=fun h=>by
   rcases FA with h1 | h1
   ·rw[BD,Qa5,i9,i9] at Pr;exact Pr.2.2.1.2.2 g2 (Gn h1) g2 h rfl
   ·have:=hlC _ h;omega
  have hg3:g2 < w.heap.size\/g2=w.heap.size+3:=by
   rcases FA with h1 | h1
   ·exact .inl (hold _ h1)
   ·exact .inr h1
  rw[BD,Qa5,i9,i9] at Pr;obtain⟨n1,n2,⟨n3,n4,n5⟩,n6⟩:=Pr;generalize mv.ownBlock.toList=A at*;generalize xs.flatMap TV.fp=C at*;simp only[Qa5,i9,Nm,Pi,Qap] at n1⊢;grind
 ·exact CS.mono fun x hx=> .inl (by
     rcases Pi.1 hx with rfl | hx
     · simp[BD]
     · rw[BD];exact U _ (GT _ (D _ hx)))
 ·intro b hb;have e:BD mb mv (.slice (some ⟨g2,0,none⟩) (xs.length+1) bR) (xs++[⟨w.heap.size+1,.slice none 0 0,.slice (some ⟨w.heap.size,0,none⟩) 8 8,.slice none 0 0,.slice none 0 0⟩])=
    mb::(mv.ownBlock.toList++(g2::(xs.flatMap TV.fp++[w.heap.size+1,w.heap.size]))):=by
   simp[BD,TV.fp,Value.ownBlock]
  rw[e] at hb;simp only[BD,Pi,Nm,Qap] at hb⊢;rcases hb with h | h | h | h | h | h | h
  ·exact .inl (.inl h)
  ·exact .inl (.inr (.inl h))
  ·subst h;rcases FA with h1 | h1
   ·exact .inl (.inr (.inr (.inl (Gn h1))))
   ·exact .inr Y
  ·exact .inl (.inr (.inr (.inr h)))
  ·exact .inr Y
  ·exact .inr Y
  ·exact h.elim
theorem gI (l:List ByteArray) (v:Value) (w:World) (mb:Nat) (mv tv:Value) (xs:List TV) (M:Al) (hM:Ex w mb mv tv xs M) (ok:Nat->Prop) (hv:Sl w ok v (A3 l)) (h1:l.length=1) (ht:bs (wd l 0)=AE) (h3:M.ts.length < 3):
  Calls prog 39 #[i6 mb,v] w (Yg (.ok {M with ts:=M.ts++[.new]}) mb (BD mb mv tv xs) w):=by
 obtain⟨i0,hi,KW,Fo,K7⟩:=info_parts tS;have AX:=hM.lt;obtain⟨hB,XD,Ou,Fa,P1,GQ⟩:=hM;obtain⟨hm,⟨rfl,hn⟩ | ⟨b,off,cap,rfl,g1,g2,g3,g4,g5⟩⟩:=hv
 ·exact maO
 rw[CK,h1] at hm g1⊢;have c0:=Sl.Lv g5 0 Y;simp only[Qaj] at c0;have hq:=BO ht;unfold AE at hq;have jb:=hB.cell;have hBf:=hB.free;have uH:=hB.lt;have K8:((xs.length:Int)==3)=false:=by rw[NE];omega
 have yS:xs.length < 3:=Y
 obtain⟨p,OQ,rfl⟩:∃p c,tv= .slice p xs.length c:=by
  exact maM
 have HB:=hid hB;have Hmv:=hid XD;have Htv:=hid Ou;have Hxl:=hid Fa;have Hts:=hid P1;have Pr:=hid GQ;have NY:=hid AX;clear hB XD Ou Fa P1 GQ g5 g3 hm g1 g2 h1 ht h3 AX;have qg:=mk8;have Hmk:=hid qg;go_enter func39,ntmps39;go_wp2_with fail;have hS1:w.cell? ⟨mb,1,none⟩=some (.slice p xs.length OQ):=jb 1;have hS2:=hBf 1;have Bi:some mb≠(Value.slice p xs.length OQ).ownBlock:=by
  intro h;have:=Pr.out;rw[BD,Qa5] at this;exact this.1 (by simp[<-h])
 have Mr:=hid Bi;have AeE:=hid uH;have Agm:mb < w.heap.size+1:=Y
 have Agl:mb < w.heap.size+1+1:=Y
 have Agk:mb < w.heap.size+2:=Y
 clear jb hBf c0 Bi
 go_region_law
  ((refine step_append_lies _ Do _ _ _ Do 0 69 i0 _ 1 8 underlying32 hi KW Fo K7 rfl Y (.slice p xs.length OQ) xs.length (xs.map TV.ptr) Do
      (J9 (D7 (D7 (D7 Htv _) _) _))
      ⟨w.heap.size+2,0,none⟩ 1 1 [i6 (w.heap.size+1)] Do Do (Qb5 (cs:= #[i6 (w.heap.size+1)]) (t:=69) (fr:=(0,0)) (jH w _ _ _)) (by simp[Value.oneCell'])
      Y (by unfold maxLen;omega) Y (d6 _) (w.heap.size+3) (OS w _ _ _) ?_;intro g2 bR w1 uB EC FA iR
    have P5:w1.frozen? ⟨mb,1,none⟩=false:=by
      rw[EC.frozen_far _ (by rw[OS];exact Qaq AeE.out (Nat.le_add_right _ 3)) Mr.out];exact((((HB.alloc _).alloc _).alloc _).free 1)
    have KM:w1.cell? ⟨mb,1,none⟩=some (.slice p xs.length OQ):=by
      rw[EC.cell_far _ (by rw[OS];exact Qaq AeE.out (Nat.le_add_right _ 3)) Mr.out];exact((((HB.alloc _).alloc _).alloc _).cell 1)))
 all_goals
  go_wp2;go_ret;exact VS NY HB Hmv Htv Hxl Hts Pr ‹_› ‹_› ‹_›
theorem Xi (w:World) (A B:Obj):((w.alloc A).alloc B).drew.heap[w.heap.size+1]?=some B:=by
 show((w.heap.push A).push B)[w.heap.size+1]?=_;have h:(w.heap.push A).size=w.heap.size+1:=EQ
 rw[<-h,Array.getElem?_push_size]
theorem U6 (h:(BD mb mv tv (xs++[x])).Nodup):
  (∀g,tv.ownBlock=some g->mb≠g/\∀b,b∈x.fp->g≠b)/\(∀b,b∈x.fp->mb≠b)/\x.fp.Nodup:=by
 have hx:∀b,b∈x.fp->b∈(xs++[x]).flatMap TV.fp:=fun b hb=>Qay.2 ⟨x,EQ,hb⟩
 rw[BD,Qa5,i9,i9] at h;obtain⟨h1,h2,⟨h3,h4,h5⟩,h6⟩:=h;refine⟨fun g hg=>⟨?_,fun b hb=>h5 g (Gn hg) b (hx b hb)⟩,fun b hb=> ?_,?_⟩
 ·rintro rfl;exact h1 (GT _ (D _ (Gn hg)))
 ·rintro rfl;exact h1 (GT _ (GT _ (hx _ hb)))
 ·rw[Qba,i9] at h4;simpa using h4.2.1
theorem cY {w6:World} {ts:List C9} {t:C9} {i:Bj} {g6 AZ:Nat} {A B:Obj}
  (hM:Ex w mb mv tv (xs++[x]) M) (P1:M.ts=ts++[t]) (CS:Av [] w w1)
  (Ct:w6.ownsRow 0 101 9 (.slice (some ⟨g6,0,none⟩) (t.Ab.length+1) AZ) (t.Ab.length+1) (Gy t.Ab++i.cells.toList))
  (EC:((w1.alloc A).alloc B).drew.grownBy w6 x.cv.ownBlock) (FA:x.cv.ownBlock=some g6\/g6=w1.heap.size+2):
  Yg (.ok {M with ts:=ts++[{t with Ab:=t.Ab++[i]}]}) mb (BD mb mv tv (xs++[x])) w (.returned (i5 0)) (w6.setCell ⟨x.tb,0,none⟩ (.slice (some ⟨g6,0,none⟩) (t.Ab.length+1) AZ)):=by
 have Ia:=hM.lt;obtain⟨hB,XD,Ou,Fa,Ms,GQ⟩:=hM;have AbG:xs.length=ts.length:=by rw[P1] at Fa;simpa using Fa
 have hz:(xs++[x]).zip M.ts=xs.zip ts++[(x,t)]:=by rw[P1,Qc1 AbG];rfl
 obtain⟨x1,x2,x3,x4,x5⟩:NN w x t:=Ms (x,t) (by rw[hz];simp);have qh:Av x.cv.ownBlock.toList w w6:=((((CS.nil (M:=x.cv.ownBlock.toList)).alloc A).alloc B).drew).grown EC (fun k hk=> .inl (Gn hk));have hm7:Av (x.tb::x.cv.ownBlock.toList) w (w6.setCell ⟨x.tb,0,none⟩ (.slice (some ⟨g6,0,none⟩) (t.Ab.length+1) AZ)):=
  (qh.mono (N:=x.tb::x.cv.ownBlock.toList) fun y hy=> .inl (U _ hy)).setCell (p:=⟨x.tb,0,none⟩) (.inl (J ..)) _
 have hf:∀b,b∈x.tb::x.cv.ownBlock.toList->b∈x.fp:=fun b hb=>by
  rcases Pi.1 hb with rfl | hb
  ·simp[TV.fp]
  ·simp[TV.fp,Qci.1 hb]
 have hl:∀g,x.cv.ownBlock=some g->g < w.heap.size:=fun g hg=>(DD x2 hg).2
 have bA:=CS.size;refine⟨rfl,mv,tv,xs++[{x with cv:= .slice (some ⟨g6,0,none⟩) (t.Ab.length+1) AZ}],⟨?_,?_,?_,?_,?_,?_⟩,?_,?_⟩
 ·exact hB.Bf hm7 fun h=>(U6 GQ).2.1 mb (hf mb h) rfl
 ·refine Ce XD hm7 fun g hg hx=> ?_
  have h1:g∈mv.ownBlock.toList:=Gn hg;have h2:g∈(xs++[x]).flatMap TV.fp:=Qay.2 ⟨x,EQ,hf g hx⟩;rw[BD,Qa5,i9] at GQ;exact GQ.2.2.2 g h1 g (GT _ h2) rfl
 ·have:=Ce Ou hm7 fun g hg hx=>((U6 GQ).1 g hg).2 g (hf g hx) rfl
  simpa[TV.ptr] using this
 ·simpa using AbG
 ·intro q hq;rw[Qc1 AbG] at hq;rcases Nm.1 hq with hq | hq
  ·refine(Ms q (by rw[hz];exact D _ hq)).Bf hm7 fun b hb hx=> ?_
   have h1:b∈xs.flatMap TV.fp:=Qay.2 ⟨q.1,(List.of_mem_zip (a:=q.1) (b:=q.2) hq).1,hb⟩;rw[BD,Qa5,i9,i9,Qba,i9] at GQ;exact GQ.2.2.1.2.1.2.2 b h1 b (by simpa using hf b hx) rfl
  ·obtain rfl:q=_:=by simpa using hq
   have kP:=(U6 GQ).2.2;rw[TV.fp,Qa5,i9] at kP;have hr:∀b,b∈x.rv.ownBlock.toList++(x.wv.ownBlock.toList++x.ov.ownBlock.toList)->b∉x.tb::x.cv.ownBlock.toList:=fun b hb hx=>by
    rcases Pi.1 hx with rfl | hx
    ·exact kP.1 (GT _ hb)
    ·exact kP.2.2.2 b hx b hb rfl
   have hg6:g6≠x.tb:=by
    rcases FA with h | h
    ·rintro rfl;exact kP.1 (D _ (Gn h))
    ·have:=x1.lt;omega
   refine⟨(x1.Bf qh fun h=>kP.1 (D _ h)).set 0 _,?_,Ce x3 hm7 fun g hg=>hr g (by simp[hg]),Ce x4 hm7 fun g hg=>hr g (by simp[hg]),Ce x5 hm7 fun g hg=>hr g (by simp[hg])⟩;have:=TZ Ct (p:=⟨x.tb,0,none⟩) (fun h=>hg6 (Option.some.inj h)) (.slice (some ⟨g6,0,none⟩) (t.Ab.length+1) AZ);simpa[Gy] using this
 ·have e1:BD mb mv tv (xs++[x])=(mb::(mv.ownBlock.toList++(tv.ownBlock.toList++(xs.flatMap TV.fp++[x.tb]))))++(x.cv.ownBlock.toList++(x.rv.ownBlock.toList++(x.wv.ownBlock.toList++x.ov.ownBlock.toList))):=by
   simp[BD,TV.fp]
  have e2:BD mb mv tv (xs++[{x with cv:= .slice (some ⟨g6,0,none⟩) (t.Ab.length+1) AZ}])=(mb::(mv.ownBlock.toList++(tv.ownBlock.toList++(xs.flatMap TV.fp++[x.tb]))))++(g6::(x.rv.ownBlock.toList++(x.wv.ownBlock.toList++x.ov.ownBlock.toList))):=by
   simp[BD,TV.fp,Value.ownBlock]
  rw[e2];rw[e1] at GQ Ia;rcases FA with h | h
  ·rw[h] at GQ;exact GQ
  ·rw[List.perm_middle.nodup_iff,Qa5];refine⟨fun hx=> ?_,GQ.sublist (List.Sublist.append (List.Sublist.refl _) (List.sublist_append_right _ _))⟩;have:g6 < w.heap.size:=Ia g6 (by
     rcases Nm.1 hx with hx | hx
     · exact D _ hx
     · exact GT _ (GT _ hx))
   omega
 ·exact hm7.mono fun y hy=> .inl (by
     have:=hf y hy;rw[BD];exact U _ (GT _ (GT _ (Qay.2 ⟨x,EQ,this⟩))))
 ·intro b hb;have e2:BD mb mv tv (xs++[{x with cv:= .slice (some ⟨g6,0,none⟩) (t.Ab.length+1) AZ}])=(mb::(mv.ownBlock.toList++(tv.ownBlock.toList++(xs.flatMap TV.fp++[x.tb]))))++(g6::(x.rv.ownBlock.toList++(x.wv.ownBlock.toList++x.ov.ownBlock.toList))):=by
   simp[BD,TV.fp,Value.ownBlock]
  have e1:BD mb mv tv (xs++[x])=(mb::(mv.ownBlock.toList++(tv.ownBlock.toList++(xs.flatMap TV.fp++[x.tb]))))++(x.cv.ownBlock.toList++(x.rv.ownBlock.toList++(x.wv.ownBlock.toList++x.ov.ownBlock.toList))):=by
   simp[BD,TV.fp]
  rw[e2] at hb;rw[e1];rcases Nm.1 hb with hb | hb
  ·exact .inl (D _ hb)
  ·rcases Pi.1 hb with rfl | hb
   ·rcases FA with h | h
    ·exact .inl (GT _ (D _ (Gn h)))
    ·exact .inr Y
   ·exact .inl (GT _ (GT _ hb))
theorem yc (l:List ByteArray) (v:Value) (w:World) (mb:Nat) (mv tv:Value) (xs:List TV) (x:TV) (M:Al) (ts:List C9) (t:C9) (i:Bj) (hM:Ex w mb mv tv (xs++[x]) M) (P1:M.ts=ts++[t]) (ok:Nat->Prop) (hv:Sl w ok v (A3 l))
  (Bi:l≠[]) (hs:∀s,s∈l->s.size<=maxLen) (ej:¬(l.length=1/\bs (wd l 0)=AE)) (hi:Ez l=some i) (hc:t.Ab.length < 4000) (hxs:xs.length < 3):
  Calls prog 39 #[i6 mb,v] w (Yg (.ok {M with ts:=ts++[{t with Ab:=t.Ab++[i]}]}) mb (BD mb mv tv (xs++[x])) w):=by
 have Ic:=fun w hv=>Vc l v w ok hv Bi hs
 unfold wL at Ic;simp only[Bj.val,Bj.cells] at Ic;obtain⟨j0,hj,KW,Fo,K7⟩:=info_parts tW;have HMm:=hid hM;have AX:=hM.lt;have Gu:=U6 hM.2.2.2.2.2;obtain⟨hB,XD,Ou,Fa,Ms,GQ⟩:=hM;have hlen:0 < l.length:=by cases l with | nil=>exact UV rfl Bi | cons a r=>simp
 have hx:NN w x t:=Ms (x,t) (by rw[P1,Qc1 (by rw[P1] at Fa;simpa using Fa)];simp);obtain⟨x1,x2,x3,x4,x5⟩:=hx;obtain⟨g,cap,rfl,hg1,zh,hg3,hg4,hgc,hgf⟩:=AG Ou EQ;have K8:=Gu.1 g rfl;have n1:mb≠g:=K8.1;have n2:mb≠x.tb:=Gu.2.1 _ (by simp[TV.fp]);have n3:g≠x.tb:=K8.2 _ (by simp[TV.fp]);have n4:∀h,x.cv.ownBlock=some h->h≠mb/\h≠g/\h≠x.tb:=fun h hh=>by
  have hf:h∈x.fp:=by simp[TV.fp,hh]
  refine⟨fun e=>Gu.2.1 h hf e.symm,fun e=>K8.2 h hf e.symm,fun e=> ?_⟩;have:=Gu.2.2;rw[TV.fp,Qa5] at this;exact this.1 (by rw[<-e];simp[hh])
 have N4:=hid n4;clear Gu K8 n4;have hk:w.cell? ⟨g,xs.length,none⟩=some (i6 x.tb):=by
  rw[hgc xs.length EQ];simp[TV.ptr]
 rw[show(xs++[x]).length=xs.length+1 by simp] at Ou Fa;have Hv:=hid hv;obtain⟨hm,⟨rfl,hn⟩ | ⟨b,off,Acv,rfl,g1,g2,g3,g4,g5⟩⟩:=hv
 ·exact maO
 rw[CK] at hm g1 Ic Hv⊢;have c0:=Sl.Lv g5 0 hlen;simp only[Qaj] at c0;have jb:=hB.cell;have hBf:=hB.free;have uH:=hB.lt;have Sj:=hid Ic;have HB:=hid hB;have Hmv:=hid XD;have Htv:=hid Ou;have Hxl:=hid Fa;have Hth:=hid Ms;have Pr:=hid GQ;have NY:=hid AX;have X1:=hid x1;have X2:=hid x2;have X3:=hid x3;have X4:=hid x4;have X5:=hid x5;have Hk:=hid hk;have Hts:=hid P1;have Hi:=hid hi;have Hnt:=hid ej;clear Ic hB XD Ou Fa Ms GQ x1 x2 x3 x4 x5 g5 AX hk P1 hi hgc hgf hs Bi g3 ej;go_enter func39,ntmps39;go_upto_region 2 with(fail)
 go_cut [22] (fun q w'=>w'=w/\q= .bool false)
 case first=>
  exact maq
 case rest=>
  obtain⟨hw,rfl⟩:=hcut;obtain rfl:=hw;go_wp2_with fail;refine(Sj _ Hv).mono ?_;rintro e w1 ⟨i',rfl,Zg,CS⟩;obtain rfl:=Zg i Hi.out;rw[Hi.out];have LD:=hid CS;have Hk1:=AU CS Hk.out;have qm:=HB.Bf CS EQ;have hX1:=X1.Bf CS EQ;have AfQ:=qm.cell 1;have Jq:=hX1.cell 0;have KN:=hX1.free 0;simp only[Qbd,Qbe,Qbj] at AfQ Jq;have qe:=qm.lt;have Fa:=hX1.lt;have hgl:g < w1.heap.size:=H9 Hk1;obtain⟨pc,capc,uY⟩:∃p c,x.cv= .slice p t.Ab.length c:=by
   rcases X2.2 with⟨h,h0⟩ | ⟨g',c',cur,h,_⟩
   ·exact⟨none,0,by rw[h,h0]⟩
   ·exact⟨_,_,h⟩
  rw[uY] at Jq;have Db:((t.Ab.length:Int)==4000)=false:=by rw[NE];omega
  have pW:=hid uY;have Uk:w1.ownsRow 0 101 9 (.slice pc t.Ab.length capc) t.Ab.length (Gy t.Ab):=by
   rw[<-uY];exact Ce X2 CS EQ
  have HX2:=hid Uk;have N5:=hid (show∀h,(Value.slice pc t.Ab.length capc).ownBlock=some h->h≠mb/\h≠g/\h≠x.tb by rw[<-uY];exact N4.out);have HX1:=hid hX1;clear Zg CS qm hX1 uY jb hBf Uk;have AgJ:mb≠w1.heap.size:=Y
  have hgn:g≠w1.heap.size:=Y
  have hxn:x.tb≠w1.heap.size:=Y
  have Adw:∀(A B:Obj),((w1.alloc A).alloc B).drew.heap.size=w1.heap.size+2:=fun A B=>by show((w1.heap.push A).push B).size=_;simp
  have HSz:=hid Adw;clear Adw;go_upto_region 14 with fail
  have hI0:(0:Int)<=(xs.length:Int):=Qa2 _;have hI1:(xs.length:Int) < ((xs.length:Int)+1):=Y
  have bD:∀h,(Value.slice pc t.Ab.length capc).ownBlock=some h->h < w1.heap.size:=fun h hh=>(DD HX2 hh).2
  have Hbn:=hid bD;clear bD;refine Ap (l:=[(0,true),(1,true),(2,true),(3,true),(4,true),(5,true),(6,true),(7,true),(8,true),(9,true),(10,true),(11,true),(12,true),(13,true),(14,true),(15,true),(16,true),(17,true),(18,false),(19,false),(20,true),(21,true),(22,false)]) (fun w'=>w'.cell? ⟨mb,1,none⟩=some (.slice (some ⟨g,0,none⟩) (xs.length+1) cap)/\w'.cell? ⟨g,xs.length,none⟩=some (i6 x.tb)/\
      w'.cell? ⟨x.tb,0,none⟩=some (.slice pc t.Ab.length capc)/\∀i,w'.cell? ⟨w1.heap.size,i,none⟩=(#[.string i'.Lv,i5 i'.d,.bool i'.a.B0,i5 i'.a.v,.bool i'.b.B0,i5 i'.b.v,.bool i'.c.B0,i5 i'.c.v,i5 i'.k]:Array Value)[i]?) 22 ?_ ?_
  ·exact⟨by go_simp,by go_simp,by go_simp,fun q=>(BM.new w1 #[.string i'.Lv,i5 i'.d,.bool i'.a.B0,i5 i'.a.v,.bool i'.b.B0,i5 i'.b.v,.bool i'.c.B0,i5 i'.c.v,i5 i'.k] 101).cell q⟩
  ·repeat
    refine I0 (v:= ?_) rfl rfl rfl (fun W hW=> ?_) ?_;rotate_left
    ·obtain⟨s1,s2,s3,s4⟩:=hW;go_simp;rfl
    simp only[FQ]
   refine Ai rfl (fun K hK=> ?_);go_simp;refine hK _ _ (fun _=>⟨by go_simp,by go_simp,by go_simp,fun q=>((BM.new w1 #[.string i'.Lv,i5 i'.d,.bool i'.a.B0,i5 i'.a.v,.bool i'.b.B0,i5 i'.b.v,.bool i'.c.B0,i5 i'.c.v,i5 i'.k] 101).alloc _).cell q⟩) ?_;refine Ai rfl (fun K hK=> ?_);refine step_append_lies _ Do _ _ _ Do 0 101 j0 _ 9 80 underlying65 hj KW Fo K7 rfl Y (.slice pc t.Ab.length capc) t.Ab.length (Gy t.Ab) Do
     (J9 (D7 (D7 HX2 _) _))
     ⟨w1.heap.size+1,0,none⟩ 1 1 i'.cells.toList Do Do (Qb5 (cs:=i'.cells) (t:=101) (fr:=(0,0)) (Xi w1 _ _)) (by simp[Value.oneCell',Bj.cells])
     Y (by unfold maxLen;omega) Y (d6 _) (w1.heap.size+2) (HSz _ _) ?_
   intro g6 AZ w6 kM EC Aeb AgK;have xq:∀a:Addr,a.block < w1.heap.size+2->(Value.slice pc t.Ab.length capc).ownBlock≠some a.block->w6.cell? a=((w1.alloc (.cells i'.cells 101)).alloc (.cells i'.cells 101)).drew.cell? a:=fun a h1 h2=>EC.cell_far a (by rw[HSz.out];exact h1) (Ne.symm h2)
   have s1:w6.cell? ⟨mb,1,none⟩=some (.slice (some ⟨g,0,none⟩) (xs.length+1) cap):=by
    rw[xq _ (by show mb < _;omega) (fun h=>(N5.out _ h).1 rfl)];go_simp
   have s2:w6.cell? ⟨g,xs.length,none⟩=some (i6 x.tb):=by
    rw[xq _ (by show g < _;omega) (fun h=>(N5.out _ h).2.1 rfl)];go_simp
   have s3:w6.cell? ⟨x.tb,0,none⟩=some (.slice pc t.Ab.length capc):=by
    rw[xq _ (by show x.tb < _;omega) (fun h=>(N5.out _ h).2.2 rfl)];go_simp
   have s4:∀q,w6.cell? ⟨w1.heap.size,q,none⟩=(#[.string i'.Lv,i5 i'.d,.bool i'.a.B0,i5 i'.a.v,.bool i'.b.B0,i5 i'.b.v,.bool i'.c.B0,i5 i'.c.v,i5 i'.k]:Array Value)[q]?:=fun q=>by
    rw[xq _ (by show w1.heap.size < _;omega) (fun h=>Qdy _ (Hbn.out _ h))];exact((BM.new w1 #[.string i'.Lv,i5 i'.d,.bool i'.a.B0,i5 i'.a.v,.bool i'.b.B0,i5 i'.b.v,.bool i'.c.B0,i5 i'.c.v,i5 i'.k] 101).alloc _).cell q
   have hf6:w6.frozen? ⟨x.tb,0,none⟩=false:=by
    rw[EC.frozen_far _ (by rw[HSz.out];show x.tb < _;omega) (fun h=>(N5.out _ h.symm).2.2 rfl)];exact(((HX1.alloc _).alloc _).free 0)
   refine hK _ _ (fun _=>⟨s1,s2,s3,s4⟩) (D9 rfl ?_);simp only[FQ];refine AY ?_;clear s4 xq;refine Ai rfl (fun K hK=> ?_);go_simp;refine hK _ _ (fun h=>UV rfl h) ?_;simp only[BB];go_wp2;go_ret;rw[<-pW.out] at EC Aeb;exact cY HMm Hts LD kM EC Aeb
theorem rR (l:List ByteArray) (v:Value) (w:World) (mb:Nat) (mv tv:Value) (xs:List TV) (M:Al) (hM:Ex w mb mv tv xs M) (ok:Nat->Prop) (hv:Sl w ok v (A3 l)) (h1:l.length=1) (ht:bs (wd l 0)=AE) (h3:M.ts.length=3) (F:List Nat):
  Calls prog 39 #[i6 mb,v] w (Yg (.error 5) mb F w):=by
 obtain⟨hB,XD,Ou,Fa,P1,GQ⟩:=hM;obtain⟨hm,⟨rfl,hn⟩ | ⟨b,off,cap,rfl,g1,g2,g3,g4,g5⟩⟩:=hv
 ·exact maO
 rw[CK,h1] at hm g1⊢;have c0:=Sl.Lv g5 0 Y;simp only[Qaj] at c0;have hq:=BO ht;unfold AE at hq;have jb:=hB.cell 1;have yS:xs.length=3:=Y
 obtain⟨p,OQ,rfl⟩:∃p c,tv= .slice p xs.length c:=by
  exact maM
 rw[yS] at jb;simp only[Qbd,Qbe,Qbj] at jb;clear hB XD Ou Fa P1 GQ g5 g3 hm g1 g2 h1 ht h3 yS;go_enter func39,ntmps39;go_wp2;go_ret;exact⟨rfl,Av.refl _ _⟩
theorem rM (l:List ByteArray) (v:Value) (w:World) (mb:Nat) (mv tv:Value) (xs:List TV) (M:Al) (hM:Ex w mb mv tv xs M) (ok:Nat->Prop) (hv:Sl w ok v (A3 l))
  (Bi:l≠[]) (hs:∀s,s∈l->s.size<=maxLen) (ej:¬(l.length=1/\bs (wd l 0)=AE)) (hi:Ez l=none) (F:List Nat):
  Calls prog 39 #[i6 mb,v] w (Yg (.error 2) mb F w):=by
 have Ic:=fun w hv=>Vc l v w ok hv Bi hs
 unfold wL at Ic;simp only[Bj.val,Bj.cells] at Ic;obtain⟨hB,XD,Ou,Fa,Ms,GQ⟩:=hM;have hlen:0 < l.length:=by cases l with | nil=>exact UV rfl Bi | cons a r=>simp
 have Hv:=hid hv;obtain⟨hm,⟨rfl,hn⟩ | ⟨b,off,Acv,rfl,g1,g2,g3,g4,g5⟩⟩:=hv
 ·exact maO
 rw[CK] at hm g1 Ic Hv⊢;have c0:=Sl.Lv g5 0 hlen;simp only[Qaj] at c0;obtain⟨p,OQ,rfl⟩:∃p c,tv= .slice p xs.length c:=by
  exact maM
 have jb:=hB.cell 1;simp only[Qbd,Qbe,Qbj] at jb;have uH:=hB.lt;have Sj:=hid Ic;have HB:=hid hB;have Hnt:=hid ej;have Hi:=hid hi;clear Ic hB XD Ou Fa Ms GQ g5 hs Bi g3 ej hi;go_enter func39,ntmps39;go_upto_region 2 with(fail)
 go_cut [22] (fun q w'=>w'=w/\q= .bool false)
 case first=>
  exact maq
 case rest=>
  exact mbb
theorem rO (l:List ByteArray) (v:Value) (w:World) (mb:Nat) (mv tv:Value) (xs:List TV) (M:Al) (i:Bj) (hM:Ex w mb mv tv xs M) (ok:Nat->Prop) (hv:Sl w ok v (A3 l))
  (Bi:l≠[]) (hs:∀s,s∈l->s.size<=maxLen) (ej:¬(l.length=1/\bs (wd l 0)=AE)) (hi:Ez l=some i) (h0:M.ts=[]) (F:List Nat):
  Calls prog 39 #[i6 mb,v] w (Yg (.error 3) mb F w):=by
 have Ic:=fun w hv=>Vc l v w ok hv Bi hs
 unfold wL at Ic;simp only[Bj.val,Bj.cells] at Ic;obtain⟨hB,XD,Ou,Fa,Ms,GQ⟩:=hM;have hlen:0 < l.length:=by cases l with | nil=>exact UV rfl Bi | cons a r=>simp
 have Hv:=hid hv;obtain⟨hm,⟨rfl,hn⟩ | ⟨b,off,Acv,rfl,g1,g2,g3,g4,g5⟩⟩:=hv
 ·exact maO
 rw[CK] at hm g1 Ic Hv⊢;have c0:=Sl.Lv g5 0 hlen;simp only[Qaj] at c0;obtain⟨p,OQ,rfl⟩:∃p c,tv= .slice p xs.length c:=by
  exact maM
 have jb:=hB.cell 1;simp only[Qbd,Qbe,Qbj] at jb;have uH:=hB.lt;have Sj:=hid Ic;have HB:=hid hB;have Hnt:=hid ej;have Hi:=hid hi;obtain rfl:xs=[]:=RK (by rw[Fa,h0];rfl);clear h0;clear Ic hB XD Ou Fa Ms GQ g5 hs Bi g3 ej hi;go_enter func39,ntmps39;go_upto_region 2 with(fail)
 go_cut [22] (fun q w'=>w'=w/\q= .bool false)
 case first=>
  exact maq
 case rest=>
  exact mbb
theorem rN (l:List ByteArray) (v:Value) (w:World) (mb:Nat) (mv tv:Value) (xs:List TV) (x:TV) (M:Al) (ts:List C9) (t:C9) (i:Bj) (hM:Ex w mb mv tv (xs++[x]) M) (ok:Nat->Prop) (hv:Sl w ok v (A3 l))
  (Bi:l≠[]) (hs:∀s,s∈l->s.size<=maxLen) (ej:¬(l.length=1/\bs (wd l 0)=AE)) (hi:Ez l=some i) (P1:M.ts=ts++[t]) (h4:t.Ab.length=4000) (hxs:xs.length < 3) (F:List Nat):
  Calls prog 39 #[i6 mb,v] w (Yg (.error 5) mb F w):=by
 have Ic:=fun w hv=>Vc l v w ok hv Bi hs
 unfold wL at Ic;simp only[Bj.val,Bj.cells] at Ic;obtain⟨hB,XD,Ou,Fa,Ms,GQ⟩:=hM;have hx:NN w x t:=Ms (x,t) (by rw[P1,Qc1 (by rw[P1] at Fa;simpa using Fa)];simp);obtain⟨x1,x2,x3,x4,x5⟩:=hx;obtain⟨g,cap,rfl,hg1,zh,hg3,hg4,hgc,hgf⟩:=AG Ou EQ;have hk:w.cell? ⟨g,xs.length,none⟩=some (i6 x.tb):=by
  rw[hgc xs.length EQ];simp[TV.ptr]
 have hle:(xs++[x]).length=xs.length+1:=EQ
 rw[hle] at hB;obtain⟨pc,capc,uY⟩:∃p c,x.cv= .slice p t.Ab.length c:=by
  rcases x2.2 with⟨h,h0⟩ | ⟨g',c',cur,h,_⟩
  ·exact⟨none,0,by rw[h,h0]⟩
  ·exact⟨_,_,h⟩
 have Jq:=x1.cell 0;simp only[Qbd,Qbe] at Jq;rw[uY,h4] at Jq;have hlen:0 < l.length:=by cases l with | nil=>exact UV rfl Bi | cons a r=>simp
 have Hv:=hid hv;obtain⟨hm,⟨rfl,hn⟩ | ⟨b,off,Acv,rfl,g1,g2,g3,g4,g5⟩⟩:=hv
 ·exact maO
 rw[CK] at hm g1 Ic Hv⊢;have c0:=Sl.Lv g5 0 hlen;simp only[Qaj] at c0;have jb:=hB.cell 1;simp only[Qbd,Qbe,Qbj] at jb;have uH:=hB.lt;have Sj:=hid Ic;have HB:=hid hB;have Hnt:=hid ej;have Hi:=hid hi;have Hk:=hid hk;have HXc:=hid Jq;have HBc:=hid jb;clear hk Jq jb hgc hgf P1 h4 x1 x2 x3 x4 x5 uY hle;clear Ic hB XD Ou Fa Ms GQ g5 hs Bi g3 ej hi;have Ag3:=HBc.out;go_enter func39,ntmps39;go_upto_region 2 with(fail)
 go_cut [22] (fun q w'=>w'=w/\q= .bool false)
 case first=>
  exact maq
 case rest=>
  obtain⟨hw,rfl⟩:=hcut;obtain rfl:=hw;go_wp2_with fail;refine(Sj _ Hv).mono ?_;rintro e w1 ⟨i',rfl,Zg,CS⟩;rw[Hi.out];have LD:=hid CS;have k1:=AU CS Hk.out;have k2:=AU CS HXc.out;have k3:=AU CS HBc.out;have l1:g < w1.heap.size:=H9 k1;have l2:x.tb < w1.heap.size:=H9 k2;have l3:mb < w1.heap.size:=H9 k3;clear Zg CS;go_wp2;go_ret;exact⟨rfl,LD.alloc _⟩
theorem yd (l:List ByteArray) (v:Value) (w:World) (mb:Nat) (mv tv:Value) (xs:List TV) (M:Al) (hM:Ex w mb mv tv xs M) (ok:Nat->Prop) (hv:Sl w ok v (A3 l))
  (Bi:l≠[]) (hs:∀s,s∈l->s.size<=maxLen) (h3:M.ts.length<=3) (h4:∀t,t∈M.ts->t.Ab.length<=4000):
  Calls prog 39 #[i6 mb,v] w (Yg (Rm M l) mb (BD mb mv tv xs) w):=by
 unfold Rm;by_cases ht:l.length=1/\bs (wd l 0)=AE
 ·rw[In ht];by_cases hf:M.ts.length=3
  ·rw[In hf];exact rR l v w mb mv tv xs M hM ok hv ht.1 ht.2 hf _
  ·rw[I hf];exact gI l v w mb mv tv xs M hM ok hv ht.1 ht.2 Y
 ·rw[I ht];cases hi:Ez l with
  | none=>exact rM l v w mb mv tv xs M hM ok hv Bi hs ht hi _
  | some i=>
   rcases f5 M.ts with h0 | ⟨ts,t,P1⟩
   ·rw[h0];exact rO l v w mb mv tv xs M i hM ok hv Bi hs ht hi h0 _
   ·rw[m8] at P1;have Fa:=hM.2.2.2.1;rw[P1,V] at Fa;rcases f5 xs with hx | ⟨ys,x,hx⟩
    ·rw[hx] at Fa;simp at Fa
    ·rw[m8] at hx;subst hx;have cq:ys.length < 3:=by rw[P1] at h3;simp at Fa h3;omega
     rw[P1];simp only[Qa3,Qav,Qbm,Qat];by_cases hc:t.Ab.length=4000
     ·rw[In hc];exact rN l v w mb mv tv ys x M ts t i hM ok hv Bi hs ht hi P1 hc cq _
     ·rw[I hc];have:=h4 t (by rw[P1];simp);exact yc l v w mb mv tv ys x M ts t i hM P1 ok hv Bi hs ht hi Y cq
def EW:List By->Nat->Al->Except (Int×Nat) Al
 | [],_,M=> .ok M
 | [p],n,M=>if p=[]/\0 < n then .ok M else .error (2,n+1)
 | p::q::r,n,M=>match Rm M (Bn p) with
  | .error c=> .error (c,n+1)
  | .ok M'=>EW (q::r) (n+1) M'
def Lj (s:By):Except (Int×Nat) Al:=
 if 131072 < s.length then .error (1,0) else EW (Ax 10 s) 0 ⟨List.replicate 256 0,[]⟩
def Aev (r:Except (Int×Nat) Al) (w:World) (e:Ending) (w':World):Prop:=
 match r with
 | .error c=>e= .returned (.tuple #[.pointer none,i5 c.1,i5 c.2])/\Av [] w w'
 | .ok M=>∃mb mv tv xs,e= .returned (.tuple #[i6 mb,i5 0,i5 0])/\Ex w' mb mv tv xs M/\Av [] w w'/\∀b,b∈BD mb mv tv xs->w.heap.size<=b
theorem Adg (w:World):(Instr.makeSlice 31 (i5 256) (i5 256)).run prog w= .ok (.slice (some ⟨w.heap.size,0,none⟩) 256 256) (w.alloc (.cells (Array.replicate 256 (i5 0)) 2)):=Fd
def Aew (s:ByteArray) (w:World) (mb fr n k:Nat) (wr:World):Prop:=
 ∃(M:Al) (mv tv:Value) (xs:List TV),fr<=k/\k<=s.size/\n<=k/\Ex wr mb mv tv xs M/\Av [] w wr/\(∀b,b∈BD mb mv tv xs->w.heap.size<=b)/\
  M.ts.length<=3/\(∀t,t∈M.ts->t.Ab.length<=4000)/\Lj (bs s)=EW (PJ (bs (s.extract fr k)) (Ax 10 ((bs s).drop k))) n M
theorem ve (a:By) (q:List By) (n m:Nat) (ha:a.length<=m) (hq:∀p,p∈q->p.length<=n):∀p,p∈PJ a q->p.length<=m+n:=by
 cases q with
 | nil=>intro p hp;rw[PJ,Z] at hp;subst hp;omega
 | cons r rs=>
  intro p hp;rcases Pi.1 hp with rfl | hp
  ·have:=hq r EQ;rw[V];omega
  ·have:=hq p (U _ hp);omega
theorem cQ (c:UInt8) (s:By):∀p,p∈Ax c s->p.length<=s.length:=by
 induction s with
 | nil=>intro p hp;simp[Ax] at hp;subst hp;exact LE _
 | cons x r ih=>
  intro p hp;by_cases h:x=c
  ·exact mbw
  ·rw[Hy c x r h] at hp;have:=ve [x] _ r.length 1 (LE _) ih p hp;simp only[IR];omega
theorem rU {c:Int} (h:Rm M l= .error c):c=2\/c=3\/c=5:=by
 unfold Rm at h;split at h
 ·split at h
  ·cases h;simp
  ·cases h
 ·split at h
  ·cases h;simp
  ·split at h
   ·cases h;simp
   ·split at h
    ·cases h;simp
    ·cases h
theorem ye {M':Al} (h:Rm M l= .ok M') (h3:M.ts.length<=3) (h4:∀t,t∈M.ts->t.Ab.length<=4000):M'.ts.length<=3/\∀t,t∈M'.ts->t.Ab.length<=4000:=by
 unfold Rm at h;split at h
 ·split at h
  ·cases h
  ·cases h;refine⟨by simp;omega,fun t ht=> ?_⟩;rcases Nm.1 ht with ht | ht
   ·exact h4 t ht
   ·rw[Z] at ht;subst ht;exact d6 _
 ·split at h
  ·cases h
  ·split at h
   ·cases h
   ·rename_i i _ t hl;split at h
    ·cases h
    ·rename_i hc;cases h;have hm:t∈M.ts:=List.mem_of_getLast? hl;have Ox:0 < M.ts.length:=List.length_pos_of_mem hm;refine⟨by simp;omega,fun u hu=> ?_⟩;rcases Nm.1 hu with hu | hu
     ·exact h4 u (List.dropLast_subset _ hu)
     ·rw[Z] at hu;subst hu;have:=h4 t hm;simp only[V,d5];omega
theorem KP (s:ByteArray) (a b:Nat):bs (s.extract a b)=((bs s).drop a).take (b - a):=Lib.extract_data ..
theorem bJ (s:ByteArray) (a k:Nat) (h:a<=k) (hk:k < s.size):bs (s.extract a (k+1))=bs (s.extract a k)++[s[k]]:=by
 rw[KP,KP,show k+1 - a=(k - a)+1 by omega,Qar (by rw[List.length_drop,Bw];omega)];congr 1;rw[List.getElem_drop];have:a+(k - a)=k:=Y
 simp only[this];rfl
theorem dL (s:ByteArray) (w:World) (hs:s.size<=131072):
  Calls prog 24 #[.string s] w (Aev (Lj (bs s)) w):=by
 have qg:=Adg;go_enter func24,ntmps24;go_wp2;go_loopw [6,7,8] (fun f n i wr=>∃fr nn k:Nat,f= i5 fr/\n= i5 nn/\i= i5 k/\Aew s w (w.heap.size+1) fr nn k wr) (fun _ _ i _=>s.size+1 - (intOf i).toNat);case atStart=>
  refine⟨0,0,0,rfl,rfl,rfl,⟨List.replicate 256 0,[]⟩,.slice (some ⟨w.heap.size,0,none⟩) 256 256,.slice none 0 0,[],LE _,d6 _,LE _,?_,((Av.refl _ _).alloc _).alloc _,?_,d6 _,(fun t ht=>by cases ht),?_⟩
  ·have hB:=(BM.new (w.alloc (.cells (Array.replicate 256 (i5 0)) 2)) #[.slice (some ⟨w.heap.size,0,none⟩) 256 256,.slice none 0 0] 34);rw[show(w.alloc (.cells (Array.replicate 256 (i5 0)) 2)).heap.size=w.heap.size+1 from Qcg _] at hB;have hm:=(BM.new w (Array.replicate 256 (i5 0)) 2).alloc (.cells #[.slice (some ⟨w.heap.size,0,none⟩) 256 256,.slice none 0 0] 34);refine⟨hB,⟨by simp[Fy],.inr ⟨w.heap.size,256,_,rfl,d6 _,hm,EQ,by unfold maxLen;omega,EQ,by simp[Fy]⟩⟩,Da _ _ _ _,rfl,(fun p hp=>by cases hp),?_⟩;simp[BD,Value.ownBlock]
  ·intro b hb;simp[BD,Value.ownBlock] at hb;omega
  ·unfold Lj;rw[I (by rw[Bw];omega),KP,Qbt,List.take_zero,Mc _ (Cb _ _)];rfl
 case round=>
  clear qg;obtain⟨fr,nn,k,rfl,rfl,rfl,hI⟩:=hrel;have HI:=hid hI;obtain⟨M,mv,tv,xs,h1,h2,h3,hM,hm,kP,h5,h6,hl⟩:=hI;have HM:=hid hM;have Hm:=hid hm;have Hfp:=hid kP;have H6:=hid h6;have Hl:=hid hl;clear hM hm kP h6 hl;by_cases hk:k < s.size
  ·have OE:(bs s).drop k=s[k]::(bs s).drop (k+1):=Qa6 (by rw[Bw];exact hk);by_cases he:s[k]=10
   ·have hb:(((s[k]).toNat:Int) !=10)=false:=by rw[he];rfl
    have Ug:(s.extract fr k).size<=1000000:=by rw[ByteArray.size_extract];omega
    have HP:=hid (show Lj (bs s)=EW (bs (s.extract fr k)::Ax 10 ((bs s).drop (k+1))) nn M by
      rw[Hl.out,OE,he,Vi])
    have XG:=hid Ug;have hf0:(0:Int)<=(fr:Int):=Qa2 _;have P5:(fr:Int)<=(k:Int):=Y
    clear OE he Ug;go_wp2_with fail;refine(Sa (s.extract fr k) 32 _ XG).mono ?_;rintro e w1 ⟨v,l,rfl,CS,Ct,fS⟩;have iM:=Sl.M3 Ct;have hle:l=Bn (bs (s.extract fr k)):=Q6 fS;have Bi:l≠[]:=by rintro rfl;exact Cb 32 _ fS.symm
    have hss:∀a,a∈l->a.size<=maxLen:=fun a ha=>by
     have:bs a∈Ax 32 (bs (s.extract fr k)):=by rw[<-fS];exact List.mem_map_of_mem ha
     have:=cQ 32 _ _ this;rw[Bw,Bw] at this;have:=XG.out;unfold maxLen;omega
    have hM1:=HM.Bf CS EQ;have ch:=hid (yd l v w1 _ mv tv xs M hM1 _ iM Bi hss h5 H6);have pU:=hid (Hm.Ad CS);have LD:=hid hM1;have Hle:=hid hle;have Wz:=pU.size;clear CS Ct fS iM hle Bi hss hM1;go_wp2_with fail;refine ch.mono ?_;intro e w2 h2;unfold Yg at h2;cases hr:Rm M l with
    | error c=>
     rw[hr] at h2;obtain⟨rfl,C4⟩:=h2;have Ui:((c:Int) !=0)=true:=by
      rw[bne_iff_ne];rcases rU hr with rfl | rfl | rfl <;>decide
     have HR:=hid (show Lj (bs s)= .error (c,nn+1) by
       obtain⟨q,r,hq⟩:=Qbx (Cb 10 ((bs s).drop (k+1)));rw[HP.out,hq];simp only[EW];rw[<-Hle.out,hr])
     have ZT:=hid (pU.Ad C4);clear hr C4;go_wp2;go_ret3;rw[HR.out];exact⟨rfl,ZT⟩
    | ok M'=>
     rw[hr] at h2;obtain⟨rfl,mv',tv',xs',hM2,C4,Ad0⟩:=h2;obtain⟨h7,h8⟩:=ye hr h5 H6.out;have HR:=hid (show Lj (bs s)=EW (Ax 10 ((bs s).drop (k+1))) (nn+1) M' by
       obtain⟨q,r,hq⟩:=Qbx (Cb 10 ((bs s).drop (k+1)));rw[HP.out,hq];simp only[EW];rw[<-Hle.out,hr])
     have ZT:=hid (pU.trans C4 fun b hb=> .inr (Hfp b hb));have Ik:=hid hM2;have Aga:=hid (show∀b,b∈BD (w.heap.size+1) mv' tv' xs'->w.heap.size<=b from fun b hb=>by
       rcases Ad0 b hb with h | h
       · exact Hfp.out b h
       · omega)
     have H8:=hid h8;clear hr C4 hM2 Ad0 h8;go_wp2;go_roundw;case rel=>
      refine⟨k+1,nn+1,k+1,by go_num,by go_num,by go_num,M',mv',tv',xs',LE _,Y,Y,Ik,ZT,Aga,h7,H8,?_⟩;rw[HR.out,KP,Qbt,List.take_zero,Mc _ (Cb _ _)]
     case measure=>simp[intOf];omega
   ·have hb:(((s[k]).toNat:Int) !=10)=true:=by
     rw[bne_iff_ne];intro h;exact he (UInt8.toNat_inj.1 (by show _=10;omega))
    have HL:=hid (show Lj (bs s)=EW (PJ (bs (s.extract fr (k+1))) (Ax 10 ((bs s).drop (k+1)))) nn M by
      rw[Hl.out,OE,kX _ _ _ _ he,bJ s fr k h1 hk])
    clear OE he;go_wp2;go_roundw;case rel=>exact⟨fr,nn,k+1,rfl,rfl,by go_num,M,mv,tv,xs,Y,Y,Y,HM,Hm,Hfp,h5,H6,HL⟩
    case measure=>simp[intOf];omega
  ·have hke:k=s.size:=Y
   have HL:=hid (show Lj (bs s)=EW [bs (s.extract fr k)] nn M by
     rw[Hl.out,Qbc (by rw[Bw];omega)];show EW (PJ _ [[]]) nn M=_;simp[PJ])
   have hex:(bs (s.extract fr k)).length=k - fr:=by rw[KP,Qcv,List.length_drop,Bw];omega
   by_cases hb:fr=k/\0 < nn
   ·obtain⟨J2,QI⟩:=hb;have HR:=hid (show Lj (bs s)= .ok M by
      rw[HL.out,EW,In ⟨RK Y,QI⟩])
    have WD:((k:Int)==(s.size:Int))=true:=by rw[hke];simp
    have hq2:((fr:Int)==(k:Int))=true:=by rw[J2];simp
    have eH:(0:Int) < (nn:Int):=Y
    clear J2 hex hke hk;go_wp2;go_ret3;rw[HR.out];exact⟨_,mv,tv,xs,rfl,HM,Hm,Hfp⟩
   ·have HR:=hid (show Lj (bs s)= .error (2,nn+1) by
       rw[HL.out,EW,I (fun h=>hb ⟨by have:=Qao List.length h.1;rw[hex] at this;simp at this;omega,h.2⟩)])
    have WD:((k:Int)==(s.size:Int))=true:=by rw[hke];simp
    have Ug:(s.extract fr k).size<=1000000:=by rw[ByteArray.size_extract];omega
    have XG:=hid Ug;have hf0:(0:Int)<=(fr:Int):=Qa2 _;have P5:(fr:Int)<=(k:Int):=Y
    have Hb:=hid hb;by_cases h9:fr=k
    ·have Gu:¬(0:Int) < (nn:Int):=fun h=>Hb.out ⟨h9,Y⟩
     have hq2:((fr:Int)==(k:Int))=true:=by rw[h9];simp
     clear hb hex hke hk Ug h9;go_wp2_with fail;refine(Sa (s.extract fr k) 32 _ XG).mono ?_;rintro e w1 ⟨v,l,rfl,CS,Ct,fS⟩;have pU:=hid (Hm.Ad CS);clear CS Ct fS;go_wp2;go_ret3;rw[HR.out];exact⟨rfl,pU⟩
    ·have hq2:((fr:Int)==(k:Int))=false:=by rw[NE];omega
     clear hb hex hke hk Ug h9;go_wp2_with fail;refine(Sa (s.extract fr k) 32 _ XG).mono ?_;rintro e w1 ⟨v,l,rfl,CS,Ct,fS⟩;have pU:=hid (Hm.Ad CS);clear CS Ct fS;go_wp2;go_ret3;rw[HR.out];exact⟨rfl,pU⟩
end Go.Proofs.YtpdfifdlhpmofaaGreatDoor
