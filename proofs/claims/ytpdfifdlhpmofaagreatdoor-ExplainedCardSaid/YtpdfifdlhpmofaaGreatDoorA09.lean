/- Part 9 of the proof. -/
import Derived.Test.YtpdfifdlhpmofaaGreatDoorA03
set_option linter.unusedVariables false
set_option linter.unusedSimpArgs false
set_option maxHeartbeats 0
set_option maxRecDepth 99999
namespace Go.Proofs.YtpdfifdlhpmofaaGreatDoor
open Go.RowKit Tryz
open Value renaming slice->qD,string->qE,bool->qF,tuple->qG,agg->qH,pointer->qI
open Ending renaming returned->qJ
open Obj renaming cells->qK
open Option renaming none->Z,some->U
open Bool renaming true->V,false->I
open Go.Lib renaming hid->D
open List renaming length->J
variable {p:Prop}
theorem mal (h:p:=by
 by_cases Le:J l=1
 .have hq:=Bz (λh=>Hnt.out ⟨Le,h⟩);unfold AE at hq;have Pm:((J l:Int)==1)=V:=by rw[Le];rfl
  clear Le;go_wp2;all_goals go_meet
  exact⟨rfl,rfl⟩
 .have Pm:((J l:Int)==1)=I:=by rw[Jh];omega
  clear Le;go_wp2;all_goals go_meet
  exact⟨rfl,rfl⟩):p:=h
theorem maH (h:p:=by
 rcases Rm.2 with⟨rfl,h⟩|⟨g,c,IZ,rfl,_⟩
 .exact⟨Z,0,by rw[h]⟩
 .exact⟨_,_,rfl⟩):p:=h
theorem maI (h:p:=by
 exact Jk (show J l=0 by rw[<-Cj,hn];rfl) Y):p:=h
theorem maX (h:p:=by
 obtain⟨hw,rfl⟩:=hcut;obtain rfl:=hw;go_wp2_with fail;refine(VR _ Hv).mono ?_;rintro e w1 ⟨i',rfl,Kc,Dk⟩;rw[Hi.out];have NQ:=D Dk;clear Kc Dk;go_wp2;go_ret;exact⟨rfl,NQ.alloc _⟩):p:=h
variable {w w' w1:World} {mb:Nat} {mv tv:Value} {l:List ByteArray}
structure C2 where
 Ab:List Bi
 pc:Nat
 Dx:List Int
 waits:List (Int×Int)
 out:List Int
 An:Int
variable {t:C2}
structure Am where
 mem:List Int
 ts:List C2
variable {M:Am}
def BZ (l:List Int):List Value:=l.map (Value.int .i64)
def GA (l:List Bi):List Value:=l.flatMap λi=>i.cells.toList
def CD (l:List (Int×Int)):List Value:=l.flatMap λp=>[iI p.1,iI p.2]
structure TV where
 tb:Nat
 cv:Value
 rv:Value
 wv:Value
 ov:Value
variable {x:TV} {xs:List TV}
def TV.fp (x:TV):List Nat:=x.tb::(x.cv.ownBlock.toList++(x.rv.ownBlock.toList++(x.wv.ownBlock.toList++x.ov.ownBlock.toList)))
def TV.ptr (x:TV):Value:= iJ x.tb
def Tx (w:World) (x:TV) (t:C2):Prop:=
 Ch w x.tb #[x.cv,iI t.pc,x.rv,x.wv,x.ov,iI t.An] 68/\w.ownsRow 0 101 9 x.cv (J t.Ab) (GA t.Ab)/\
 w.ownsRow 0 2 1 x.rv (J t.Dx) (BZ t.Dx)/\w.ownsRow 0 83 2 x.wv (J t.waits) (CD t.waits)/\w.ownsRow 0 2 1 x.ov (J t.out) (BZ t.out)
def BH (mb:Nat) (mv tv:Value) (xs:List TV):List Nat:=mb::(mv.ownBlock.toList++(tv.ownBlock.toList++xs.flatMap TV.fp))
def Ej (w:World) (mb:Nat) (mv tv:Value) (xs:List TV) (M:Am):Prop:=
 Ch w mb #[mv,tv] 34/\w.ownsRow 0 2 1 mv (J M.mem) (BZ M.mem)/\w.ownsRow 0 69 1 tv (J xs) (xs.map TV.ptr)/\
 J xs=J M.ts/\(∀p,p∈xs.zip M.ts->Tx w p.1 p.2)/\(BH mb mv tv xs).Nodup
theorem Ia {v:Value} {g:Nat} (h:v.ownBlock=U g):g∈v.ownBlock.toList:=by rw[h];simp
theorem Tx.mod {M:List Nat} (h:Tx w x t) (k:Aw M w w') (hd:∀b,b∈x.fp->b∉M):Tx w' x t:=by
 obtain⟨h1,h2,h3,h4,h5⟩:=h;refine⟨h1.mod k (hd _ (by simp[TV.fp])),B9 h2 k λg hg=>hd g (by simp[TV.fp,hg]),B9 h3 k λg hg=>hd g (by simp[TV.fp,hg]),B9 h4 k λg hg=>hd g (by simp[TV.fp,hg]),B9 h5 k λg hg=>hd g (by simp[TV.fp,hg])⟩
theorem Tx.lt (h:Tx w x t):∀b,b∈x.fp->b<w.heap.size:=by
 obtain⟨h1,h2,h3,h4,h5⟩:=h;intro b hb;simp only[TV.fp,Jl,Jq,Q7] at hb;rcases hb with rfl|hb|hb|hb|hb
 .exact h1.lt
 grind [DY h2 hb];grind [DY h3 hb];grind [DY h4 hb];grind [DY h5 hb]
theorem Aab {α β:Type} {xs:List α} {ys:List β} (h:J xs=J ys) {x:α} (hx:x∈xs):∃y,(x,y)∈xs.zip ys:=by
 obtain⟨i,hi,rfl⟩:=List.getElem_of_mem hx;exact⟨ys[i],by rw[<-List.getElem_zip (i:=i) (h:=by rw[List.length_zip];omega)];grind⟩
theorem Ej.lt (h:Ej w mb mv tv xs M):∀b,b∈BH mb mv tv xs->b<w.heap.size:=by
 obtain⟨h1,h2,h3,h4,h5,h6⟩:=h;intro b hb;simp only[BH,Jl,Jq,Q7,JX] at hb;rcases hb with rfl|hb|hb|⟨x,hx,hb⟩
 .exact h1.lt
 grind [DY h2 hb];grind [DY h3 hb]
 .obtain⟨y,hy⟩:=Aab h4 hx;exact(h5 _ hy).lt b hb
theorem Ej.mod {F:List Nat} (h:Ej w mb mv tv xs M) (k:Aw F w w') (hd:∀b,b∈BH mb mv tv xs->b∉F):Ej w' mb mv tv xs M:=by
 obtain⟨h1,h2,h3,h4,h5,h6⟩:=h;refine⟨h1.mod k (hd _ (by simp[BH])),B9 h2 k λg hg=>hd g (by simp[BH,hg]),B9 h3 k λg hg=>hd g (by simp[BH,hg]),h4,λp hp=>(h5 p hp).mod k λb hb=>hd b ?_,h6⟩;have:p.1∈xs:=(qA (a:=p.1) (b:=p.2) hp).1;simp only[BH,Jl,Jq,JX];exact .inr (.inr (.inr ⟨p.1,this,hb⟩))
theorem Acu:(prog.info? 101).map (λi=>(i.zero,i.size,i.bytes))=U (U (Bi.of ⟨#[]⟩).val,9,80):=Fd
theorem Acp:(prog.info? 69).map (λi=>(i.zero,i.size,i.bytes))=U (U (qI Z),1,8):=Fd
theorem KQ:(prog.info? 2).map (λi=>(i.zero,i.size,i.bytes))=U (U (iI 0),1,8):=Fd
def C2.new:C2:=⟨[],0,List.replicate 8 0,[],[],0⟩
def UX (M:Am) (l:List ByteArray):Except Int Am:=
 if J l=1/\bs (wd l 0)=AE then (if J M.ts=3 then .error 5 else .ok {M with ts:=M.ts++[.new]})
 else match Ep l with
  |none=> .error 2
  |some i=>match M.ts.getLast? with
   |none=> .error 3
   |some t=>if J t.Ab=4000 then .error 5 else .ok {M with ts:=M.ts.dropLast++[{t with Ab:=t.Ab++[i]}]}
def cE (r:Except Int Am) (mb:Nat) (F:List Nat) (w:World) (e:Ending) (w':World):Prop:=
 match r with
 |.error c=>e= qJ (iI c)/\Aw [] w w'
 |.ok M'=>e= qJ (iI 0)/\∃mv' tv' xs',Ej w' mb mv' tv' xs' M'/\Aw F w w'/\∀b,b∈BH mb mv' tv' xs'->b∈F\/w.heap.size<=b
theorem mk8 (w:World):(Instr.makeSlice 31 (iI 8) (iI 8)).run prog w=.ok (qD (U ⟨w.heap.size,0,Z⟩) 8 8) (w.alloc (qK #[iI 0,iI 0,iI 0,iI 0,iI 0,iI 0,iI 0,iI 0] 2)):=Fd
theorem sS (w:World) (A B C:Obj):(((w.alloc A).alloc B).alloc C).drew.heap[w.heap.size+2]?=U C:=by
 show(((w.heap.push A).push B).push C)[w.heap.size+2]?=_;have h:((w.heap.push A).push B).size=w.heap.size+2:=EQ
 rw[<-h,Array.getElem?_push_size]
theorem RN (w:World) (A B C:Obj):(((w.alloc A).alloc B).alloc C).drew.heap.size=w.heap.size+3:=by
 show(((w.heap.push A).push B).push C).size=_;simp
theorem Y5 {p:Option Addr} {SS:Nat} {g2 iw:Nat} {C1:Array Value} {T1:TypeId}
  (Fg:∀b,b∈BH mb mv (qD p (J xs) SS) xs->b<w.heap.size)
  (HB:Ch w mb #[mv,qD p (J xs) SS] 34) (Hmv:w.ownsRow 0 2 1 mv (J M.mem) (BZ M.mem)) (Htv:w.ownsRow 0 69 1 (qD p (J xs) SS) (J xs) (xs.map TV.ptr))
  (Hxl:J xs=J M.ts) (Hts:∀p,p∈xs.zip M.ts->Tx w p.1 p.2) (Ux:(BH mb mv (qD p (J xs) SS) xs).Nodup)
  (Co:w1.ownsRow 0 69 1 (qD (U ⟨g2,0,Z⟩) (J xs+1) iw) (J xs+1) (xs.map TV.ptr++[iJ (w.heap.size+1)]))
  (EH:(((w.alloc (qK #[iI 0,iI 0,iI 0,iI 0,iI 0,iI 0,iI 0,iI 0] 2)).alloc (qK #[qD Z 0 0,iI 0,qD (U ⟨w.heap.size,0,Z⟩) 8 8,qD Z 0 0,qD Z 0 0,iI 0] 68)).alloc (qK C1 T1)).drew.grownBy w1 (qD p (J xs) SS).ownBlock)
  (FU:(qD p (J xs) SS).ownBlock=U g2\/g2=w.heap.size+3):
  cE (.ok {M with ts:=M.ts++[.new]}) mb (BH mb mv (qD p (J xs) SS) xs) w (qJ (iI 0)) (w1.setCell ⟨mb,1,Z⟩ (qD (U ⟨g2,0,Z⟩) (J xs+1) iw)):=by
 have Ib:=Fg;generalize Rm:(qD p (J xs) SS)=tv at*;have ZY:=(((((Aw.refl tv.ownBlock.toList w).alloc (qK #[iI 0,iI 0,iI 0,iI 0,iI 0,iI 0,iI 0,iI 0] 2)).alloc (qK #[qD Z 0 0,iI 0,qD (U ⟨w.heap.size,0,Z⟩) 8 8,qD Z 0 0,qD Z 0 0,iI 0] 68)).alloc (qK C1 T1)).drew).grown EH (λk hk=> .inl (Ia hk));have AkE:=λh=>by
  rw[BH,J5] at Ux;exact Ux.1 (Jc _ (IR _ h))
 have Py:=HB.lt;have Dk:Aw (mb::tv.ownBlock.toList) w (w1.setCell ⟨mb,1,Z⟩ (qD (U ⟨g2,0,Z⟩) (J xs+1) iw)):=
  (ZY.mono λx hx=> .inl (Id _ hx)).setCell (p:=⟨mb,1,Z⟩) (.inl (Je ..)) _
 have Ti:(w.alloc (qK #[iI 0,iI 0,iI 0,iI 0,iI 0,iI 0,iI 0,iI 0] 2)).heap.size=w.heap.size+1:=QT _;have hold:∀g,tv.ownBlock=U g->g<w.heap.size:=λg hg=>Ib g (by simp[BH,hg])
 have hg2:g2≠mb:=by
  rcases FU with h|h
  .rintro rfl;exact AkE (Ia h)
  .omega
 have hk:=(Aw.refl tv.ownBlock.toList _).grown EH (λk hk=> .inl (Ia hk));have b1:=((Ch.new (w.alloc (qK #[iI 0,iI 0,iI 0,iI 0,iI 0,iI 0,iI 0,iI 0] 2)) #[qD Z 0 0,iI 0,qD (U ⟨w.heap.size,0,Z⟩) 8 8,qD Z 0 0,qD Z 0 0,iI 0] 68).alloc (qK C1 T1)).drew;have b0:=(((Ch.new w #[iI 0,iI 0,iI 0,iI 0,iI 0,iI 0,iI 0,iI 0] 2).alloc (qK #[qD Z 0 0,iI 0,qD (U ⟨w.heap.size,0,Z⟩) 8 8,qD Z 0 0,qD Z 0 0,iI 0] 68)).alloc (qK C1 T1)).drew;rw[Ti] at b1;have Ud:w.heap.size+1∉tv.ownBlock.toList:=λh=>by have:=hold _ (Q7.1 h);omega
 have IL:w.heap.size∉tv.ownBlock.toList:=λh=>by have:=hold _ (Q7.1 h);omega
 have c1:=(b1.mod hk Ud).F8 (p:=⟨mb,1,Z⟩) (by show w.heap.size+1≠mb;omega) (qD (U ⟨g2,0,Z⟩) (J xs+1) iw);have c0:=(b0.mod hk IL).F8 (p:=⟨mb,1,Z⟩) (by show w.heap.size≠mb;omega) (qD (U ⟨g2,0,Z⟩) (J xs+1) iw);refine⟨rfl,mv,qD (U ⟨g2,0,Z⟩) (J xs+1) iw,xs++[⟨w.heap.size+1,qD Z 0 0,qD (U ⟨w.heap.size,0,Z⟩) 8 8,qD Z 0 0,qD Z 0 0⟩],⟨?_,?_,?_,?_,?_,?_⟩,?_,?_⟩
 .exact(HB.mod ZY AkE).set 1 _
 .refine B9 Hmv Dk λg hg hx=>?_
  have hgm:=Ia hg;rw[BH,J5,Jv] at Ux;rcases Jl.1 hx with rfl|hx
  .exact Ux.1 (IR _ hgm)
  .exact Ux.2.2.2 g hgm g (IR _ hx) rfl
 .rw[GT,JH];exact Xn Co (p:=⟨mb,1,Z⟩) (λh=>hg2 (Option.some.inj h)) _
 .simp[Hxl]
 .intro q hq;rw[d9 Hxl] at hq;rcases Jq.1 hq with hq|hq
  .refine(Hts q hq).mod Dk λb hb hx=>?_
   have SP:=JX.2 ⟨q.1,(qA hq).1,hb⟩;rw[BH,J5,Jv,Jv] at Ux;rcases Jl.1 hx with rfl|hx
   .exact Ux.1 (Jc _ (Jc _ SP))
   .exact Ux.2.2.1.2.2 b hx b SP rfl
  .obtain rfl:q=_:=by simpa using hq
   exact⟨c1,ownsRow_nil _ _ _ _,⟨rfl,.inr ⟨w.heap.size,8,_,rfl,Jo _,c0,Jf _,by unfold maxLen;omega,rfl,rfl⟩⟩,ownsRow_nil _ _ _ _,ownsRow_nil _ _ _ _⟩
 .have e:BH mb mv (qD (U ⟨g2,0,Z⟩) (J xs+1) iw) (xs++[⟨w.heap.size+1,qD Z 0 0,qD (U ⟨w.heap.size,0,Z⟩) 8 8,qD Z 0 0,qD Z 0 0⟩])=
    mb::(mv.ownBlock.toList++(g2::(xs.flatMap TV.fp++[w.heap.size+1,w.heap.size]))):=by
   simp[BH,TV.fp,Value.ownBlock]
  rw[e];have hlA:=λb hb=>Ib b (Id _ (IR _ hb))
  have hlC:=λb hb=>Ib b (Id _ (Jc _ (Jc _ hb)))
  have hgC:g2∉xs.flatMap TV.fp:=λh=>by
   rcases FU with h1|h1
   .rw[BH,J5,Jv,Jv] at Ux;exact Ux.2.2.1.2.2 g2 (Ia h1) g2 h rfl
   .have:=hlC _ h;omega
  have hg3:g2<w.heap.size\/g2=w.heap.size+3:=by
   rcases FU with h1|h1
   .exact .inl (hold _ h1)
   .exact .inr h1
  rw[BH,J5,Jv,Jv] at Ux;obtain⟨n1,n2,⟨n3,n4,n5⟩,n6⟩:=Ux;generalize mv.ownBlock.toList=A at*;generalize xs.flatMap TV.fp=C at*;simp only[J5,Jv,Jq,Jl,Qr] at n1⊢;grind
 .exact Dk.mono λx hx=> .inl (by
     rcases Jl.1 hx with rfl|hx
     · simp[BH]
     · rw[BH];exact Id _ (Jc _ (IR _ hx)))
 .intro b hb;have e:BH mb mv (qD (U ⟨g2,0,Z⟩) (J xs+1) iw) (xs++[⟨w.heap.size+1,qD Z 0 0,qD (U ⟨w.heap.size,0,Z⟩) 8 8,qD Z 0 0,qD Z 0 0⟩])=
    mb::(mv.ownBlock.toList++(g2::(xs.flatMap TV.fp++[w.heap.size+1,w.heap.size]))):=by
   simp[BH,TV.fp,Value.ownBlock]
  rw[e] at hb;simp only[BH,Jl,Jq,Qr] at hb⊢;rcases hb with h|h|h|h|h|h|h
  .exact .inl (.inl h)
  .exact .inl (.inr (.inl h))
  .subst h;rcases FU with h1|h1
   .exact .inl (.inr (.inr (.inl (Ia h1))))
   .exact .inr Y
  .exact .inl (.inr (.inr (.inr h)))
  .exact .inr Y
  .exact .inr Y
  .exact h.elim
theorem pF (l:List ByteArray) (v:Value) (w:World) (mb:Nat) (mv tv:Value) (xs:List TV) (M:Am) (hM:Ej w mb mv tv xs M) (ok:Nat->Prop) (hv:Sl w ok v (Bp l)) (h1:J l=1) (ht:bs (wd l 0)=AE) (h3:J M.ts<3):
  Calls prog 39 #[iJ mb,v] w (cE (.ok {M with ts:=M.ts++[.new]}) mb (BH mb mv tv xs) w):=by
 obtain⟨i0,hi,LP,KZ,MH⟩:=info_parts Acp;have hlt:=hM.lt;obtain⟨hB,XL,Rm,hxl,Th,GO⟩:=hM;obtain⟨hm,⟨rfl,hn⟩|⟨b,off,cap,rfl,g1,g2,g3,g4,g5⟩⟩:=hv
 .exact maI
 rw[Cj,h1] at hm g1⊢;have c0:=Sl.Nw g5 0 Y;simp only[J4] at c0;have hq:=CZ ht;unfold AE at hq;have rZ:=hB.cell;have AcP:=hB.lt;have Ud:((J xs:Int)==3)=I:=by rw[Jh];omega
 have hx3:J xs<3:=Y
 obtain⟨p,SS,rfl⟩:∃p c,tv= qD p (J xs) c:=by
  exact maH
 have HB:=D hB;have Hmv:=D XL;have Htv:=D Rm;have Hxl:=D hxl;have Hts:=D Th;have Ux:=D GO;have Fg:=D hlt;clear hB XL Rm hxl Th GO g5 g3 hm g1 g2 h1 ht h3 hlt;have gV:=mk8;go_enter func39,ntmps39;go_wp2_with fail;have hS1:w.cell? ⟨mb,1,Z⟩=U (qD p (J xs) SS):=rZ 1;have hne:U mb≠(qD p (J xs) SS).ownBlock:=by
  intro h;have:=Ux.out;rw[BH,J5] at this;exact this.1 (by simp[<-h])
 have M8:=D hne;have AlN:=D AcP;have AnT:mb<w.heap.size+1:=Y
 have AnS:mb<w.heap.size+1+1:=Y
 clear rZ c0 hne
 go_region_law
  ((refine step_append_lies _ Eq _ _ _ Eq 0 69 i0 _ 1 8 underlying32 hi LP KZ MH rfl Y (qD p (J xs) SS) (J xs) (xs.map TV.ptr) Eq
      (Lw (DZ (DZ (DZ Htv _) _) _))
      ⟨w.heap.size+2,0,Z⟩ 1 1 [iJ (w.heap.size+1)] Eq Eq (QH (sS w _ _ _)) (by simp[Value.oneCell'])
      Y (by unfold maxLen;omega) Y (Jo _) (w.heap.size+3) (RN w _ _ _) ?_;intro g2 iw w1 AcM EH FU rR
    have Ug:w1.frozen? ⟨mb,1,Z⟩=I:=by
      rw[EH.frozen_far _ (by rw[RN];exact JQ AlN.out (Nat.le_add_right _ 3)) M8.out];exact((((HB.alloc _).alloc _).alloc _).free 1)
    have Ys:w1.cell? ⟨mb,1,Z⟩=U (qD p (J xs) SS):=by
      rw[EH.cell_far _ (by rw[RN];exact JQ AlN.out (Nat.le_add_right _ 3)) M8.out];exact((((HB.alloc _).alloc _).alloc _).cell 1)))
 all_goals
  go_wp2;go_ret;exact Y5 Fg HB Hmv Htv Hxl Hts Ux ‹_› ‹_› ‹_›
theorem aQ (w:World) (A B:Obj):((w.alloc A).alloc B).drew.heap[w.heap.size+1]?=U B:=by
 show((w.heap.push A).push B)[w.heap.size+1]?=_;have h:(w.heap.push A).size=w.heap.size+1:=EQ
 rw[<-h,Array.getElem?_push_size]
theorem Yi (h:(BH mb mv tv (xs++[x])).Nodup):
  (∀g,tv.ownBlock=U g->mb≠g/\∀b,b∈x.fp->g≠b)/\(∀b,b∈x.fp->mb≠b)/\x.fp.Nodup:=by
 have hx:∀b,b∈x.fp->b∈(xs++[x]).flatMap TV.fp:=λb hb=>JX.2 ⟨x,EQ,hb⟩
 rw[BH,J5,Jv,Jv] at h;obtain⟨h1,h2,⟨h3,h4,h5⟩,h6⟩:=h;refine⟨λg hg=>⟨?_,λb hb=>h5 g (Ia hg) b (hx b hb)⟩,λb hb=>?_,?_⟩
 .rintro rfl;exact h1 (Jc _ (IR _ (Ia hg)))
 .rintro rfl;exact h1 (Jc _ (Jc _ (hx _ hb)))
 .rw[Nm,Jv] at h4;simpa using h4.2.1
theorem lq {w6:World} {ts:List C2} {i:Bi} {g6 AI:Nat} {A B:Obj}
  (hM:Ej w mb mv tv (xs++[x]) M) (Th:M.ts=ts++[t]) (Dk:Aw [] w w1)
  (Co:w6.ownsRow 0 101 9 (qD (U ⟨g6,0,Z⟩) (J t.Ab+1) AI) (J t.Ab+1) (GA t.Ab++i.cells.toList))
  (EH:((w1.alloc A).alloc B).drew.grownBy w6 x.cv.ownBlock) (FU:x.cv.ownBlock=U g6\/g6=w1.heap.size+2):
  cE (.ok {M with ts:=ts++[{t with Ab:=t.Ab++[i]}]}) mb (BH mb mv tv (xs++[x])) w (qJ (iI 0)) (w6.setCell ⟨x.tb,0,Z⟩ (qD (U ⟨g6,0,Z⟩) (J t.Ab+1) AI)):=by
 have Ib:=hM.lt;obtain⟨hB,XL,Rm,hxl,Ex,GO⟩:=hM;have Aib:J xs=J ts:=by rw[Th] at hxl;simpa using hxl
 have hz:(xs++[x]).zip M.ts=xs.zip ts++[(x,t)]:=by rw[Th,d9 Aib];rfl
 obtain⟨x1,x2,x3,x4,x5⟩:Tx w x t:=Ex (x,t) (by rw[hz];simp);have hm6:=((((Dk.nil).alloc A).alloc B).drew).grown EH (λk hk=> .inl (Ia hk));have hm7:Aw (x.tb::x.cv.ownBlock.toList) w (w6.setCell ⟨x.tb,0,Z⟩ (qD (U ⟨g6,0,Z⟩) (J t.Ab+1) AI)):=
  (hm6.mono λy hy=> .inl (Id _ hy)).setCell (p:=⟨x.tb,0,Z⟩) (.inl (Je ..)) _
 have hf:∀b,b∈x.tb::x.cv.ownBlock.toList->b∈x.fp:=λb hb=>by
  rcases Jl.1 hb with rfl|hb
  .simp[TV.fp]
  .simp[TV.fp,Q7.1 hb]
 have bX:=Dk.size;refine⟨rfl,mv,tv,xs++[{x with cv:= qD (U ⟨g6,0,Z⟩) (J t.Ab+1) AI}],⟨?_,?_,?_,?_,?_,?_⟩,?_,?_⟩
 .exact hB.mod hm7 λh=>(Yi GO).2.1 mb (hf mb h) rfl
 .refine B9 XL hm7 λg hg hx=>?_
  have h1:=Ia hg;have h2:g∈(xs++[x]).flatMap TV.fp:=JX.2 ⟨x,EQ,hf g hx⟩;rw[BH,J5,Jv] at GO;exact GO.2.2.2 g h1 g (Jc _ h2) rfl
 .have:=B9 Rm hm7 λg hg hx=>((Yi GO).1 g hg).2 g (hf g hx) rfl
  simpa[TV.ptr] using this
 .simpa using Aib
 .intro q hq;rw[d9 Aib] at hq;rcases Jq.1 hq with hq|hq
  .refine(Ex q (by rw[hz];exact IR _ hq)).mod hm7 λb hb hx=>?_
   have h1:=JX.2 ⟨q.1,(qA hq).1,hb⟩;rw[BH,J5,Jv,Jv,Nm,Jv] at GO;exact GO.2.2.1.2.1.2.2 b h1 b (by simpa using hf b hx) rfl
  .obtain rfl:q=_:=by simpa using hq
   have hfp:=(Yi GO).2.2;rw[TV.fp,J5,Jv] at hfp;have hr:∀b,b∈x.rv.ownBlock.toList++(x.wv.ownBlock.toList++x.ov.ownBlock.toList)->b∉x.tb::x.cv.ownBlock.toList:=λb hb hx=>by
    rcases Jl.1 hx with rfl|hx
    .exact hfp.1 (Jc _ hb)
    .exact hfp.2.2.2 b hx b hb rfl
   have hg6:g6≠x.tb:=by
    rcases FU with h|h
    .rintro rfl;exact hfp.1 (IR _ (Ia h))
    .have:=x1.lt;omega
   refine⟨(x1.mod hm6 λh=>hfp.1 (IR _ h)).set 0 _,?_,B9 x3 hm7 λg hg=>hr g (by simp[hg]),B9 x4 hm7 λg hg=>hr g (by simp[hg]),B9 x5 hm7 λg hg=>hr g (by simp[hg])⟩;have:=Xn Co (p:=⟨x.tb,0,Z⟩) (λh=>hg6 (Option.some.inj h)) (qD (U ⟨g6,0,Z⟩) (J t.Ab+1) AI);simpa[GA] using this
 .have e1:BH mb mv tv (xs++[x])=(mb::(mv.ownBlock.toList++(tv.ownBlock.toList++(xs.flatMap TV.fp++[x.tb]))))++(x.cv.ownBlock.toList++(x.rv.ownBlock.toList++(x.wv.ownBlock.toList++x.ov.ownBlock.toList))):=by
   simp[BH,TV.fp]
  have e2:BH mb mv tv (xs++[{x with cv:= qD (U ⟨g6,0,Z⟩) (J t.Ab+1) AI}])=(mb::(mv.ownBlock.toList++(tv.ownBlock.toList++(xs.flatMap TV.fp++[x.tb]))))++(g6::(x.rv.ownBlock.toList++(x.wv.ownBlock.toList++x.ov.ownBlock.toList))):=by
   simp[BH,TV.fp,Value.ownBlock]
  rw[e2];rw[e1] at GO Ib;rcases FU with h|h
  .rw[h] at GO;exact GO
  .rw[jI.nodup_iff,J5];refine⟨λhx=>?_,GO.sublist (List.Sublist.append (List.Sublist.refl _) (List.sublist_append_right _ _))⟩;have:=Ib g6 (by
     rcases Jq.1 hx with hx|hx
     · exact IR _ hx
     · exact Jc _ (Jc _ hx))
   omega
 .exact hm7.mono λy hy=> .inl (by
     have:=hf y hy;rw[BH];exact Id _ (Jc _ (Jc _ (JX.2 ⟨x,EQ,this⟩))))
 .intro b hb;have e2:BH mb mv tv (xs++[{x with cv:= qD (U ⟨g6,0,Z⟩) (J t.Ab+1) AI}])=(mb::(mv.ownBlock.toList++(tv.ownBlock.toList++(xs.flatMap TV.fp++[x.tb]))))++(g6::(x.rv.ownBlock.toList++(x.wv.ownBlock.toList++x.ov.ownBlock.toList))):=by
   simp[BH,TV.fp,Value.ownBlock]
  have e1:BH mb mv tv (xs++[x])=(mb::(mv.ownBlock.toList++(tv.ownBlock.toList++(xs.flatMap TV.fp++[x.tb]))))++(x.cv.ownBlock.toList++(x.rv.ownBlock.toList++(x.wv.ownBlock.toList++x.ov.ownBlock.toList))):=by
   simp[BH,TV.fp]
  rw[e2] at hb;rw[e1];rcases Jq.1 hb with hb|hb
  .exact .inl (IR _ hb)
  .rcases Jl.1 hb with rfl|hb
   .rcases FU with h|h
    .exact .inl (Jc _ (IR _ (Ia h)))
    .exact .inr Y
   .exact .inl (Jc _ (Jc _ hb))
theorem AeD (l:List ByteArray) (v:Value) (w:World) (mb:Nat) (mv tv:Value) (xs:List TV) (x:TV) (M:Am) (ts:List C2) (t:C2) (i:Bi) (hM:Ej w mb mv tv (xs++[x]) M) (Th:M.ts=ts++[t]) (ok:Nat->Prop) (hv:Sl w ok v (Bp l))
  (hne:l≠[]) (hs:∀s,s∈l->s.size<=maxLen) (gU:¬(J l=1/\bs (wd l 0)=AE)) (hi:Ep l=U i) (hc:J t.Ab<4000) (hxs:J xs<3):
  Calls prog 39 #[iJ mb,v] w (cE (.ok {M with ts:=ts++[{t with Ab:=t.Ab++[i]}]}) mb (BH mb mv tv (xs++[x])) w):=by
 have Ii:=λw hv=>Yo l v w ok hv hne hs
 unfold Ad8 at Ii;simp only[Bi.val,Bi.cells] at Ii;obtain⟨j0,hj,LP,KZ,MH⟩:=info_parts Acu;have HMm:=D hM;have hlt:=hM.lt;have IL:=Yi hM.2.2.2.2.2;obtain⟨hB,XL,Rm,hxl,Ex,GO⟩:=hM;have hlen:0<J l:=by cases l with|nil=>exact Jk rfl hne|cons a r=>simp
 have hx:=Ex (x,t) (by rw[Th,d9 (by rw[Th] at hxl;simpa using hxl)];simp);obtain⟨x1,x2,x3,x4,x5⟩:=hx;obtain⟨g,cap,rfl,hg1,hg2,hg3,hg4,hgc,hgf⟩:=Av Rm EQ;have Ud:=IL.1 g rfl;have n4:∀h,x.cv.ownBlock=U h->h≠mb/\h≠g/\h≠x.tb:=λh hh=>by
  have hf:h∈x.fp:=by simp[TV.fp,hh]
  refine⟨λe=>IL.2.1 h hf e.symm,λe=>Ud.2 h hf e.symm,λe=>?_⟩;have:=IL.2.2;rw[TV.fp,J5] at this;exact this.1 (by rw[<-e];simp[hh])
 have N4:=D n4;clear IL Ud n4;have hk:w.cell? ⟨g,J xs,Z⟩=U (iJ x.tb):=by
  rw[hgc (J xs) EQ];simp[TV.ptr]
 rw[show(xs++[x]).length=J xs+1 by simp] at Rm hxl;have Hv:=D hv;obtain⟨hm,⟨rfl,hn⟩|⟨b,off,AiY,rfl,g1,g2,g3,g4,g5⟩⟩:=hv
 .exact maI
 rw[Cj] at hm g1 Ii Hv⊢;have c0:=Sl.Nw g5 0 hlen;simp only[J4] at c0;have rZ:=hB.cell;have hBf:=hB.free;have AcP:=hB.lt;have VR:=D Ii;have HB:=D hB;have Hmv:=D XL;have Htv:=D Rm;have Hth:=D Ex;have Fg:=D hlt;have X1:=D x1;have X2:=D x2;have X3:=D x3;have X4:=D x4;have X5:=D x5;have Hk:=D hk;have Hts:=D Th;have Hi:=D hi;have Hnt:=D gU;clear Ii hB XL Rm hxl Ex GO x1 x2 x3 x4 x5 g5 hlt hk Th hi hgc hgf hs hne g3 gU;go_enter func39,ntmps39;go_upto_region 2 with(fail)
 go_cut [22] (λq w'=>w'=w/\q= qF I)
 case first=>
  exact mal
 case rest=>
  obtain⟨hw,rfl⟩:=hcut;obtain rfl:=hw;go_wp2_with fail;refine(VR _ Hv).mono ?_;rintro e w1 ⟨i',rfl,Kc,Dk⟩;obtain rfl:=Kc i Hi.out;rw[Hi.out];have NQ:=D Dk;have Hk1:=AH Dk Hk.out;have hB1:=HB.mod Dk EQ;have hX1:=X1.mod Dk EQ;have Anf:=hB1.cell 1;have hXc:=hX1.cell 0;simp only[LE,PP,Ql] at Anf hXc;have hml:=hB1.lt;have hxl:=hX1.lt;have hgl:=Mk Hk1;obtain⟨pc,capc,VB⟩:∃p c,x.cv= qD p (J t.Ab) c:=by
   rcases X2.2 with⟨h,h0⟩|⟨g',c',IZ,h,_⟩
   .exact⟨Z,0,by rw[h,h0]⟩
   .exact⟨_,_,h⟩
  rw[VB] at hXc;have Cs:((J t.Ab:Int)==4000)=I:=by rw[Jh];omega
  have zX:=D VB;have hX2:w1.ownsRow 0 101 9 (qD pc (J t.Ab) capc) (J t.Ab) (GA t.Ab):=by
   rw[<-VB];exact B9 X2 Dk EQ
  have HX2:=D hX2;have N5:=D (show∀h,(qD pc (J t.Ab) capc).ownBlock=U h->h≠mb/\h≠g/\h≠x.tb by rw[<-VB];exact N4.out);have HX1:=D hX1;clear Kc Dk hB1 hX1 VB rZ hBf hX2;have Aki:∀(A B:Obj),((w1.alloc A).alloc B).drew.heap.size=w1.heap.size+2:=λA B=>by show((w1.heap.push A).push B).size=_;simp
  have HSz:=D Aki;clear Aki;go_upto_region 14 with fail
  have hI0:0<=(J xs:Int):=JK _;have hI1:J xs<((J xs:Int)+1):=Y
  have mQ:∀h,(qD pc (J t.Ab) capc).ownBlock=U h->h<w1.heap.size:=λh hh=>(DY HX2 hh).2
  have Hbn:=D mQ;clear mQ;refine AG [18,19] 22 (λw'=>w'.cell? ⟨mb,1,Z⟩=U (qD (U ⟨g,0,Z⟩) (J xs+1) cap)/\w'.cell? ⟨g,J xs,Z⟩=U (iJ x.tb)/\
      w'.cell? ⟨x.tb,0,Z⟩=U (qD pc (J t.Ab) capc)/\∀i,w'.cell? ⟨w1.heap.size,i,Z⟩=(#[qE i'.Nw,iI i'.d,qF i'.a.Dd,iI i'.a.v,qF i'.b.Dd,iI i'.b.v,qF i'.c.Dd,iI i'.c.v,iI i'.k])[i]?) ?_ ?_
  .exact⟨by go_simp,by go_simp,by go_simp,λq=>(Ch.new w1 #[qE i'.Nw,iI i'.d,qF i'.a.Dd,iI i'.a.v,qF i'.b.Dd,iI i'.b.v,qF i'.c.Dd,iI i'.c.v,iI i'.k] 101).cell q⟩
  .repeat
    refine Kg (v:= ?_) rfl rfl rfl (λW hW=>?_) ?_;rotate_left
    .obtain⟨s1,s2,s3,s4⟩:=hW;go_simp;rfl
    simp only[FL]
   refine AJ rfl (λK hK=>?_);go_simp;refine hK _ _ (λ_=>⟨by go_simp,by go_simp,by go_simp,λq=>((Ch.new w1 #[qE i'.Nw,iI i'.d,qF i'.a.Dd,iI i'.a.v,qF i'.b.Dd,iI i'.b.v,qF i'.c.Dd,iI i'.c.v,iI i'.k] 101).alloc _).cell q⟩) ?_;refine AJ rfl (λK hK=>?_);refine step_append_lies _ Eq _ _ _ Eq 0 101 j0 _ 9 80 underlying65 hj LP KZ MH rfl Y (qD pc (J t.Ab) capc) (J t.Ab) (GA t.Ab) Eq
     (Lw (DZ (DZ HX2 _) _))
     ⟨w1.heap.size+1,0,Z⟩ 1 1 i'.cells.toList Eq Eq (QH (aQ w1 _ _)) (by simp[Value.oneCell',Bi.cells])
     Y (by unfold maxLen;omega) Y (Jo _) (w1.heap.size+2) (HSz _ _) ?_
   intro g6 AI w6 uB EH Ak5 Aog;have far:∀a,a.block<w1.heap.size+2->(qD pc (J t.Ab) capc).ownBlock≠U a.block->w6.cell? a=((w1.alloc (qK i'.cells 101)).alloc (qK i'.cells 101)).drew.cell? a:=λa h1 h2=>EH.cell_far a (by rw[HSz.out];exact h1) (Ne.symm h2)
   have s1:w6.cell? ⟨mb,1,Z⟩=U (qD (U ⟨g,0,Z⟩) (J xs+1) cap):=by
    rw[far _ (by show mb<_;omega) (λh=>(N5.out _ h).1 rfl)];go_simp
   have s2:w6.cell? ⟨g,J xs,Z⟩=U (iJ x.tb):=by
    rw[far _ (by show g<_;omega) (λh=>(N5.out _ h).2.1 rfl)];go_simp
   have s3:w6.cell? ⟨x.tb,0,Z⟩=U (qD pc (J t.Ab) capc):=by
    rw[far _ (by show x.tb<_;omega) (λh=>(N5.out _ h).2.2 rfl)];go_simp
   have s4:∀q,w6.cell? ⟨w1.heap.size,q,Z⟩=(#[qE i'.Nw,iI i'.d,qF i'.a.Dd,iI i'.a.v,qF i'.b.Dd,iI i'.b.v,qF i'.c.Dd,iI i'.c.v,iI i'.k])[q]?:=λq=>by
    rw[far _ (by show w1.heap.size<_;omega) (λh=>d7 _ (Hbn.out _ h))];exact((Ch.new w1 #[qE i'.Nw,iI i'.d,qF i'.a.Dd,iI i'.a.v,qF i'.b.Dd,iI i'.b.v,qF i'.c.Dd,iI i'.c.v,iI i'.k] 101).alloc _).cell q
   have hf6:w6.frozen? ⟨x.tb,0,Z⟩=I:=by
    rw[EH.frozen_far _ (by rw[HSz.out];show x.tb<_;omega) (λh=>(N5.out _ h.symm).2.2 rfl)];exact(((HX1.alloc _).alloc _).free 0)
   refine hK _ _ (λ_=>⟨s1,s2,s3,s4⟩) (D3 rfl ?_);simp only[FL];refine Ox ?_;clear s4 far;refine AJ rfl (λK hK=>?_);go_simp;refine hK _ _ (λh=>Jk rfl h) ?_;repeat clear hK
   simp only[BO];go_wp2;go_ret;rw[<-zX.out] at EH Ak5;exact lq HMm Hts NQ uB EH Ak5
theorem Abe (l:List ByteArray) (v:Value) (w:World) (mb:Nat) (mv tv:Value) (xs:List TV) (M:Am) (hM:Ej w mb mv tv xs M) (ok:Nat->Prop) (hv:Sl w ok v (Bp l)) (h1:J l=1) (ht:bs (wd l 0)=AE) (h3:J M.ts=3) (F:List Nat):
  Calls prog 39 #[iJ mb,v] w (cE (.error 5) mb F w):=by
 obtain⟨hB,XL,Rm,hxl,Th,GO⟩:=hM;obtain⟨hm,⟨rfl,hn⟩|⟨b,off,cap,rfl,g1,g2,g3,g4,g5⟩⟩:=hv
 .exact maI
 rw[Cj,h1] at hm g1⊢;have c0:=Sl.Nw g5 0 Y;simp only[J4] at c0;have hq:=CZ ht;unfold AE at hq;have rZ:=hB.cell 1;have hx3:J xs=3:=Y
 obtain⟨p,SS,rfl⟩:∃p c,tv= qD p (J xs) c:=by
  exact maH
 rw[hx3] at rZ;simp only[LE,PP,Ql] at rZ;clear hB XL Rm hxl Th GO g5 g3 hm g1 g2 h1 ht h3 hx3;go_enter func39,ntmps39;go_wp2;go_ret;exact⟨rfl,Aw.refl _ _⟩
theorem Aa9 (l:List ByteArray) (v:Value) (w:World) (mb:Nat) (mv tv:Value) (xs:List TV) (M:Am) (hM:Ej w mb mv tv xs M) (ok:Nat->Prop) (hv:Sl w ok v (Bp l))
  (hne:l≠[]) (hs:∀s,s∈l->s.size<=maxLen) (gU:¬(J l=1/\bs (wd l 0)=AE)) (hi:Ep l=Z) (F:List Nat):
  Calls prog 39 #[iJ mb,v] w (cE (.error 2) mb F w):=by
 have Ii:=λw hv=>Yo l v w ok hv hne hs
 unfold Ad8 at Ii;simp only[Bi.val,Bi.cells] at Ii;obtain⟨hB,XL,Rm,hxl,Ex,GO⟩:=hM;have hlen:0<J l:=by cases l with|nil=>exact Jk rfl hne|cons a r=>simp
 have Hv:=D hv;obtain⟨hm,⟨rfl,hn⟩|⟨b,off,AiY,rfl,g1,g2,g3,g4,g5⟩⟩:=hv
 .exact maI
 rw[Cj] at hm g1 Ii Hv⊢;have c0:=Sl.Nw g5 0 hlen;simp only[J4] at c0;obtain⟨p,SS,rfl⟩:∃p c,tv= qD p (J xs) c:=by
  exact maH
 have rZ:=hB.cell 1;simp only[LE,PP,Ql] at rZ;have AcP:=hB.lt;have VR:=D Ii;have HB:=D hB;have Hnt:=D gU;have Hi:=D hi;clear Ii hB XL Rm hxl Ex GO g5 hs hne g3 gU hi;go_enter func39,ntmps39;go_upto_region 2 with(fail)
 go_cut [22] (λq w'=>w'=w/\q= qF I)
 case first=>
  exact mal
 case rest=>
  exact maX
theorem Abb (l:List ByteArray) (v:Value) (w:World) (mb:Nat) (mv tv:Value) (xs:List TV) (M:Am) (i:Bi) (hM:Ej w mb mv tv xs M) (ok:Nat->Prop) (hv:Sl w ok v (Bp l))
  (hne:l≠[]) (hs:∀s,s∈l->s.size<=maxLen) (gU:¬(J l=1/\bs (wd l 0)=AE)) (hi:Ep l=U i) (h0:M.ts=[]) (F:List Nat):
  Calls prog 39 #[iJ mb,v] w (cE (.error 3) mb F w):=by
 have Ii:=λw hv=>Yo l v w ok hv hne hs
 unfold Ad8 at Ii;simp only[Bi.val,Bi.cells] at Ii;obtain⟨hB,XL,Rm,hxl,Ex,GO⟩:=hM;have hlen:0<J l:=by cases l with|nil=>exact Jk rfl hne|cons a r=>simp
 have Hv:=D hv;obtain⟨hm,⟨rfl,hn⟩|⟨b,off,AiY,rfl,g1,g2,g3,g4,g5⟩⟩:=hv
 .exact maI
 rw[Cj] at hm g1 Ii Hv⊢;have c0:=Sl.Nw g5 0 hlen;simp only[J4] at c0;obtain⟨p,SS,rfl⟩:∃p c,tv= qD p (J xs) c:=by
  exact maH
 have rZ:=hB.cell 1;simp only[LE,PP,Ql] at rZ;have AcP:=hB.lt;have VR:=D Ii;have HB:=D hB;have Hnt:=D gU;have Hi:=D hi;obtain rfl:xs=[]:=Jn (by rw[hxl,h0];rfl);clear h0;clear Ii hB XL Rm hxl Ex GO g5 hs hne g3 gU hi;go_enter func39,ntmps39;go_upto_region 2 with(fail)
 go_cut [22] (λq w'=>w'=w/\q= qF I)
 case first=>
  exact mal
 case rest=>
  exact maX
theorem Aba (l:List ByteArray) (v:Value) (w:World) (mb:Nat) (mv tv:Value) (xs:List TV) (x:TV) (M:Am) (ts:List C2) (t:C2) (i:Bi) (hM:Ej w mb mv tv (xs++[x]) M) (ok:Nat->Prop) (hv:Sl w ok v (Bp l))
  (hne:l≠[]) (hs:∀s,s∈l->s.size<=maxLen) (gU:¬(J l=1/\bs (wd l 0)=AE)) (hi:Ep l=U i) (Th:M.ts=ts++[t]) (h4:J t.Ab=4000) (hxs:J xs<3) (F:List Nat):
  Calls prog 39 #[iJ mb,v] w (cE (.error 5) mb F w):=by
 have Ii:=λw hv=>Yo l v w ok hv hne hs
 unfold Ad8 at Ii;simp only[Bi.val,Bi.cells] at Ii;obtain⟨hB,XL,Rm,hxl,Ex,GO⟩:=hM;have hx:=Ex (x,t) (by rw[Th,d9 (by rw[Th] at hxl;simpa using hxl)];simp);obtain⟨x1,x2,x3,x4,x5⟩:=hx;obtain⟨g,cap,rfl,hg1,hg2,hg3,hg4,hgc,hgf⟩:=Av Rm EQ;have hk:w.cell? ⟨g,J xs,Z⟩=U (iJ x.tb):=by
  rw[hgc (J xs) EQ];simp[TV.ptr]
 have hle:(xs++[x]).length=J xs+1:=EQ
 rw[hle] at hB;obtain⟨pc,capc,VB⟩:∃p c,x.cv= qD p (J t.Ab) c:=by
  rcases x2.2 with⟨h,h0⟩|⟨g',c',IZ,h,_⟩
  .exact⟨Z,0,by rw[h,h0]⟩
  .exact⟨_,_,h⟩
 have hXc:=x1.cell 0;simp only[LE,PP] at hXc;rw[VB,h4] at hXc;have hlen:0<J l:=by cases l with|nil=>exact Jk rfl hne|cons a r=>simp
 have Hv:=D hv;obtain⟨hm,⟨rfl,hn⟩|⟨b,off,AiY,rfl,g1,g2,g3,g4,g5⟩⟩:=hv
 .exact maI
 rw[Cj] at hm g1 Ii Hv⊢;have c0:=Sl.Nw g5 0 hlen;simp only[J4] at c0;have rZ:=hB.cell 1;simp only[LE,PP,Ql] at rZ;have AcP:=hB.lt;have VR:=D Ii;have HB:=D hB;have Hnt:=D gU;have Hi:=D hi;have Hk:=D hk;have HXc:=D hXc;have HBc:=D rZ;clear hk hXc rZ hgc hgf Th h4 x1 x2 x3 x4 x5 VB hle;clear Ii hB XL Rm hxl Ex GO g5 hs hne g3 gU hi;have Aoy:=HBc.out;go_enter func39,ntmps39;go_upto_region 2 with(fail)
 go_cut [22] (λq w'=>w'=w/\q= qF I)
 case first=>
  exact mal
 case rest=>
  obtain⟨hw,rfl⟩:=hcut;obtain rfl:=hw;go_wp2_with fail;refine(VR _ Hv).mono ?_;rintro e w1 ⟨i',rfl,Kc,Dk⟩;rw[Hi.out];have NQ:=D Dk;have k1:=AH Dk Hk.out;have k2:=AH Dk HXc.out;have k3:=AH Dk HBc.out;have l1:=Mk k1;have l2:=Mk k2;have l3:=Mk k3;clear Kc Dk;go_wp2;go_ret;exact⟨rfl,NQ.alloc _⟩
theorem AeF (l:List ByteArray) (v:Value) (w:World) (mb:Nat) (mv tv:Value) (xs:List TV) (M:Am) (hM:Ej w mb mv tv xs M) (ok:Nat->Prop) (hv:Sl w ok v (Bp l))
  (hne:l≠[]) (hs:∀s,s∈l->s.size<=maxLen) (h3:J M.ts<=3) (h4:∀t,t∈M.ts->J t.Ab<=4000):
  Calls prog 39 #[iJ mb,v] w (cE (UX M l) mb (BH mb mv tv xs) w):=by
 unfold UX;by_cases ht:J l=1/\bs (wd l 0)=AE
 .rw[Jd ht];by_cases hf:J M.ts=3
  .rw[Jd hf];exact Abe l v w mb mv tv xs M hM ok hv ht.1 ht.2 hf _
  .rw[In hf];exact pF l v w mb mv tv xs M hM ok hv ht.1 ht.2 Y
 .rw[In ht];cases hi:Ep l with
  |none=>exact Aa9 l v w mb mv tv xs M hM ok hv hne hs ht hi _
  |some i=>
   rcases Jw M.ts with h0|⟨ts,t,Th⟩
   .rw[h0];exact Abb l v w mb mv tv xs M i hM ok hv hne hs ht hi h0 _
   .rw[Jz] at Th;have hxl:=hM.2.2.2.1;rw[Th,GT] at hxl;rcases Jw xs with hx|⟨ys,x,hx⟩
    .rw[hx] at hxl;simp at hxl
    .rw[Jz] at hx;subst hx;have iU:J ys<3:=by rw[Th] at h3;simp at hxl h3;omega
     rw[Th];simp only[Qm,Pi,QP,Qa];by_cases hc:J t.Ab=4000
     .rw[Jd hc];exact Aba l v w mb mv tv ys x M ts t i hM ok hv hne hs ht hi Th hc iU _
     .rw[In hc];have:=h4 t (by rw[Th];simp);exact AeD l v w mb mv tv ys x M ts t i hM Th ok hv hne hs ht hi Y iU
def EL:List By->Nat->Am->Except (Int×Nat) Am
 |[],_,M=> .ok M
 |[p],n,M=>if p=[]/\0<n then .ok M else .error (2,n+1)
 |p::q::r,n,M=>match UX M (Bu p) with
  |.error c=> .error (c,n+1)
  |.ok M'=>EL (q::r) (n+1) M'
def Nl (s:By):Except (Int×Nat) Am:=
 if 131072<J s then .error (1,0) else EL (AD 10 s) 0 ⟨List.replicate 256 0,[]⟩
def AlD (r:Except (Int×Nat) Am) (w:World) (e:Ending) (w':World):Prop:=
 match r with
 |.error c=>e= qJ (qG #[qI Z,iI c.1,iI c.2])/\Aw [] w w'
 |.ok M=>∃mb mv tv xs,e= qJ (qG #[iJ mb,iI 0,iI 0])/\Ej w' mb mv tv xs M/\Aw [] w w'/\∀b,b∈BH mb mv tv xs->w.heap.size<=b
theorem Aj0 (w:World):(Instr.makeSlice 31 (iI 256) (iI 256)).run prog w=.ok (qD (U ⟨w.heap.size,0,Z⟩) 256 256) (w.alloc (qK (Array.replicate 256 (iI 0)) 2)):=Fd
def AlE (s:ByteArray) (w:World) (mb fr n k:Nat) (wr:World):Prop:=
 ∃(M:Am) (mv tv:Value) (xs:List TV),fr<=k/\k<=s.size/\n<=k/\Ej wr mb mv tv xs M/\Aw [] w wr/\(∀b,b∈BH mb mv tv xs->w.heap.size<=b)/\
  J M.ts<=3/\(∀t,t∈M.ts->J t.Ab<=4000)/\Nl (bs s)=EL (SQ (bs (s.extract fr k)) (AD 10 ((bs s).drop k))) n M
theorem Ac6 (a:By) (q:List By) (n m:Nat) (ha:J a<=m) (hq:∀p,p∈q->J p<=n):∀p,p∈SQ a q->J p<=m+n:=by
 cases q with
 |nil=>intro p hp;rw[SQ,GE] at hp;subst hp;omega
 |cons r rs=>
  intro p hp;rcases Jl.1 hp with rfl|hp
  .have:=hq r EQ;rw[GT];omega
  .have:=hq p (Id _ hp);omega
theorem kR (c:UInt8) (s:By):∀p,p∈AD c s->J p<=J s:=by
 induction s with
 |nil=>intro p hp;simp[AD] at hp;subst hp;exact Jf _
 |cons x r ih=>
  intro p hp;by_cases h:x=c
  .exact mbd
  .rw[Ie c x r h] at hp;have:=Ac6 [x] _ (J r) 1 (Jf _) ih p hp;simp only[Jg];omega
theorem Abh {c:Int} (h:UX M l=.error c):c=2\/c=3\/c=5:=by
 unfold UX at h;split at h
 .split at h
  .cases h;simp
  .cases h
 .split at h
  .cases h;simp
  .split at h
   .cases h;simp
   .split at h
    .cases h;simp
    .cases h
theorem AeG {M':Am} (h:UX M l=.ok M') (h3:J M.ts<=3) (h4:∀t,t∈M.ts->J t.Ab<=4000):J M'.ts<=3/\∀t,t∈M'.ts->J t.Ab<=4000:=by
 unfold UX at h;split at h
 .split at h
  .cases h
  .cases h;refine⟨by simp;omega,λt ht=>?_⟩;rcases Jq.1 ht with ht|ht
   .exact h4 t ht
   .rw[GE] at ht;subst ht;exact Jo _
 .split at h
  .cases h
  .split at h
   .cases h
   .rename_i i _ t hl;split at h
    .cases h
    .rename_i hc;cases h;have hm:=List.mem_of_getLast? hl;refine⟨by simp;omega,λu hu=>?_⟩;rcases Jq.1 hu with hu|hu
     .exact h4 u (List.dropLast_subset _ hu)
     .rw[GE] at hu;subst hu;have:=h4 t hm;simp only[GT,JP];omega
theorem Ms (s:ByteArray) (a b:Nat):bs (s.extract a b)=((bs s).drop a).take (b-a):=Lib.extract_data ..
theorem ig (s:ByteArray) (a k:Nat) (h:a<=k) (hk:k<s.size):bs (s.extract a (k+1))=bs (s.extract a k)++[s[k]]:=by
 rw[Ms,Ms,show k+1-a=(k-a)+1 by omega,JN (by rw[WP,Bt];omega)];congr 1;rw[List.getElem_drop];have:a+(k-a)=k:=Y
 simp only[this];rfl
theorem lY (s:ByteArray) (w:World) (hs:s.size<=131072):
  Calls prog 24 #[qE s] w (AlD (Nl (bs s)) w):=by
 have gV:=Aj0;go_enter func24,ntmps24;go_wp2;go_loopw [6,7,8] (λf n i wr=>∃fr nn k:Nat,f= iI fr/\n= iI nn/\i= iI k/\AlE s w (w.heap.size+1) fr nn k wr) (λ_ _ i _=>s.size+1-(intOf i).toNat);case atStart=>
  refine⟨0,0,0,rfl,rfl,rfl,⟨List.replicate 256 0,[]⟩,qD (U ⟨w.heap.size,0,Z⟩) 256 256,qD Z 0 0,[],Jf _,Jo _,Jf _,?_,((Aw.refl _ _).alloc _).alloc _,?_,Jo _,(λt ht=>by cases ht),?_⟩
  .have hB:=(Ch.new (w.alloc (qK (Array.replicate 256 (iI 0)) 2)) #[qD (U ⟨w.heap.size,0,Z⟩) 256 256,qD Z 0 0] 34);rw[show(w.alloc (qK (Array.replicate 256 (iI 0)) 2)).heap.size=w.heap.size+1 from QT _] at hB;have hm:=(Ch.new w (Array.replicate 256 (iI 0)) 2).alloc (qK #[qD (U ⟨w.heap.size,0,Z⟩) 256 256,qD Z 0 0] 34);refine⟨hB,⟨by simp[BZ],.inr ⟨w.heap.size,256,_,rfl,Jo _,hm,EQ,by unfold maxLen;omega,EQ,by simp[BZ]⟩⟩,ownsRow_nil _ _ _ _,rfl,(λp hp=>by cases hp),?_⟩;simp[BH,Value.ownBlock]
  .intro b hb;simp[BH,Value.ownBlock] at hb;omega
  .unfold Nl;rw[In (by rw[Bt];omega),Ms,Qy,Q9,Ot _ (Cc _ _)];rfl
 case round=>
  clear gV;obtain⟨fr,nn,k,rfl,rfl,rfl,hI⟩:=hrel;have HI:=D hI;obtain⟨M,mv,tv,xs,h1,h2,h3,hM,hm,hfp,h5,h6,hl⟩:=hI;have HM:=D hM;have Hm:=D hm;have Hfp:=D hfp;have H6:=D h6;have Hl:=D hl;clear hM hm hfp h6 hl;by_cases hk:k<s.size
  .have Rv:(bs s).drop k=s[k]::(bs s).drop (k+1):=JS (by rw[Bt];exact hk);by_cases he:s[k]=10
   .have hb:(((s[k]).toNat:Int) !=10)=I:=by rw[he];rfl
    have VW:(s.extract fr k).size<=1000000:=by rw[ByteArray.size_extract];omega
    have HP:=D (show Nl (bs s)=EL (bs (s.extract fr k)::AD 10 ((bs s).drop (k+1))) nn M by
      rw[Hl.out,Rv,he,Yt])
    have n7:=D VW;have hf0:0<=(fr:Int):=JK _;have Ug:fr<=(k:Int):=Y
    clear Rv he VW;go_wp2_with fail;refine(VH (s.extract fr k) 32 _ n7).mono ?_;rintro e w1 ⟨v,l,rfl,Dk,Co,ow⟩;have Yp:=Sl.OU Co;have hle:l=Bu (bs (s.extract fr k)):=UI ow;have hne:l≠[]:=by rintro rfl;exact Cc 32 _ ow.symm
    have hss:∀a,a∈l->a.size<=maxLen:=λa ha=>by
     have:bs a∈AD 32 (bs (s.extract fr k)):=by rw[<-ow];exact List.mem_map_of_mem ha
     have:=kR 32 _ _ this;rw[Bt,Bt] at this;have:=n7.out;unfold maxLen;omega
    have hM1:=HM.mod Dk EQ;have zV:=D (AeF l v w1 _ mv tv xs M hM1 _ Yp hne hss h5 H6);have Hm1:=D (Hm.Aj Dk);have Hle:=D hle;have rJ:=Hm1.size;clear Dk Co ow Yp hle hne hss hM1;go_wp2_with fail;refine zV.mono ?_;intro e w2 h2;unfold cE at h2;cases hr:UX M l with
    |error c=>
     rw[hr] at h2;obtain⟨rfl,Fa⟩:=h2;have bz:(c !=0)=V:=by
      rw[bne_iff_ne];rcases Abh hr with rfl|rfl|rfl<;>decide
     have HR:=D (show Nl (bs s)=.error (c,nn+1) by
       obtain⟨q,r,hq⟩:=QR (Cc 10 ((bs s).drop (k+1)));rw[HP.out,hq];simp only[EL];rw[<-Hle.out,hr])
     have X8:=D (Hm1.Aj Fa);clear hr Fa;go_wp2;go_ret3;rw[HR.out];exact⟨rfl,X8⟩
    |ok M'=>
     rw[hr] at h2;obtain⟨rfl,mv',tv',xs',hM2,Fa,AkP⟩:=h2;obtain⟨h7,h8⟩:=AeG hr h5 H6.out;have HR:=D (show Nl (bs s)=EL (AD 10 ((bs s).drop (k+1))) (nn+1) M' by
       obtain⟨q,r,hq⟩:=QR (Cc 10 ((bs s).drop (k+1)));rw[HP.out,hq];simp only[EL];rw[<-Hle.out,hr])
     have X8:=D (Hm1.trans Fa λb hb=> .inr (Hfp b hb));have SX:=D hM2;have AnG:=D (show∀b,b∈BH (w.heap.size+1) mv' tv' xs'->w.heap.size<=b from λb hb=>by
       rcases AkP b hb with h|h
       · exact Hfp.out b h
       · omega)
     have H8:=D h8;clear hr Fa hM2 AkP h8;go_wp2;go_roundw;case rel=>
      refine⟨k+1,nn+1,k+1,by go_num,by go_num,by go_num,M',mv',tv',xs',Jf _,Y,Y,SX,X8,AnG,h7,H8,?_⟩;rw[HR.out,Ms,Qy,Q9,Ot _ (Cc _ _)]
     case measure=>simp[intOf];omega
   .have hb:(((s[k]).toNat:Int) !=10)=V:=by
     rw[bne_iff_ne];intro h;exact he (UInt8.toNat_inj.1 (by show _=10;omega))
    have HL:=D (show Nl (bs s)=EL (SQ (bs (s.extract fr (k+1))) (AD 10 ((bs s).drop (k+1)))) nn M by
      rw[Hl.out,Rv,uN _ _ _ _ he,ig s fr k h1 hk])
    clear Rv he;go_wp2;go_roundw;case rel=>exact⟨fr,nn,k+1,rfl,rfl,by go_num,M,mv,tv,xs,Y,Y,Y,HM,Hm,Hfp,h5,H6,HL⟩
    case measure=>simp[intOf];omega
  .have hke:k=s.size:=Y
   have HL:=D (show Nl (bs s)=EL [bs (s.extract fr k)] nn M by
     rw[Hl.out,Qc (by rw[Bt];omega)];show EL (SQ _ [[]]) nn M=_;simp[SQ])
   have hex:(bs (s.extract fr k)).length=k-fr:=by rw[Ms,Qv,WP,Bt];omega
   by_cases hb:fr=k/\0<nn
   .obtain⟨Ix,VZ⟩:=hb;have HR:=D (show Nl (bs s)=.ok M by
      rw[HL.out,EL,Jd ⟨Jn Y,VZ⟩])
    have ZU:(k==(s.size:Int))=V:=by rw[hke];simp
    have hq2:(fr==(k:Int))=V:=by rw[Ix];simp
    clear Ix hex hke hk;go_wp2;go_ret3;rw[HR.out];exact⟨_,mv,tv,xs,rfl,HM,Hm,Hfp⟩
   .have HR:=D (show Nl (bs s)= .error (2,nn+1) by
       rw[HL.out,EL,In (λh=>hb ⟨by have:=JM List.length h.1;rw[hex] at this;simp at this;omega,h.2⟩)])
    have ZU:(k==(s.size:Int))=V:=by rw[hke];simp
    have VW:(s.extract fr k).size<=1000000:=by rw[ByteArray.size_extract];omega
    have n7:=D VW;have hf0:0<=(fr:Int):=JK _;have Ug:fr<=(k:Int):=Y
    have Hb:=D hb;by_cases h9:fr=k
    .have IL:¬0<(nn:Int):=λh=>Hb.out ⟨h9,Y⟩
     have hq2:(fr==(k:Int))=V:=by rw[h9];simp
     clear hb hex hke hk VW h9;go_wp2_with fail;refine(VH (s.extract fr k) 32 _ n7).mono ?_;rintro e w1 ⟨v,l,rfl,Dk,Co,ow⟩;have Hm1:=D (Hm.Aj Dk);clear Dk Co ow;go_wp2;go_ret3;rw[HR.out];exact⟨rfl,Hm1⟩
    .have hq2:(fr==(k:Int))=I:=by rw[Jh];omega
     clear hb hex hke hk VW h9;go_wp2_with fail;refine(VH (s.extract fr k) 32 _ n7).mono ?_;rintro e w1 ⟨v,l,rfl,Dk,Co,ow⟩;have Hm1:=D (Hm.Aj Dk);clear Dk Co ow;go_wp2;go_ret3;rw[HR.out];exact⟨rfl,Hm1⟩
