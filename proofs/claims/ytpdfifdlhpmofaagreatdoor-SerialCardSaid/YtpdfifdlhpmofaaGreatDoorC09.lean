/- Part 9 of the proof. -/
import Derived.Test.YtpdfifdlhpmofaaGreatDoorC03
set_option linter.unusedVariables false
set_option linter.unusedSimpArgs false
set_option maxHeartbeats 0
set_option maxRecDepth 99999
namespace Go.Proofs.YtpdfifdlhpmofaaGreatDoor
open Go.RowKit Tryz
open Value renaming slice->m9,string->qA,bool->qB,tuple->qC,agg->qD,pointer->qE
open Ending renaming returned->qF
open Obj renaming cells->qG
open Option renaming none->Z,some->U
open Bool renaming true->V,false->I
open Go.Lib renaming hid->D
open List renaming length->J
variable {p:Prop}
theorem mal (h:p:=by
 by_cases KX:J l=1
 .have hq:=Bx (λh=>Hnt.out ⟨KX,h⟩);unfold AE at hq;have O9:((J l:Int)==1)=V:=by rw[KX];rfl
  clear KX;go_wp2;all_goals go_meet
  exact⟨rfl,rfl⟩
 .have O9:((J l:Int)==1)=I:=by rw[Jh];omega
  clear KX;go_wp2;all_goals go_meet
  exact⟨rfl,rfl⟩):p:=h
theorem maF (h:p:=by
 rcases Rf.2 with⟨rfl,h⟩|⟨g,c,Ic,rfl,_⟩
 .exact⟨Z,0,by rw[h]⟩
 .exact⟨_,_,rfl⟩):p:=h
theorem maG (h:p:=by
 exact Jk (show J l=0 by rw[<-Cj,hn];rfl) Y):p:=h
theorem maV (h:p:=by
 obtain⟨hw,rfl⟩:=hcut;obtain rfl:=hw;go_wp2_with fail;refine(Vy _ Hv).mono ?_;rintro e w1 ⟨i',rfl,Pa,Dg⟩;rw[Hi.out];have Nt:=D Dg;clear Pa Dg;go_wp2;go_ret;exact⟨rfl,Nt.alloc _⟩):p:=h
variable {w w' w1:World} {mb:Nat} {mv tv:Value} {l:List ByteArray}
structure CH where
 Ab:List Bh
 pc:Nat
 DA:List Int
 waits:List (Int×Int)
 out:List Int
 Au:Int
variable {t:CH}
structure Al where
 mem:List Int
 ts:List CH
variable {M:Al}
def B9 (l:List Int):List Value:=l.map (Value.int .i64)
def Gv (l:List Bh):List Value:=l.flatMap λi=>i.cells.toList
def CA (l:List (Int×Int)):List Value:=l.flatMap λp=>[iI p.1,iI p.2]
structure TV where
 tb:Nat
 cv:Value
 rv:Value
 wv:Value
 ov:Value
variable {x:TV} {xs:List TV}
def TV.fp (x:TV):List Nat:=x.tb::(x.cv.ownBlock.toList++(x.rv.ownBlock.toList++(x.wv.ownBlock.toList++x.ov.ownBlock.toList)))
def TV.ptr (x:TV):Value:= iJ x.tb
def Ti (w:World) (x:TV) (t:CH):Prop:=
 Ci w x.tb #[x.cv,iI t.pc,x.rv,x.wv,x.ov,iI t.Au] 68/\w.ownsRow 0 101 9 x.cv (J t.Ab) (Gv t.Ab)/\
 w.ownsRow 0 2 1 x.rv (J t.DA) (B9 t.DA)/\w.ownsRow 0 83 2 x.wv (J t.waits) (CA t.waits)/\w.ownsRow 0 2 1 x.ov (J t.out) (B9 t.out)
def BG (mb:Nat) (mv tv:Value) (xs:List TV):List Nat:=mb::(mv.ownBlock.toList++(tv.ownBlock.toList++xs.flatMap TV.fp))
def El (w:World) (mb:Nat) (mv tv:Value) (xs:List TV) (M:Al):Prop:=
 Ci w mb #[mv,tv] 34/\w.ownsRow 0 2 1 mv (J M.mem) (B9 M.mem)/\w.ownsRow 0 69 1 tv (J xs) (xs.map TV.ptr)/\
 J xs=J M.ts/\(∀p,p∈xs.zip M.ts->Ti w p.1 p.2)/\(BG mb mv tv xs).Nodup
theorem Hh {v:Value} {g:Nat} (h:v.ownBlock=U g):g∈v.ownBlock.toList:=by rw[h];simp
theorem Ti.mod {M:List Nat} (h:Ti w x t) (k:Az M w w') (hd:∀b,b∈x.fp->b∉M):Ti w' x t:=by
 obtain⟨h1,h2,h3,h4,h5⟩:=h;refine⟨h1.mod k (hd _ (by simp[TV.fp])),B7 h2 k λg hg=>hd g (by simp[TV.fp,hg]),B7 h3 k λg hg=>hd g (by simp[TV.fp,hg]),B7 h4 k λg hg=>hd g (by simp[TV.fp,hg]),B7 h5 k λg hg=>hd g (by simp[TV.fp,hg])⟩
theorem Ti.lt (h:Ti w x t):∀b,b∈x.fp->b<w.heap.size:=by
 obtain⟨h1,h2,h3,h4,h5⟩:=h;intro b hb;simp only[TV.fp,Jl,Jp,Q5] at hb;rcases hb with rfl|hb|hb|hb|hb
 .exact h1.lt
 grind [DX h2 hb];grind [DX h3 hb];grind [DX h4 hb];grind [DX h5 hb]
theorem y8 {α β:Type} {xs:List α} {ys:List β} (h:J xs=J ys) {x:α} (hx:x∈xs):∃y,(x,y)∈xs.zip ys:=by
 obtain⟨i,hi,rfl⟩:=List.getElem_of_mem hx;exact⟨ys[i],by rw[<-List.getElem_zip (i:=i) (h:=by rw[List.length_zip];omega)];grind⟩
theorem El.lt (h:El w mb mv tv xs M):∀b,b∈BG mb mv tv xs->b<w.heap.size:=by
 obtain⟨h1,h2,h3,h4,h5,h6⟩:=h;intro b hb;simp only[BG,Jl,Jp,Q5,JT] at hb;rcases hb with rfl|hb|hb|⟨x,hx,hb⟩
 .exact h1.lt
 grind [DX h2 hb];grind [DX h3 hb]
 .obtain⟨y,hy⟩:=y8 h4 hx;exact(h5 _ hy).lt b hb
theorem El.mod {F:List Nat} (h:El w mb mv tv xs M) (k:Az F w w') (hd:∀b,b∈BG mb mv tv xs->b∉F):El w' mb mv tv xs M:=by
 obtain⟨h1,h2,h3,h4,h5,h6⟩:=h;refine⟨h1.mod k (hd _ (by simp[BG])),B7 h2 k λg hg=>hd g (by simp[BG,hg]),B7 h3 k λg hg=>hd g (by simp[BG,hg]),h4,λp hp=>(h5 p hp).mod k λb hb=>hd b ?_,h6⟩;have:p.1∈xs:=(j9 (a:=p.1) (b:=p.2) hp).1;simp only[BG,Jl,Jp,JT];exact .inr (.inr (.inr ⟨p.1,this,hb⟩))
theorem Ab0:(prog.info? 101).map (λi=>(i.zero,i.size,i.bytes))=U (U (Bh.of ⟨#[]⟩).val,9,80):=Fd
theorem AbW:(prog.info? 69).map (λi=>(i.zero,i.size,i.bytes))=U (U (qE Z),1,8):=Fd
theorem Rc:(prog.info? 2).map (λi=>(i.zero,i.size,i.bytes))=U (U (iI 0),1,8):=Fd
def CH.new:CH:=⟨[],0,List.replicate 8 0,[],[],0⟩
def UA (M:Al) (l:List ByteArray):Except Int Al:=
 if J l=1/\bs (wd l 0)=AE then (if J M.ts=3 then .error 5 else .ok {M with ts:=M.ts++[.new]})
 else match Er l with
  |none=> .error 2
  |some i=>match M.ts.getLast? with
   |none=> .error 3
   |some t=>if J t.Ab=4000 then .error 5 else .ok {M with ts:=M.ts.dropLast++[{t with Ab:=t.Ab++[i]}]}
def bG (r:Except Int Al) (mb:Nat) (F:List Nat) (w:World) (e:Ending) (w':World):Prop:=
 match r with
 |.error c=>e= qF (iI c)/\Az [] w w'
 |.ok M'=>e= qF (iI 0)/\∃mv' tv' xs',El w' mb mv' tv' xs' M'/\Az F w w'/\∀b,b∈BG mb mv' tv' xs'->b∈F\/w.heap.size<=b
theorem mk8 (w:World):(Instr.makeSlice 31 (iI 8) (iI 8)).run prog w=.ok (m9 (U ⟨w.heap.size,0,Z⟩) 8 8) (w.alloc (qG #[iI 0,iI 0,iI 0,iI 0,iI 0,iI 0,iI 0,iI 0] 2)):=Fd
theorem rI (w:World) (A B C:Obj):(((w.alloc A).alloc B).alloc C).drew.heap[w.heap.size+2]?=U C:=by
 show(((w.heap.push A).push B).push C)[w.heap.size+2]?=_;have h:((w.heap.push A).push B).size=w.heap.size+2:=EQ
 rw[<-h,Array.getElem?_push_size]
theorem RL (w:World) (A B C:Obj):(((w.alloc A).alloc B).alloc C).drew.heap.size=w.heap.size+3:=by
 show(((w.heap.push A).push B).push C).size=_;simp
theorem YE {p:Option Addr} {SM:Nat} {g2 gz:Nat} {C1:Array Value} {T1:TypeId}
  (PH:∀b,b∈BG mb mv (m9 p (J xs) SM) xs->b<w.heap.size)
  (HB:Ci w mb #[mv,m9 p (J xs) SM] 34) (Hmv:w.ownsRow 0 2 1 mv (J M.mem) (B9 M.mem)) (Htv:w.ownsRow 0 69 1 (m9 p (J xs) SM) (J xs) (xs.map TV.ptr))
  (Hxl:J xs=J M.ts) (Hts:∀p,p∈xs.zip M.ts->Ti w p.1 p.2) (Sy:(BG mb mv (m9 p (J xs) SM) xs).Nodup)
  (Cp:w1.ownsRow 0 69 1 (m9 (U ⟨g2,0,Z⟩) (J xs+1) gz) (J xs+1) (xs.map TV.ptr++[iJ (w.heap.size+1)]))
  (EH:(((w.alloc (qG #[iI 0,iI 0,iI 0,iI 0,iI 0,iI 0,iI 0,iI 0] 2)).alloc (qG #[m9 Z 0 0,iI 0,m9 (U ⟨w.heap.size,0,Z⟩) 8 8,m9 Z 0 0,m9 Z 0 0,iI 0] 68)).alloc (qG C1 T1)).drew.grownBy w1 (m9 p (J xs) SM).ownBlock)
  (FE:(m9 p (J xs) SM).ownBlock=U g2\/g2=w.heap.size+3):
  bG (.ok {M with ts:=M.ts++[.new]}) mb (BG mb mv (m9 p (J xs) SM) xs) w (qF (iI 0)) (w1.setCell ⟨mb,1,Z⟩ (m9 (U ⟨g2,0,Z⟩) (J xs+1) gz)):=by
 have Gp:=PH;generalize Rf:(m9 p (J xs) SM)=tv at*;have Zt:=(((((Az.refl tv.ownBlock.toList w).alloc (qG #[iI 0,iI 0,iI 0,iI 0,iI 0,iI 0,iI 0,iI 0] 2)).alloc (qG #[m9 Z 0 0,iI 0,m9 (U ⟨w.heap.size,0,Z⟩) 8 8,m9 Z 0 0,m9 Z 0 0,iI 0] 68)).alloc (qG C1 T1)).drew).grown EH (λk hk=> .inl (Hh hk));have Akf:=λh=>by
  rw[BG,JU] at Sy;exact Sy.1 (Jc _ (IR _ h))
 have Ps:=HB.lt;have Dg:Az (mb::tv.ownBlock.toList) w (w1.setCell ⟨mb,1,Z⟩ (m9 (U ⟨g2,0,Z⟩) (J xs+1) gz)):=
  (Zt.mono λx hx=> .inl (Id _ hx)).setCell (p:=⟨mb,1,Z⟩) (.inl (Jd ..)) _
 have dt:(w.alloc (qG #[iI 0,iI 0,iI 0,iI 0,iI 0,iI 0,iI 0,iI 0] 2)).heap.size=w.heap.size+1:=QO _;have hold:∀g,tv.ownBlock=U g->g<w.heap.size:=λg hg=>Gp g (by simp[BG,hg])
 have hg2:g2≠mb:=by
  rcases FE with h|h
  .rintro rfl;exact Akf (Hh h)
  .omega
 have hk:=(Az.refl tv.ownBlock.toList _).grown EH (λk hk=> .inl (Hh hk));have b1:=((Ci.new (w.alloc (qG #[iI 0,iI 0,iI 0,iI 0,iI 0,iI 0,iI 0,iI 0] 2)) #[m9 Z 0 0,iI 0,m9 (U ⟨w.heap.size,0,Z⟩) 8 8,m9 Z 0 0,m9 Z 0 0,iI 0] 68).alloc (qG C1 T1)).drew;have b0:=(((Ci.new w #[iI 0,iI 0,iI 0,iI 0,iI 0,iI 0,iI 0,iI 0] 2).alloc (qG #[m9 Z 0 0,iI 0,m9 (U ⟨w.heap.size,0,Z⟩) 8 8,m9 Z 0 0,m9 Z 0 0,iI 0] 68)).alloc (qG C1 T1)).drew;rw[dt] at b1;have TN:w.heap.size+1∉tv.ownBlock.toList:=λh=>by have:=hold _ (Q5.1 h);omega
 have IN:w.heap.size∉tv.ownBlock.toList:=λh=>by have:=hold _ (Q5.1 h);omega
 have c1:=(b1.mod hk TN).FZ (p:=⟨mb,1,Z⟩) (by show w.heap.size+1≠mb;omega) (m9 (U ⟨g2,0,Z⟩) (J xs+1) gz);have c0:=(b0.mod hk IN).FZ (p:=⟨mb,1,Z⟩) (by show w.heap.size≠mb;omega) (m9 (U ⟨g2,0,Z⟩) (J xs+1) gz);refine⟨rfl,mv,m9 (U ⟨g2,0,Z⟩) (J xs+1) gz,xs++[⟨w.heap.size+1,m9 Z 0 0,m9 (U ⟨w.heap.size,0,Z⟩) 8 8,m9 Z 0 0,m9 Z 0 0⟩],⟨?_,?_,?_,?_,?_,?_⟩,?_,?_⟩
 .exact(HB.mod Zt Akf).set 1 _
 .refine B7 Hmv Dg λg hg hx=>?_
  have hgm:=Hh hg;rw[BG,JU,Jt] at Sy;rcases Jl.1 hx with rfl|hx
  .exact Sy.1 (IR _ hgm)
  .exact Sy.2.2.2 g hgm g (IR _ hx) rfl
 .rw[GT,JQ];exact W6 Cp (p:=⟨mb,1,Z⟩) (λh=>hg2 (Option.some.inj h)) _
 .simp[Hxl]
 .intro q hq;rw[WP Hxl] at hq;rcases Jp.1 hq with hq|hq
  .refine(Hts q hq).mod Dg λb hb hx=>?_
   have SJ:=JT.2 ⟨q.1,(j9 hq).1,hb⟩;rw[BG,JU,Jt,Jt] at Sy;rcases Jl.1 hx with rfl|hx
   .exact Sy.1 (Jc _ (Jc _ SJ))
   .exact Sy.2.2.1.2.2 b hx b SJ rfl
  .obtain rfl:q=_:=by simpa using hq
   exact⟨c1,ownsRow_nil _ _ _ _,⟨rfl,.inr ⟨w.heap.size,8,_,rfl,Jr _,c0,Jf _,by unfold maxLen;omega,rfl,rfl⟩⟩,ownsRow_nil _ _ _ _,ownsRow_nil _ _ _ _⟩
 .have e:BG mb mv (m9 (U ⟨g2,0,Z⟩) (J xs+1) gz) (xs++[⟨w.heap.size+1,m9 Z 0 0,m9 (U ⟨w.heap.size,0,Z⟩) 8 8,m9 Z 0 0,m9 Z 0 0⟩])=
    mb::(mv.ownBlock.toList++(g2::(xs.flatMap TV.fp++[w.heap.size+1,w.heap.size]))):=by
   simp[BG,TV.fp,Value.ownBlock]
  rw[e];have hlA:=λb hb=>Gp b (Id _ (IR _ hb))
  have hlC:=λb hb=>Gp b (Id _ (Jc _ (Jc _ hb)))
  have hgC:g2∉xs.flatMap TV.fp:=λh=>by
   rcases FE with h1|h1
   .rw[BG,JU,Jt,Jt] at Sy;exact Sy.2.2.1.2.2 g2 (Hh h1) g2 h rfl
   .have:=hlC _ h;omega
  have hg3:g2<w.heap.size\/g2=w.heap.size+3:=by
   rcases FE with h1|h1
   .exact .inl (hold _ h1)
   .exact .inr h1
  rw[BG,JU,Jt,Jt] at Sy;obtain⟨n1,n2,⟨n3,n4,n5⟩,n6⟩:=Sy;generalize mv.ownBlock.toList=A at*;generalize xs.flatMap TV.fp=C at*;simp only[JU,Jt,Jp,Jl,Qm] at n1⊢;grind
 .exact Dg.mono λx hx=> .inl (by
     rcases Jl.1 hx with rfl|hx
     · simp[BG]
     · rw[BG];exact Id _ (Jc _ (IR _ hx)))
 .intro b hb;have e:BG mb mv (m9 (U ⟨g2,0,Z⟩) (J xs+1) gz) (xs++[⟨w.heap.size+1,m9 Z 0 0,m9 (U ⟨w.heap.size,0,Z⟩) 8 8,m9 Z 0 0,m9 Z 0 0⟩])=
    mb::(mv.ownBlock.toList++(g2::(xs.flatMap TV.fp++[w.heap.size+1,w.heap.size]))):=by
   simp[BG,TV.fp,Value.ownBlock]
  rw[e] at hb;simp only[BG,Jl,Jp,Qm] at hb⊢;rcases hb with h|h|h|h|h|h|h
  .exact .inl (.inl h)
  .exact .inl (.inr (.inl h))
  .subst h;rcases FE with h1|h1
   .exact .inl (.inr (.inr (.inl (Hh h1))))
   .exact .inr Y
  .exact .inl (.inr (.inr (.inr h)))
  .exact .inr Y
  .exact .inr Y
  .exact h.elim
theorem oo (l:List ByteArray) (v:Value) (w:World) (mb:Nat) (mv tv:Value) (xs:List TV) (M:Al) (hM:El w mb mv tv xs M) (ok:Nat->Prop) (hv:Sl w ok v (Bq l)) (h1:J l=1) (ht:bs (wd l 0)=AE) (h3:J M.ts<3):
  Calls prog 39 #[iJ mb,v] w (bG (.ok {M with ts:=M.ts++[.new]}) mb (BG mb mv tv xs) w):=by
 obtain⟨i0,hi,Lc,Lb,Mm⟩:=info_parts AbW;have hlt:=hM.lt;obtain⟨hB,aw,Rf,hxl,SZ,EG⟩:=hM;obtain⟨hm,⟨rfl,hn⟩|⟨b,off,cap,rfl,g1,g2,g3,g4,g5⟩⟩:=hv
 .exact maG
 rw[Cj,h1] at hm g1⊢;have c0:=Sl.M9 g5 0 Y;simp only[JX] at c0;have hq:=CZ ht;unfold AE at hq;have pP:=hB.cell;have Acm:=hB.lt;have TN:((J xs:Int)==3)=I:=by rw[Jh];omega
 have hx3:J xs<3:=Y
 obtain⟨p,SM,rfl⟩:∃p c,tv= m9 p (J xs) c:=by
  exact maF
 have HB:=D hB;have Hmv:=D aw;have Htv:=D Rf;have Hxl:=D hxl;have Hts:=D SZ;have Sy:=D EG;have PH:=D hlt;clear hB aw Rf hxl SZ EG g5 g3 hm g1 g2 h1 ht h3 hlt;have hmk:=mk8;go_enter func39,ntmps39;go_wp2_with fail;have hS1:w.cell? ⟨mb,1,Z⟩=U (m9 p (J xs) SM):=pP 1;have hne:U mb≠(m9 p (J xs) SM).ownBlock:=by
  intro h;have:=Sy.out;rw[BG,JU] at this;exact this.1 (by simp[<-h])
 have Np:=D hne;have Alm:=D Acm;have Anq:mb<w.heap.size+1:=Y
 have Anp:mb<w.heap.size+1+1:=Y
 clear pP c0 hne
 go_region_law
  ((refine step_append_lies _ Eq _ _ _ Eq 0 69 i0 _ 1 8 underlying32 hi Lc Lb Mm rfl Y (m9 p (J xs) SM) (J xs) (xs.map TV.ptr) Eq
      (Ll (DY (DY (DY Htv _) _) _))
      ⟨w.heap.size+2,0,Z⟩ 1 1 [iJ (w.heap.size+1)] Eq Eq (Qz (rI w _ _ _)) (by simp[Value.oneCell'])
      Y (by unfold maxLen;omega) Y (Jr _) (w.heap.size+3) (RL w _ _ _) ?_;intro g2 gz w1 Acj EH FE pF
    have TP:w1.frozen? ⟨mb,1,Z⟩=I:=by
      rw[EH.frozen_far _ (by rw[RL];exact JR Alm.out (jV _ 3)) Np.out];exact((((HB.alloc _).alloc _).alloc _).free 1)
    have ay:w1.cell? ⟨mb,1,Z⟩=U (m9 p (J xs) SM):=by
      rw[EH.cell_far _ (by rw[RL];exact JR Alm.out (jV _ 3)) Np.out];exact((((HB.alloc _).alloc _).alloc _).cell 1)))
 all_goals
  go_wp2;go_ret;exact YE PH HB Hmv Htv Hxl Hts Sy ‹_› ‹_› ‹_›
theorem Z2 (w:World) (A B:Obj):((w.alloc A).alloc B).drew.heap[w.heap.size+1]?=U B:=by
 show((w.heap.push A).push B)[w.heap.size+1]?=_;have h:(w.heap.push A).size=w.heap.size+1:=EQ
 rw[<-h,Array.getElem?_push_size]
theorem XQ (h:(BG mb mv tv (xs++[x])).Nodup):
  (∀g,tv.ownBlock=U g->mb≠g/\∀b,b∈x.fp->g≠b)/\(∀b,b∈x.fp->mb≠b)/\x.fp.Nodup:=by
 have hx:∀b,b∈x.fp->b∈(xs++[x]).flatMap TV.fp:=λb hb=>JT.2 ⟨x,EQ,hb⟩
 rw[BG,JU,Jt,Jt] at h;obtain⟨h1,h2,⟨h3,h4,h5⟩,h6⟩:=h;refine⟨λg hg=>⟨?_,λb hb=>h5 g (Hh hg) b (hx b hb)⟩,λb hb=>?_,?_⟩
 .rintro rfl;exact h1 (Jc _ (IR _ (Hh hg)))
 .rintro rfl;exact h1 (Jc _ (Jc _ (hx _ hb)))
 .rw[J9,Jt] at h4;simpa using h4.2.1
theorem iV {w6:World} {ts:List CH} {i:Bh} {g6 AL:Nat} {A B:Obj}
  (hM:El w mb mv tv (xs++[x]) M) (SZ:M.ts=ts++[t]) (Dg:Az [] w w1)
  (Cp:w6.ownsRow 0 101 9 (m9 (U ⟨g6,0,Z⟩) (J t.Ab+1) AL) (J t.Ab+1) (Gv t.Ab++i.cells.toList))
  (EH:((w1.alloc A).alloc B).drew.grownBy w6 x.cv.ownBlock) (FE:x.cv.ownBlock=U g6\/g6=w1.heap.size+2):
  bG (.ok {M with ts:=ts++[{t with Ab:=t.Ab++[i]}]}) mb (BG mb mv tv (xs++[x])) w (qF (iI 0)) (w6.setCell ⟨x.tb,0,Z⟩ (m9 (U ⟨g6,0,Z⟩) (J t.Ab+1) AL)):=by
 have Gp:=hM.lt;obtain⟨hB,aw,Rf,hxl,Ex,EG⟩:=hM;have AhO:J xs=J ts:=by rw[SZ] at hxl;simpa using hxl
 have hz:(xs++[x]).zip M.ts=xs.zip ts++[(x,t)]:=by rw[SZ,WP AhO];rfl
 obtain⟨x1,x2,x3,x4,x5⟩:Ti w x t:=Ex (x,t) (by rw[hz];simp);have yQ:=((((Dg.nil).alloc A).alloc B).drew).grown EH (λk hk=> .inl (Hh hk));have hm7:Az (x.tb::x.cv.ownBlock.toList) w (w6.setCell ⟨x.tb,0,Z⟩ (m9 (U ⟨g6,0,Z⟩) (J t.Ab+1) AL)):=
  (yQ.mono λy hy=> .inl (Id _ hy)).setCell (p:=⟨x.tb,0,Z⟩) (.inl (Jd ..)) _
 have hf:∀b,b∈x.tb::x.cv.ownBlock.toList->b∈x.fp:=λb hb=>by
  rcases Jl.1 hb with rfl|hb
  .simp[TV.fp]
  .simp[TV.fp,Q5.1 hb]
 have aZ:=Dg.size;refine⟨rfl,mv,tv,xs++[{x with cv:= m9 (U ⟨g6,0,Z⟩) (J t.Ab+1) AL}],⟨?_,?_,?_,?_,?_,?_⟩,?_,?_⟩
 .exact hB.mod hm7 λh=>(XQ EG).2.1 mb (hf mb h) rfl
 .refine B7 aw hm7 λg hg hx=>?_
  have h1:=Hh hg;have h2:g∈(xs++[x]).flatMap TV.fp:=JT.2 ⟨x,EQ,hf g hx⟩;rw[BG,JU,Jt] at EG;exact EG.2.2.2 g h1 g (Jc _ h2) rfl
 .have:=B7 Rf hm7 λg hg hx=>((XQ EG).1 g hg).2 g (hf g hx) rfl
  simpa[TV.ptr] using this
 .simpa using AhO
 .intro q hq;rw[WP AhO] at hq;rcases Jp.1 hq with hq|hq
  .refine(Ex q (by rw[hz];exact IR _ hq)).mod hm7 λb hb hx=>?_
   have h1:=JT.2 ⟨q.1,(j9 hq).1,hb⟩;rw[BG,JU,Jt,Jt,J9,Jt] at EG;exact EG.2.2.1.2.1.2.2 b h1 b (by simpa using hf b hx) rfl
  .obtain rfl:q=_:=by simpa using hq
   have yS:=(XQ EG).2.2;rw[TV.fp,JU,Jt] at yS;have hr:∀b,b∈x.rv.ownBlock.toList++(x.wv.ownBlock.toList++x.ov.ownBlock.toList)->b∉x.tb::x.cv.ownBlock.toList:=λb hb hx=>by
    rcases Jl.1 hx with rfl|hx
    .exact yS.1 (Jc _ hb)
    .exact yS.2.2.2 b hx b hb rfl
   have hg6:g6≠x.tb:=by
    rcases FE with h|h
    .rintro rfl;exact yS.1 (IR _ (Hh h))
    .have:=x1.lt;omega
   refine⟨(x1.mod yQ λh=>yS.1 (IR _ h)).set 0 _,?_,B7 x3 hm7 λg hg=>hr g (by simp[hg]),B7 x4 hm7 λg hg=>hr g (by simp[hg]),B7 x5 hm7 λg hg=>hr g (by simp[hg])⟩;have:=W6 Cp (p:=⟨x.tb,0,Z⟩) (λh=>hg6 (Option.some.inj h)) (m9 (U ⟨g6,0,Z⟩) (J t.Ab+1) AL);simpa[Gv] using this
 .have e1:BG mb mv tv (xs++[x])=(mb::(mv.ownBlock.toList++(tv.ownBlock.toList++(xs.flatMap TV.fp++[x.tb]))))++(x.cv.ownBlock.toList++(x.rv.ownBlock.toList++(x.wv.ownBlock.toList++x.ov.ownBlock.toList))):=by
   simp[BG,TV.fp]
  have e2:BG mb mv tv (xs++[{x with cv:= m9 (U ⟨g6,0,Z⟩) (J t.Ab+1) AL}])=(mb::(mv.ownBlock.toList++(tv.ownBlock.toList++(xs.flatMap TV.fp++[x.tb]))))++(g6::(x.rv.ownBlock.toList++(x.wv.ownBlock.toList++x.ov.ownBlock.toList))):=by
   simp[BG,TV.fp,Value.ownBlock]
  rw[e2];rw[e1] at EG Gp;rcases FE with h|h
  .rw[h] at EG;exact EG
  .rw[jW.nodup_iff,JU];refine⟨λhx=>?_,EG.sublist (List.Sublist.append (List.Sublist.refl _) (List.sublist_append_right _ _))⟩;have:=Gp g6 (by
     rcases Jp.1 hx with hx|hx
     · exact IR _ hx
     · exact Jc _ (Jc _ hx))
   omega
 .exact hm7.mono λy hy=> .inl (by
     have:=hf y hy;rw[BG];exact Id _ (Jc _ (Jc _ (JT.2 ⟨x,EQ,this⟩))))
 .intro b hb;have e2:BG mb mv tv (xs++[{x with cv:= m9 (U ⟨g6,0,Z⟩) (J t.Ab+1) AL}])=(mb::(mv.ownBlock.toList++(tv.ownBlock.toList++(xs.flatMap TV.fp++[x.tb]))))++(g6::(x.rv.ownBlock.toList++(x.wv.ownBlock.toList++x.ov.ownBlock.toList))):=by
   simp[BG,TV.fp,Value.ownBlock]
  have e1:BG mb mv tv (xs++[x])=(mb::(mv.ownBlock.toList++(tv.ownBlock.toList++(xs.flatMap TV.fp++[x.tb]))))++(x.cv.ownBlock.toList++(x.rv.ownBlock.toList++(x.wv.ownBlock.toList++x.ov.ownBlock.toList))):=by
   simp[BG,TV.fp]
  rw[e2] at hb;rw[e1];rcases Jp.1 hb with hb|hb
  .exact .inl (IR _ hb)
  .rcases Jl.1 hb with rfl|hb
   .rcases FE with h|h
    .exact .inl (Jc _ (IR _ (Hh h)))
    .exact .inr Y
   .exact .inl (Jc _ (Jc _ hb))
theorem Aee (l:List ByteArray) (v:Value) (w:World) (mb:Nat) (mv tv:Value) (xs:List TV) (x:TV) (M:Al) (ts:List CH) (t:CH) (i:Bh) (hM:El w mb mv tv (xs++[x]) M) (SZ:M.ts=ts++[t]) (ok:Nat->Prop) (hv:Sl w ok v (Bq l))
  (hne:l≠[]) (hs:∀s,s∈l->s.size<=maxLen) (gh:¬(J l=1/\bs (wd l 0)=AE)) (hi:Er l=U i) (hc:J t.Ab<4000) (hxs:J xs<3):
  Calls prog 39 #[iJ mb,v] w (bG (.ok {M with ts:=ts++[{t with Ab:=t.Ab++[i]}]}) mb (BG mb mv tv (xs++[x])) w):=by
 have Ia:=λw hv=>XX l v w ok hv hne hs
 unfold AdH at Ia;simp only[Bh.val,Bh.cells] at Ia;obtain⟨j0,hj,Lc,Lb,Mm⟩:=info_parts Ab0;have HMm:=D hM;have hlt:=hM.lt;have IN:=XQ hM.2.2.2.2.2;obtain⟨hB,aw,Rf,hxl,Ex,EG⟩:=hM;have hlen:0<J l:=by cases l with|nil=>exact Jk rfl hne|cons a r=>simp
 have hx:=Ex (x,t) (by rw[SZ,WP (by rw[SZ] at hxl;simpa using hxl)];simp);obtain⟨x1,x2,x3,x4,x5⟩:=hx;obtain⟨g,cap,rfl,hg1,hg2,hg3,hg4,hgc,hgf⟩:=Av Rf EQ;have TN:=IN.1 g rfl;have n4:∀h,x.cv.ownBlock=U h->h≠mb/\h≠g/\h≠x.tb:=λh hh=>by
  have hf:h∈x.fp:=by simp[TV.fp,hh]
  refine⟨λe=>IN.2.1 h hf e.symm,λe=>TN.2 h hf e.symm,λe=>?_⟩;have:=IN.2.2;rw[TV.fp,JU] at this;exact this.1 (by rw[<-e];simp[hh])
 have N4:=D n4;clear IN TN n4;have hk:w.cell? ⟨g,J xs,Z⟩=U (iJ x.tb):=by
  rw[hgc (J xs) EQ];simp[TV.ptr]
 rw[show(xs++[x]).length=J xs+1 by simp] at Rf hxl;have Hv:=D hv;obtain⟨hm,⟨rfl,hn⟩|⟨b,off,AiC,rfl,g1,g2,g3,g4,g5⟩⟩:=hv
 .exact maG
 rw[Cj] at hm g1 Ia Hv⊢;have c0:=Sl.M9 g5 0 hlen;simp only[JX] at c0;have pP:=hB.cell;have hBf:=hB.free;have Acm:=hB.lt;have Vy:=D Ia;have HB:=D hB;have Hmv:=D aw;have Htv:=D Rf;have Hth:=D Ex;have PH:=D hlt;have X1:=D x1;have X2:=D x2;have X3:=D x3;have X4:=D x4;have X5:=D x5;have Hk:=D hk;have Hts:=D SZ;have Hi:=D hi;have Hnt:=D gh;clear Ia hB aw Rf hxl Ex EG x1 x2 x3 x4 x5 g5 hlt hk SZ hi hgc hgf hs hne g3 gh;go_enter func39,ntmps39;go_upto_region 2 with(fail)
 go_cut [22] (λq w'=>w'=w/\q= qB I)
 case first=>
  exact mal
 case rest=>
  obtain⟨hw,rfl⟩:=hcut;obtain rfl:=hw;go_wp2_with fail;refine(Vy _ Hv).mono ?_;rintro e w1 ⟨i',rfl,Pa,Dg⟩;obtain rfl:=Pa i Hi.out;rw[Hi.out];have Nt:=D Dg;have Hk1:=AK Dg Hk.out;have hB1:=HB.mod Dg EQ;have hX1:=X1.mod Dg EQ;have AmJ:=hB1.cell 1;have hXc:=hX1.cell 0;simp only[J7,Pi,Qi] at AmJ hXc;have hml:=hB1.lt;have hxl:=hX1.lt;have hgl:=L5 Hk1;obtain⟨pc,capc,VF⟩:∃p c,x.cv= m9 p (J t.Ab) c:=by
   rcases X2.2 with⟨h,h0⟩|⟨g',c',Ic,h,_⟩
   .exact⟨Z,0,by rw[h,h0]⟩
   .exact⟨_,_,h⟩
  rw[VF] at hXc;have B8:((J t.Ab:Int)==4000)=I:=by rw[Jh];omega
  have yF:=D VF;have hX2:w1.ownsRow 0 101 9 (m9 pc (J t.Ab) capc) (J t.Ab) (Gv t.Ab):=by
   rw[<-VF];exact B7 X2 Dg EQ
  have HX2:=D hX2;have N5:=D (show∀h,(m9 pc (J t.Ab) capc).ownBlock=U h->h≠mb/\h≠g/\h≠x.tb by rw[<-VF];exact N4.out);have HX1:=D hX1;clear Pa Dg hB1 hX1 VF pP hBf hX2;have AjV:∀(A B:Obj),((w1.alloc A).alloc B).drew.heap.size=w1.heap.size+2:=λA B=>by show((w1.heap.push A).push B).size=_;simp
  have HSz:=D AjV;clear AjV;go_upto_region 14 with fail
  have hI0:0<=(J xs:Int):=JG _;have hI1:J xs<((J xs:Int)+1):=Y
  have lH:∀h,(m9 pc (J t.Ab) capc).ownBlock=U h->h<w1.heap.size:=λh hh=>(DX HX2 hh).2
  have Hbn:=D lH;clear lH;refine AF [18,19] 22 (λw'=>w'.cell? ⟨mb,1,Z⟩=U (m9 (U ⟨g,0,Z⟩) (J xs+1) cap)/\w'.cell? ⟨g,J xs,Z⟩=U (iJ x.tb)/\
      w'.cell? ⟨x.tb,0,Z⟩=U (m9 pc (J t.Ab) capc)/\∀i,w'.cell? ⟨w1.heap.size,i,Z⟩=(#[qA i'.M9,iI i'.d,qB i'.a.Dd,iI i'.a.v,qB i'.b.Dd,iI i'.b.v,qB i'.c.Dd,iI i'.c.v,iI i'.k])[i]?) ?_ ?_
  .exact⟨by go_simp,by go_simp,by go_simp,λq=>(Ci.new w1 #[qA i'.M9,iI i'.d,qB i'.a.Dd,iI i'.a.v,qB i'.b.Dd,iI i'.b.v,qB i'.c.Dd,iI i'.c.v,iI i'.k] 101).cell q⟩
  .repeat
    refine I9 (v:= ?_) rfl rfl rfl (λW hW=>?_) ?_;rotate_left
    .obtain⟨s1,s2,s3,s4⟩:=hW;go_simp;rfl
    simp only[FH]
   refine AI rfl (λK hK=>?_);go_simp;refine hK _ _ (λ_=>⟨by go_simp,by go_simp,by go_simp,λq=>((Ci.new w1 #[qA i'.M9,iI i'.d,qB i'.a.Dd,iI i'.a.v,qB i'.b.Dd,iI i'.b.v,qB i'.c.Dd,iI i'.c.v,iI i'.k] 101).alloc _).cell q⟩) ?_;refine AI rfl (λK hK=>?_);refine step_append_lies _ Eq _ _ _ Eq 0 101 j0 _ 9 80 underlying65 hj Lc Lb Mm rfl Y (m9 pc (J t.Ab) capc) (J t.Ab) (Gv t.Ab) Eq
     (Ll (DY (DY HX2 _) _))
     ⟨w1.heap.size+1,0,Z⟩ 1 1 i'.cells.toList Eq Eq (Qz (Z2 w1 _ _)) (by simp[Value.oneCell',Bh.cells])
     Y (by unfold maxLen;omega) Y (Jr _) (w1.heap.size+2) (HSz _ _) ?_
   intro g6 AL w6 tx EH AkE AnO;have far:∀a,a.block<w1.heap.size+2->(m9 pc (J t.Ab) capc).ownBlock≠U a.block->w6.cell? a=((w1.alloc (qG i'.cells 101)).alloc (qG i'.cells 101)).drew.cell? a:=λa h1 h2=>EH.cell_far a (by rw[HSz.out];exact h1) (Ne.symm h2)
   have s1:w6.cell? ⟨mb,1,Z⟩=U (m9 (U ⟨g,0,Z⟩) (J xs+1) cap):=by
    rw[far _ (by show mb<_;omega) (λh=>(N5.out _ h).1 rfl)];go_simp
   have s2:w6.cell? ⟨g,J xs,Z⟩=U (iJ x.tb):=by
    rw[far _ (by show g<_;omega) (λh=>(N5.out _ h).2.1 rfl)];go_simp
   have s3:w6.cell? ⟨x.tb,0,Z⟩=U (m9 pc (J t.Ab) capc):=by
    rw[far _ (by show x.tb<_;omega) (λh=>(N5.out _ h).2.2 rfl)];go_simp
   have s4:∀q,w6.cell? ⟨w1.heap.size,q,Z⟩=(#[qA i'.M9,iI i'.d,qB i'.a.Dd,iI i'.a.v,qB i'.b.Dd,iI i'.b.v,qB i'.c.Dd,iI i'.c.v,iI i'.k])[q]?:=λq=>by
    rw[far _ (by show w1.heap.size<_;omega) (λh=>RK _ (Hbn.out _ h))];exact((Ci.new w1 #[qA i'.M9,iI i'.d,qB i'.a.Dd,iI i'.a.v,qB i'.b.Dd,iI i'.b.v,qB i'.c.Dd,iI i'.c.v,iI i'.k] 101).alloc _).cell q
   have hf6:w6.frozen? ⟨x.tb,0,Z⟩=I:=by
    rw[EH.frozen_far _ (by rw[HSz.out];show x.tb<_;omega) (λh=>(N5.out _ h.symm).2.2 rfl)];exact(((HX1.alloc _).alloc _).free 0)
   refine hK _ _ (λ_=>⟨s1,s2,s3,s4⟩) (D3 rfl ?_);simp only[FH];refine Od ?_;clear s4 far;refine AI rfl (λK hK=>?_);go_simp;refine hK _ _ (λh=>Jk rfl h) ?_;repeat clear hK
   simp only[BN];go_wp2;go_ret;rw[<-yF.out] at EH AkE;exact iV HMm Hts Nt tx EH AkE
theorem AaM (l:List ByteArray) (v:Value) (w:World) (mb:Nat) (mv tv:Value) (xs:List TV) (M:Al) (hM:El w mb mv tv xs M) (ok:Nat->Prop) (hv:Sl w ok v (Bq l)) (h1:J l=1) (ht:bs (wd l 0)=AE) (h3:J M.ts=3) (F:List Nat):
  Calls prog 39 #[iJ mb,v] w (bG (.error 5) mb F w):=by
 obtain⟨hB,aw,Rf,hxl,SZ,EG⟩:=hM;obtain⟨hm,⟨rfl,hn⟩|⟨b,off,cap,rfl,g1,g2,g3,g4,g5⟩⟩:=hv
 .exact maG
 rw[Cj,h1] at hm g1⊢;have c0:=Sl.M9 g5 0 Y;simp only[JX] at c0;have hq:=CZ ht;unfold AE at hq;have pP:=hB.cell 1;have hx3:J xs=3:=Y
 obtain⟨p,SM,rfl⟩:∃p c,tv= m9 p (J xs) c:=by
  exact maF
 rw[hx3] at pP;simp only[J7,Pi,Qi] at pP;clear hB aw Rf hxl SZ EG g5 g3 hm g1 g2 h1 ht h3 hx3;go_enter func39,ntmps39;go_wp2;go_ret;exact⟨rfl,Az.refl _ _⟩
theorem AaH (l:List ByteArray) (v:Value) (w:World) (mb:Nat) (mv tv:Value) (xs:List TV) (M:Al) (hM:El w mb mv tv xs M) (ok:Nat->Prop) (hv:Sl w ok v (Bq l))
  (hne:l≠[]) (hs:∀s,s∈l->s.size<=maxLen) (gh:¬(J l=1/\bs (wd l 0)=AE)) (hi:Er l=Z) (F:List Nat):
  Calls prog 39 #[iJ mb,v] w (bG (.error 2) mb F w):=by
 have Ia:=λw hv=>XX l v w ok hv hne hs
 unfold AdH at Ia;simp only[Bh.val,Bh.cells] at Ia;obtain⟨hB,aw,Rf,hxl,Ex,EG⟩:=hM;have hlen:0<J l:=by cases l with|nil=>exact Jk rfl hne|cons a r=>simp
 have Hv:=D hv;obtain⟨hm,⟨rfl,hn⟩|⟨b,off,AiC,rfl,g1,g2,g3,g4,g5⟩⟩:=hv
 .exact maG
 rw[Cj] at hm g1 Ia Hv⊢;have c0:=Sl.M9 g5 0 hlen;simp only[JX] at c0;obtain⟨p,SM,rfl⟩:∃p c,tv= m9 p (J xs) c:=by
  exact maF
 have pP:=hB.cell 1;simp only[J7,Pi,Qi] at pP;have Acm:=hB.lt;have Vy:=D Ia;have HB:=D hB;have Hnt:=D gh;have Hi:=D hi;clear Ia hB aw Rf hxl Ex EG g5 hs hne g3 gh hi;go_enter func39,ntmps39;go_upto_region 2 with(fail)
 go_cut [22] (λq w'=>w'=w/\q= qB I)
 case first=>
  exact mal
 case rest=>
  exact maV
theorem AaJ (l:List ByteArray) (v:Value) (w:World) (mb:Nat) (mv tv:Value) (xs:List TV) (M:Al) (i:Bh) (hM:El w mb mv tv xs M) (ok:Nat->Prop) (hv:Sl w ok v (Bq l))
  (hne:l≠[]) (hs:∀s,s∈l->s.size<=maxLen) (gh:¬(J l=1/\bs (wd l 0)=AE)) (hi:Er l=U i) (h0:M.ts=[]) (F:List Nat):
  Calls prog 39 #[iJ mb,v] w (bG (.error 3) mb F w):=by
 have Ia:=λw hv=>XX l v w ok hv hne hs
 unfold AdH at Ia;simp only[Bh.val,Bh.cells] at Ia;obtain⟨hB,aw,Rf,hxl,Ex,EG⟩:=hM;have hlen:0<J l:=by cases l with|nil=>exact Jk rfl hne|cons a r=>simp
 have Hv:=D hv;obtain⟨hm,⟨rfl,hn⟩|⟨b,off,AiC,rfl,g1,g2,g3,g4,g5⟩⟩:=hv
 .exact maG
 rw[Cj] at hm g1 Ia Hv⊢;have c0:=Sl.M9 g5 0 hlen;simp only[JX] at c0;obtain⟨p,SM,rfl⟩:∃p c,tv= m9 p (J xs) c:=by
  exact maF
 have pP:=hB.cell 1;simp only[J7,Pi,Qi] at pP;have Acm:=hB.lt;have Vy:=D Ia;have HB:=D hB;have Hnt:=D gh;have Hi:=D hi;obtain rfl:xs=[]:=Jm (by rw[hxl,h0];rfl);clear h0;clear Ia hB aw Rf hxl Ex EG g5 hs hne g3 gh hi;go_enter func39,ntmps39;go_upto_region 2 with(fail)
 go_cut [22] (λq w'=>w'=w/\q= qB I)
 case first=>
  exact mal
 case rest=>
  exact maV
theorem AaI (l:List ByteArray) (v:Value) (w:World) (mb:Nat) (mv tv:Value) (xs:List TV) (x:TV) (M:Al) (ts:List CH) (t:CH) (i:Bh) (hM:El w mb mv tv (xs++[x]) M) (ok:Nat->Prop) (hv:Sl w ok v (Bq l))
  (hne:l≠[]) (hs:∀s,s∈l->s.size<=maxLen) (gh:¬(J l=1/\bs (wd l 0)=AE)) (hi:Er l=U i) (SZ:M.ts=ts++[t]) (h4:J t.Ab=4000) (hxs:J xs<3) (F:List Nat):
  Calls prog 39 #[iJ mb,v] w (bG (.error 5) mb F w):=by
 have Ia:=λw hv=>XX l v w ok hv hne hs
 unfold AdH at Ia;simp only[Bh.val,Bh.cells] at Ia;obtain⟨hB,aw,Rf,hxl,Ex,EG⟩:=hM;have hx:=Ex (x,t) (by rw[SZ,WP (by rw[SZ] at hxl;simpa using hxl)];simp);obtain⟨x1,x2,x3,x4,x5⟩:=hx;obtain⟨g,cap,rfl,hg1,hg2,hg3,hg4,hgc,hgf⟩:=Av Rf EQ;have hk:w.cell? ⟨g,J xs,Z⟩=U (iJ x.tb):=by
  rw[hgc (J xs) EQ];simp[TV.ptr]
 have hle:(xs++[x]).length=J xs+1:=EQ
 rw[hle] at hB;obtain⟨pc,capc,VF⟩:∃p c,x.cv= m9 p (J t.Ab) c:=by
  rcases x2.2 with⟨h,h0⟩|⟨g',c',Ic,h,_⟩
  .exact⟨Z,0,by rw[h,h0]⟩
  .exact⟨_,_,h⟩
 have hXc:=x1.cell 0;simp only[J7,Pi] at hXc;rw[VF,h4] at hXc;have hlen:0<J l:=by cases l with|nil=>exact Jk rfl hne|cons a r=>simp
 have Hv:=D hv;obtain⟨hm,⟨rfl,hn⟩|⟨b,off,AiC,rfl,g1,g2,g3,g4,g5⟩⟩:=hv
 .exact maG
 rw[Cj] at hm g1 Ia Hv⊢;have c0:=Sl.M9 g5 0 hlen;simp only[JX] at c0;have pP:=hB.cell 1;simp only[J7,Pi,Qi] at pP;have Acm:=hB.lt;have Vy:=D Ia;have HB:=D hB;have Hnt:=D gh;have Hi:=D hi;have Hk:=D hk;have HXc:=D hXc;have HBc:=D pP;clear hk hXc pP hgc hgf SZ h4 x1 x2 x3 x4 x5 VF hle;clear Ia hB aw Rf hxl Ex EG g5 hs hne g3 gh hi;have An8:=HBc.out;go_enter func39,ntmps39;go_upto_region 2 with(fail)
 go_cut [22] (λq w'=>w'=w/\q= qB I)
 case first=>
  exact mal
 case rest=>
  obtain⟨hw,rfl⟩:=hcut;obtain rfl:=hw;go_wp2_with fail;refine(Vy _ Hv).mono ?_;rintro e w1 ⟨i',rfl,Pa,Dg⟩;rw[Hi.out];have Nt:=D Dg;have k1:=AK Dg Hk.out;have k2:=AK Dg HXc.out;have k3:=AK Dg HBc.out;have l1:=L5 k1;have l2:=L5 k2;have l3:=L5 k3;clear Pa Dg;go_wp2;go_ret;exact⟨rfl,Nt.alloc _⟩
theorem Aeg (l:List ByteArray) (v:Value) (w:World) (mb:Nat) (mv tv:Value) (xs:List TV) (M:Al) (hM:El w mb mv tv xs M) (ok:Nat->Prop) (hv:Sl w ok v (Bq l))
  (hne:l≠[]) (hs:∀s,s∈l->s.size<=maxLen) (h3:J M.ts<=3) (h4:∀t,t∈M.ts->J t.Ab<=4000):
  Calls prog 39 #[iJ mb,v] w (bG (UA M l) mb (BG mb mv tv xs) w):=by
 unfold UA;by_cases ht:J l=1/\bs (wd l 0)=AE
 .rw[Jb ht];by_cases hf:J M.ts=3
  .rw[Jb hf];exact AaM l v w mb mv tv xs M hM ok hv ht.1 ht.2 hf _
  .rw[In hf];exact oo l v w mb mv tv xs M hM ok hv ht.1 ht.2 Y
 .rw[In ht];cases hi:Er l with
  |none=>exact AaH l v w mb mv tv xs M hM ok hv hne hs ht hi _
  |some i=>
   rcases Jv M.ts with h0|⟨ts,t,SZ⟩
   .rw[h0];exact AaJ l v w mb mv tv xs M i hM ok hv hne hs ht hi h0 _
   .rw[Jy] at SZ;have hxl:=hM.2.2.2.1;rw[SZ,GT] at hxl;rcases Jv xs with hx|⟨ys,x,hx⟩
    .rw[hx] at hxl;simp at hxl
    .rw[Jy] at hx;subst hx;have gS:J ys<3:=by rw[SZ] at h3;simp at hxl h3;omega
     rw[SZ];simp only[Qj,NE,QJ,PP];by_cases hc:J t.Ab=4000
     .rw[Jb hc];exact AaI l v w mb mv tv ys x M ts t i hM ok hv hne hs ht hi SZ hc gS _
     .rw[In hc];have:=h4 t (by rw[SZ];simp);exact Aee l v w mb mv tv ys x M ts t i hM SZ ok hv hne hs ht hi Y gS
def EJ:List By->Nat->Al->Except (Int×Nat) Al
 |[],_,M=> .ok M
 |[p],n,M=>if p=[]/\0<n then .ok M else .error (2,n+1)
 |p::q::r,n,M=>match UA M (Bt p) with
  |.error c=> .error (c,n+1)
  |.ok M'=>EJ (q::r) (n+1) M'
def MQ (s:By):Except (Int×Nat) Al:=
 if 131072<J s then .error (1,0) else EJ (AD 10 s) 0 ⟨List.replicate 256 0,[]⟩
def Ala (r:Except (Int×Nat) Al) (w:World) (e:Ending) (w':World):Prop:=
 match r with
 |.error c=>e= qF (qC #[qE Z,iI c.1,iI c.2])/\Az [] w w'
 |.ok M=>∃mb mv tv xs,e= qF (qC #[iJ mb,iI 0,iI 0])/\El w' mb mv tv xs M/\Az [] w w'/\∀b,b∈BG mb mv tv xs->w.heap.size<=b
theorem AjB (w:World):(Instr.makeSlice 31 (iI 256) (iI 256)).run prog w=.ok (m9 (U ⟨w.heap.size,0,Z⟩) 256 256) (w.alloc (qG (Array.replicate 256 (iI 0)) 2)):=Fd
def Alb (s:ByteArray) (w:World) (mb fr n k:Nat) (wr:World):Prop:=
 ∃(M:Al) (mv tv:Value) (xs:List TV),fr<=k/\k<=s.size/\n<=k/\El wr mb mv tv xs M/\Az [] w wr/\(∀b,b∈BG mb mv tv xs->w.heap.size<=b)/\
  J M.ts<=3/\(∀t,t∈M.ts->J t.Ab<=4000)/\MQ (bs s)=EJ (SK (bs (s.extract fr k)) (AD 10 ((bs s).drop k))) n M
theorem AcD (a:By) (q:List By) (n m:Nat) (ha:J a<=m) (hq:∀p,p∈q->J p<=n):∀p,p∈SK a q->J p<=m+n:=by
 cases q with
 |nil=>intro p hp;rw[SK,GE] at hp;subst hp;omega
 |cons r rs=>
  intro p hp;rcases Jl.1 hp with rfl|hp
  .have:=hq r EQ;rw[GT];omega
  .have:=hq p (Id _ hp);omega
theorem iL (c:UInt8) (s:By):∀p,p∈AD c s->J p<=J s:=by
 induction s with
 |nil=>intro p hp;simp[AD] at hp;subst hp;exact Jf _
 |cons x r ih=>
  intro p hp;by_cases h:x=c
  .exact ma9
  .rw[HU c x r h] at hp;have:=AcD [x] _ (J r) 1 (Jf _) ih p hp;simp only[Jg];omega
theorem AaP {c:Int} (h:UA M l=.error c):c=2\/c=3\/c=5:=by
 unfold UA at h;split at h
 .split at h
  .cases h;simp
  .cases h
 .split at h
  .cases h;simp
  .split at h
   .cases h;simp
   .split at h
    .cases h;simp
    .cases h
theorem Aeh {M':Al} (h:UA M l=.ok M') (h3:J M.ts<=3) (h4:∀t,t∈M.ts->J t.Ab<=4000):J M'.ts<=3/\∀t,t∈M'.ts->J t.Ab<=4000:=by
 unfold UA at h;split at h
 .split at h
  .cases h
  .cases h;refine⟨by simp;omega,λt ht=>?_⟩;rcases Jp.1 ht with ht|ht
   .exact h4 t ht
   .rw[GE] at ht;subst ht;exact Jr _
 .split at h
  .cases h
  .split at h
   .cases h
   .rename_i i _ t hl;split at h
    .cases h
    .rename_i hc;cases h;have hm:=List.mem_of_getLast? hl;refine⟨by simp;omega,λu hu=>?_⟩;rcases Jp.1 hu with hu|hu
     .exact h4 u (List.dropLast_subset _ hu)
     .rw[GE] at hu;subst hu;have:=h4 t hm;simp only[GT,JN];omega
theorem Mb (s:ByteArray) (a b:Nat):bs (s.extract a b)=((bs s).drop a).take (b-a):=Lib.extract_data ..
theorem gq (s:ByteArray) (a k:Nat) (h:a<=k) (hk:k<s.size):bs (s.extract a (k+1))=bs (s.extract a k)++[s[k]]:=by
 rw[Mb,Mb,show k+1-a=(k-a)+1 by omega,JK (by rw[QU,Br];omega)];congr 1;rw[List.getElem_drop];have:a+(k-a)=k:=Y
 simp only[this];rfl
theorem kO (s:ByteArray) (w:World) (hs:s.size<=131072):
  Calls prog 24 #[qA s] w (Ala (MQ (bs s)) w):=by
 have hmk:=AjB;go_enter func24,ntmps24;go_wp2;go_loopw [6,7,8] (λf n i wr=>∃fr nn k:Nat,f= iI fr/\n= iI nn/\i= iI k/\Alb s w (w.heap.size+1) fr nn k wr) (λ_ _ i _=>s.size+1-(intOf i).toNat);case atStart=>
  refine⟨0,0,0,rfl,rfl,rfl,⟨List.replicate 256 0,[]⟩,m9 (U ⟨w.heap.size,0,Z⟩) 256 256,m9 Z 0 0,[],Jf _,Jr _,Jf _,?_,((Az.refl _ _).alloc _).alloc _,?_,Jr _,(λt ht=>by cases ht),?_⟩
  .have hB:=(Ci.new (w.alloc (qG (Array.replicate 256 (iI 0)) 2)) #[m9 (U ⟨w.heap.size,0,Z⟩) 256 256,m9 Z 0 0] 34);rw[show(w.alloc (qG (Array.replicate 256 (iI 0)) 2)).heap.size=w.heap.size+1 from QO _] at hB;have hm:=(Ci.new w (Array.replicate 256 (iI 0)) 2).alloc (qG #[m9 (U ⟨w.heap.size,0,Z⟩) 256 256,m9 Z 0 0] 34);refine⟨hB,⟨by simp[B9],.inr ⟨w.heap.size,256,_,rfl,Jr _,hm,EQ,by unfold maxLen;omega,EQ,by simp[B9]⟩⟩,ownsRow_nil _ _ _ _,rfl,(λp hp=>by cases hp),?_⟩;simp[BG,Value.ownBlock]
  .intro b hb;simp[BG,Value.ownBlock] at hb;omega
  .unfold MQ;rw[In (by rw[Br];omega),Mb,QQ,Q6,N8 _ (Cc _ _)];rfl
 case round=>
  clear hmk;obtain⟨fr,nn,k,rfl,rfl,rfl,hI⟩:=hrel;have HI:=D hI;obtain⟨M,mv,tv,xs,h1,h2,h3,hM,hm,yS,h5,h6,hl⟩:=hI;have HM:=D hM;have Hm:=D hm;have Hfp:=D yS;have H6:=D h6;have Hl:=D hl;clear hM hm yS h6 hl;by_cases hk:k<s.size
  .have Rv:(bs s).drop k=s[k]::(bs s).drop (k+1):=JO (by rw[Br];exact hk);by_cases he:s[k]=10
   .have hb:(((s[k]).toNat:Int) !=10)=I:=by rw[he];rfl
    have Wa:(s.extract fr k).size<=1000000:=by rw[ByteArray.size_extract];omega
    have HP:=D (show MQ (bs s)=EJ (bs (s.extract fr k)::AD 10 ((bs s).drop (k+1))) nn M by
      rw[Hl.out,Rv,he,X0])
    have bI:=D Wa;have hf0:0<=(fr:Int):=JG _;have TP:fr<=(k:Int):=Y
    clear Rv he Wa;go_wp2_with fail;refine(Vo (s.extract fr k) 32 _ bI).mono ?_;rintro e w1 ⟨v,l,rfl,Dg,Cp,aY⟩;have lg:=Sl.OK Cp;have hle:l=Bt (bs (s.extract fr k)):=Uo aY;have hne:l≠[]:=by rintro rfl;exact Cc 32 _ aY.symm
    have hss:∀a,a∈l->a.size<=maxLen:=λa ha=>by
     have:bs a∈AD 32 (bs (s.extract fr k)):=by rw[<-aY];exact List.mem_map_of_mem ha
     have:=iL 32 _ _ this;rw[Br,Br] at this;have:=bI.out;unfold maxLen;omega
    have hM1:=HM.mod Dg EQ;have yD:=D (Aeg l v w1 _ mv tv xs M hM1 _ lg hne hss h5 H6);have yY:=D (Hm.Aj Dg);have Hle:=D hle;have pr:=yY.size;clear Dg Cp aY lg hle hne hss hM1;go_wp2_with fail;refine yD.mono ?_;intro e w2 h2;unfold bG at h2;cases hr:UA M l with
    |error c=>
     rw[hr] at h2;obtain⟨rfl,FM⟩:=h2;have az:(c !=0)=V:=by
      rw[bne_iff_ne];rcases AaP hr with rfl|rfl|rfl<;>decide
     have HR:=D (show MQ (bs s)=.error (c,nn+1) by
       obtain⟨q,r,hq⟩:=QL (Cc 10 ((bs s).drop (k+1)));rw[HP.out,hq];simp only[EJ];rw[<-Hle.out,hr])
     have gN:=D (yY.Aj FM);clear hr FM;go_wp2;go_ret3;rw[HR.out];exact⟨rfl,gN⟩
    |ok M'=>
     rw[hr] at h2;obtain⟨rfl,mv',tv',xs',hM2,FM,Akr⟩:=h2;obtain⟨h7,h8⟩:=Aeh hr h5 H6.out;have HR:=D (show MQ (bs s)=EJ (AD 10 ((bs s).drop (k+1))) (nn+1) M' by
       obtain⟨q,r,hq⟩:=QL (Cc 10 ((bs s).drop (k+1)));rw[HP.out,hq];simp only[EJ];rw[<-Hle.out,hr])
     have gN:=D (yY.trans FM λb hb=> .inr (Hfp b hb));have SQ:=D hM2;have Ane:=D (show∀b,b∈BG (w.heap.size+1) mv' tv' xs'->w.heap.size<=b from λb hb=>by
       rcases Akr b hb with h|h
       · exact Hfp.out b h
       · omega)
     have H8:=D h8;clear hr FM hM2 Akr h8;go_wp2;go_roundw;case rel=>
      refine⟨k+1,nn+1,k+1,by go_num,by go_num,by go_num,M',mv',tv',xs',Jf _,Y,Y,SQ,gN,Ane,h7,H8,?_⟩;rw[HR.out,Mb,QQ,Q6,N8 _ (Cc _ _)]
     case measure=>simp[intOf];omega
   .have hb:(((s[k]).toNat:Int) !=10)=V:=by
     rw[bne_iff_ne];intro h;exact he (UInt8.toNat_inj.1 (by show _=10;omega))
    have HL:=D (show MQ (bs s)=EJ (SK (bs (s.extract fr (k+1))) (AD 10 ((bs s).drop (k+1)))) nn M by
      rw[Hl.out,Rv,tM _ _ _ _ he,gq s fr k h1 hk])
    clear Rv he;go_wp2;go_roundw;case rel=>exact⟨fr,nn,k+1,rfl,rfl,by go_num,M,mv,tv,xs,Y,Y,Y,HM,Hm,Hfp,h5,H6,HL⟩
    case measure=>simp[intOf];omega
  .have hke:k=s.size:=Y
   have HL:=D (show MQ (bs s)=EJ [bs (s.extract fr k)] nn M by
     rw[Hl.out,Qa (by rw[Br];omega)];show EJ (SK _ [[]]) nn M=_;simp[SK])
   have hex:(bs (s.extract fr k)).length=k-fr:=by rw[Mb,LE,QU,Br];omega
   by_cases hb:fr=k/\0<nn
   .obtain⟨Is,VI⟩:=hb;have HR:=D (show MQ (bs s)=.ok M by
      rw[HL.out,EJ,Jb ⟨Jm Y,VI⟩])
    have Zp:(k==(s.size:Int))=V:=by rw[hke];simp
    have hq2:(fr==(k:Int))=V:=by rw[Is];simp
    clear Is hex hke hk;go_wp2;go_ret3;rw[HR.out];exact⟨_,mv,tv,xs,rfl,HM,Hm,Hfp⟩
   .have HR:=D (show MQ (bs s)= .error (2,nn+1) by
       rw[HL.out,EJ,In (λh=>hb ⟨by have:=JM List.length h.1;rw[hex] at this;simp at this;omega,h.2⟩)])
    have Zp:(k==(s.size:Int))=V:=by rw[hke];simp
    have Wa:(s.extract fr k).size<=1000000:=by rw[ByteArray.size_extract];omega
    have bI:=D Wa;have hf0:0<=(fr:Int):=JG _;have TP:fr<=(k:Int):=Y
    have Hb:=D hb;by_cases h9:fr=k
    .have IN:¬0<(nn:Int):=λh=>Hb.out ⟨h9,Y⟩
     have hq2:(fr==(k:Int))=V:=by rw[h9];simp
     clear hb hex hke hk Wa h9;go_wp2_with fail;refine(Vo (s.extract fr k) 32 _ bI).mono ?_;rintro e w1 ⟨v,l,rfl,Dg,Cp,aY⟩;have yY:=D (Hm.Aj Dg);clear Dg Cp aY;go_wp2;go_ret3;rw[HR.out];exact⟨rfl,yY⟩
    .have hq2:(fr==(k:Int))=I:=by rw[Jh];omega
     clear hb hex hke hk Wa h9;go_wp2_with fail;refine(Vo (s.extract fr k) 32 _ bI).mono ?_;rintro e w1 ⟨v,l,rfl,Dg,Cp,aY⟩;have yY:=D (Hm.Aj Dg);clear Dg Cp aY;go_wp2;go_ret3;rw[HR.out];exact⟨rfl,yY⟩
