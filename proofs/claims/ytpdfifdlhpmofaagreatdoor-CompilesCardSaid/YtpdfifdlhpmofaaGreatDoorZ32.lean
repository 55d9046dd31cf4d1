/-
  Part 32 of the proof, packed by program out of Mach.
-/
import Derived.Test.YtpdfifdlhpmofaaGreatDoorZ10
set_option linter.unusedVariables false
set_option linter.unusedSimpArgs false
set_option maxHeartbeats 3200000
set_option maxRecDepth 100000
namespace Go.Proofs.YtpdfifdlhpmofaaGreatDoor
open Go.RowKit
open Go.Lib (hid)
structure VZ where
 Af:List Cm
 pc:Nat
 qI:List Int
 waits:List (Int×Int)
 out:List Int
 qE:Int
structure EW where
 mem:List Int
 ts:List VZ
def cB (l:List Int):List Value:=l.map (Value.int .i64)
def KG (l:List Cm):List Value:=l.flatMap fun i=>i.cells.toList
def aX (l:List (Int×Int)):List Value:=l.flatMap fun p=>[.int .i64 p.1,.int .i64 p.2]
structure TV where
 tb:Nat
 cv:Value
 rv:Value
 wv:Value
 ov:Value
def TV.fp (x:TV):List Nat:=x.tb::(x.cv.ownBlock.toList++(x.rv.ownBlock.toList++(x.wv.ownBlock.toList++x.ov.ownBlock.toList)))
def TV.ptr (x:TV):Value:= .pointer (some ⟨x.tb,0,none⟩)
def Ni (w:World) (x:TV) (t:VZ):Prop:=
 BR w x.tb #[x.cv,.int .i64 t.pc,x.rv,x.wv,x.ov,.int .i64 t.qE] 68∧w.ownsRow 0 101 9 x.cv t.Af.length (KG t.Af)∧
 w.ownsRow 0 2 1 x.rv t.qI.length (cB t.qI)∧w.ownsRow 0 83 2 x.wv t.waits.length (aX t.waits)∧w.ownsRow 0 2 1 x.ov t.out.length (cB t.out)
def BJ (mb:Nat) (mv tv:Value) (xs:List TV):List Nat:=mb::(mv.ownBlock.toList++(tv.ownBlock.toList++xs.flatMap TV.fp))
def EE (w:World) (mb:Nat) (mv tv:Value) (xs:List TV) (M:EW):Prop:=
 BR w mb #[mv,tv] 34∧w.ownsRow 0 2 1 mv M.mem.length (cB M.mem)∧w.ownsRow 0 69 1 tv xs.length (xs.map TV.ptr)∧
 xs.length=M.ts.length∧(∀p,p∈xs.zip M.ts→Ni w p.1 p.2)∧(BJ mb mv tv xs).Nodup
theorem FI {v:Value} {g:Nat} (h:v.ownBlock=some g):g∈v.ownBlock.toList:=by rw[h];simp
theorem Ni.Bh {w w':World} {x:TV} {t:VZ} {M:List Nat} (h:Ni w x t) (k:Av M w w') (hd:∀b,b∈x.fp→b∉M):Ni w' x t:=by
 obtain⟨h1,h2,h3,h4,h5⟩:=h;refine⟨h1.Bh k (hd _ (by simp[TV.fp])),B5 h2 k fun g hg=>hd g (by simp[TV.fp,hg]),B5 h3 k fun g hg=>hd g (by simp[TV.fp,hg]),B5 h4 k fun g hg=>hd g (by simp[TV.fp,hg]),B5 h5 k fun g hg=>hd g (by simp[TV.fp,hg])⟩
theorem Ni.lt {w:World} {x:TV} {t:VZ} (h:Ni w x t):∀b,b∈x.fp→b < w.heap.size:=by
 obtain⟨h1,h2,h3,h4,h5⟩:=h;intro b hb;simp only[TV.fp,List.mem_cons,List.mem_append,Option.mem_toList] at hb;rcases hb with rfl | hb | hb | hb | hb
 ·exact h1.lt
 ·exact(Dm h2 hb).2
 ·exact(Dm h3 hb).2
 ·exact(Dm h4 hb).2
 ·exact(Dm h5 hb).2
theorem eh {α β:Type} {xs:List α} {ys:List β} (h:xs.length=ys.length) {x:α} (hx:x∈xs):∃y,(x,y)∈xs.zip ys:=by
 obtain⟨i,hi,rfl⟩:=List.getElem_of_mem hx;exact⟨ys[i],by rw[←List.getElem_zip (i:=i) (h:=by rw[List.length_zip];omega)];exact List.getElem_mem _⟩
theorem EE.lt {w:World} {mb:Nat} {mv tv:Value} {xs:List TV} {M:EW} (h:EE w mb mv tv xs M):∀b,b∈BJ mb mv tv xs→b < w.heap.size:=by
 obtain⟨h1,h2,h3,h4,h5,h6⟩:=h;intro b hb;simp only[BJ,List.mem_cons,List.mem_append,Option.mem_toList,List.mem_flatMap] at hb;rcases hb with rfl | hb | hb | ⟨x,hx,hb⟩
 ·exact h1.lt
 ·exact(Dm h2 hb).2
 ·exact(Dm h3 hb).2
 ·obtain⟨y,hy⟩:=eh h4 hx;exact(h5 _ hy).lt b hb
theorem EE.Bh {w w':World} {mb:Nat} {mv tv:Value} {xs:List TV} {M:EW} {F:List Nat} (h:EE w mb mv tv xs M) (k:Av F w w') (hd:∀b,b∈BJ mb mv tv xs→b∉F):EE w' mb mv tv xs M:=by
 obtain⟨h1,h2,h3,h4,h5,h6⟩:=h;refine⟨h1.Bh k (hd _ (by simp[BJ])),B5 h2 k fun g hg=>hd g (by simp[BJ,hg]),B5 h3 k fun g hg=>hd g (by simp[BJ,hg]),h4,fun p hp=>(h5 p hp).Bh k fun b hb=>hd b ?_,h6⟩;have:p.1∈xs:=(List.of_mem_zip (a:=p.1) (b:=p.2) hp).1;simp only[BJ,List.mem_cons,List.mem_append,List.mem_flatMap];exact .inr (.inr (.inr ⟨p.1,this,hb⟩))
theorem gw:(Tryz.prog.info? 101).map (fun i=>(i.zero,i.size,i.bytes))=some (some (Cm.of ⟨#[]⟩).val,9,80):=by kernel_rfl
theorem gq:(Tryz.prog.info? 69).map (fun i=>(i.zero,i.size,i.bytes))=some (some (.pointer none),1,8):=by kernel_rfl
end Go.Proofs.YtpdfifdlhpmofaaGreatDoor
