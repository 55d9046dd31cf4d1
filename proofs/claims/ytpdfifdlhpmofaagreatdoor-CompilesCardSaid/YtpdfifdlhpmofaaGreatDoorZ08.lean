/-
  Part 8 of the proof, packed by program out of E2.
-/
import Derived.Test.YtpdfifdlhpmofaaGreatDoorZ02
import Derived.Test.YtpdfifdlhpmofaaGreatDoorZ07
set_option linter.unusedVariables false
set_option linter.unusedSimpArgs false
set_option maxHeartbeats 3200000
set_option maxRecDepth 100000
namespace Go.Proofs.YtpdfifdlhpmofaaGreatDoor
open Go.RowKit
open Go.Lib (hid)
def TI (w:World):Prop:=w.cell? ⟨0,0,none⟩=some (.iface 213 (.agg #[.pointer (some ⟨10,85,none⟩)]))
theorem j9 (w:World):Calls Tryz.prog 34 #[.nilIface] w fun e w'=>e= .returned (.tuple #[.int .i64 0,.int .i64 0])∧Av [] w w':=by
 go_enter Tryz.func34,Tryz.ntmps34;go_wp2;go_ret2;exact⟨rfl,((Av.refl _ _).alloc _).alloc _⟩
theorem Yb (fb:Nat) (c n:Int) (w:World) (h:BR w fb #[.int .i64 c,.int .i64 n] 127) (hg:TI w):
  Calls Tryz.prog 34 #[.iface 123 (.pointer (some ⟨fb,0,none⟩))] w fun e w'=>e= .returned (.tuple #[.int .i64 c,.int .i64 n])∧Av [] w w':=by
 have m1:Av [] w ((w.alloc (.cells #[.pointer none] 123)).alloc (.cells #[.int .i64 0] 58)):=((Av.refl _ _).alloc _).alloc _;have KP:BR ((w.alloc (.cells #[.pointer none] 123)).alloc (.cells #[.int .i64 0] 58)) w.heap.size #[.pointer none] 123:=(BR.new w _ _).alloc _;have Has:=hid (pI ⟨fb,0,none⟩ ⟨w.heap.size,0,none⟩ (.pointer none) ((w.alloc (.cells #[.pointer none] 123)).alloc (.cells #[.int .i64 0] 58)) (BB m1 hg) (KP.cell 0) (KP.free 0));have H:=hid h;have Kh:=hid m1;have MT:=hid KP;clear m1 KP hg h;go_enter Tryz.func34,Tryz.ntmps34;go_wp2_with fail;refine(Has.out.mono (R':=fun e w'=>e= .returned (.bool true)∧Av [] w w'∧BR w' w.heap.size #[.pointer (some ⟨fb,0,none⟩)] 123) ?_).mono ?_
 ·rintro e w' ⟨rfl,rfl⟩;refine⟨rfl,((((Kh.out.alloc _).alloc _).alloc _).alloc _).setCell (.inr (Nat.le_refl _)) _,?_⟩;exact((((MT.out.alloc _).alloc _).alloc _).alloc _).set 0 _
 intro e w2 he;obtain⟨GJ,CY,Td⟩:=he;subst GJ;have hf:=H.out.Bh CY (by simp);have c0:=hf.cell 0;have c1:=hf.cell 1;have t0:=Td.cell 0;have Gw:=hid CY;clear hf Td CY;go_upto_region 6 with fail
 refine Ao (l:=[(0,true),(1,true),(2,true),(3,true),(4,true),(5,true),(6,true),(7,true),(8,true),(9,false)]) (fun W=>W.cell? ⟨w.heap.size,0,none⟩=some (.pointer (some ⟨fb,0,none⟩))∧W.cell? ⟨fb,0,none⟩=some (.int .i64 c)∧W.cell? ⟨fb,1,none⟩=some (.int .i64 n)) 9 (by kernel_rfl) (by kernel_rfl) (by kernel_rfl) (by kernel_rfl) (by kernel_rfl) (fun c a d v w h=>by cases d <;>exact h) ⟨t0,c0,c1⟩ ?_;repeat
  refine Ak (v:= ?_) rfl rfl rfl (fun W hW=> ?_) ?_;rotate_left
  ·obtain⟨s1,s2,s3⟩:=hW;go_simp;rfl
  simp only[Bo]
 refine Ab rfl (fun K hK=> ?_);go_simp;refine hK _ _ (fun h=>absurd rfl h) ?_;clear hK;simp only[A0];go_wp2;go_ret2;exact⟨rfl,Gw.out.drew⟩
end Go.Proofs.YtpdfifdlhpmofaaGreatDoor
