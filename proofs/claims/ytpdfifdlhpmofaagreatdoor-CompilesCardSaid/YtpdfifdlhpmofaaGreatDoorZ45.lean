/-
  Part 45 of the proof, packed by program out of I0.
-/
import Derived.Test.YtpdfifdlhpmofaaGreatDoorZ15
import Derived.Test.YtpdfifdlhpmofaaGreatDoorShelf
import Derived.Shelf.Strings.Builder1
set_option linter.unusedVariables false
set_option linter.unusedSimpArgs false
set_option maxHeartbeats 3200000
set_option maxRecDepth 100000
namespace Go.Proofs.YtpdfifdlhpmofaaGreatDoor
open Go.RowKit
open Go.Lib (hid)
theorem mS:(Tryz.prog.info? 157).map (fun i=>i.size)=some 2:=by kernel_rfl
theorem XF (b:Nat) (w:World) (h0:w.cell? ⟨b,0,none⟩=some (.pointer (some ⟨b,0,none⟩))):
  Calls Tryz.prog 103 #[.pointer (some ⟨b,0,none⟩)] w fun e w'=>e= .returned (.tuple #[])∧w'=w:=by
 obtain⟨j,hj,_⟩:=Option.map_eq_some_iff.1 mS;go_enter Tryz.func103,Tryz.ntmps103;go_wp2;rw[Lib.run_neq_ptr_same w _ Tryz.underlying154 hj];go_wp2
 go_end0
 exact⟨rfl,rfl⟩
theorem VW (b:Nat) (w:World) (h0:w.cell? ⟨b,0,none⟩=some (.pointer none)) (KO:w.shape? b=some (157,2)) (hfz:w.frozen? ⟨b,0,none⟩=false):
  Calls Tryz.prog 103 #[.pointer (some ⟨b,0,none⟩)] w fun e w'=>e= .returned (.tuple #[])∧w'=w.setCell ⟨b,0,none⟩ (.pointer (some ⟨b,0,none⟩)):=by
 obtain⟨j,hj,oM⟩:=Option.map_eq_some_iff.1 mS;go_enter Tryz.func103,Tryz.ntmps103;go_wp2;rw[Lib.run_to_unsafe w ⟨b,0,none⟩ Tryz.underlying154 Tryz.underlying174 hj (by rw[oM];decide) KO (Nat.zero_lt_succ 1)];simp only[Result.andThen];rw[Oper.upon_value];go_wp2;rw[run_callFunc_extern Tryz.func130 (by kernel_rfl) (by kernel_rfl) (by kernel_rfl) (e:=Extern.AbiNoEscape.same) (by kernel_rfl)];rw[Lib.run_noEscape];simp only[Result.andThen];rw[Oper.upon_value];go_wp2;rw[Lib.run_from_unsafe w ⟨b,0,none⟩ Tryz.underlying174 Tryz.underlying154 hj KO (by kernel_rfl)];simp only[Result.andThen];rw[Oper.upon_value];go_wp2
 go_end0
 exact⟨rfl,rfl⟩
theorem jm (B b:Nat) (bs:List Value) (w:World) (h:Lib.IsBuilder 157 5 B b bs w):
  Calls Tryz.prog 103 #[.pointer (some ⟨b,0,none⟩)] w fun e w'=>e= .returned (.tuple #[])∧(Lib.BuilderAt 157 5 B b (.pointer (some ⟨b,0,none⟩)) bs w'∧Below B w w'):=by
 rcases h with h | h
 ·refine(VW b w h.cell0 h.shape h.frozen0).mono ?_;rintro e w' ⟨rfl,rfl⟩;exact⟨rfl,h.used _,(Below.refl B w).setCell (p:=⟨b,0,none⟩) h.1 _⟩
 ·refine(XF b w h.cell0).mono ?_;rintro e w' ⟨rfl,rfl⟩;exact⟨rfl,h,Below.refl B _⟩
theorem Z9:(Tryz.prog.info? 5).map (fun i=>(i.zero,i.size,i.bytes))=some (some (.int .u8 0),1,1):=by kernel_rfl
theorem sM (B b:Nat) (bs:List Value) (c:Int) (w:World) (h:Lib.IsBuilder 157 5 B b bs w) (hlen:bs.length+1≤140737488355328) (hBw:B≤w.heap.size):
  Calls Tryz.prog 78 #[.pointer (some ⟨b,0,none⟩),.int .u8 c] w fun e w'=>e= .returned .nilIface∧(Lib.BuilderAt 157 5 B b (.pointer (some ⟨b,0,none⟩)) (bs++[.int .u8 c]) w'∧Below B w w'):=by
 obtain⟨i0,hi,I9,EK,JW⟩:=info_parts Z9;go_enter Tryz.func78,Tryz.ntmps78;go_wp2_with fail;refine(jm B b bs _ h).mono ?_;rintro e w1 ⟨rfl,h1,KP⟩;obtain⟨hB,v,FD,CN,BQ⟩:=h1;have c0:w1.cell? ⟨b,0,none⟩=some (.pointer (some ⟨b,0,none⟩)):=by rw[Lib.cell_of_heap FD];rfl
 have c1:w1.cell? ⟨b,1,none⟩=some v:=by rw[Lib.cell_of_heap FD];rfl
 go_wp2_with (at_builtin;refine wpList_append_own _ rfl _ _ 155 rfl B 5 i0 (.int .u8 0) 1 1 Tryz.underlying155 hi I9 EK JW rfl (by decide) _ _ _ rfl (CN.alloc _) ⟨w1.heap.size,0,none⟩ 1 1 [.int .u8 c] rfl rfl ?c1 ?c2 ?c3 ?c4 ?c5 ?_);case c1=>
  intro j u hj
  match j,hj with
  | 0,hj=>simp at hj;subst hj;simp[Addr.add]
 case c2=>intro u hu;simp at hu;subst hu;rfl
 case c3=>unfold maxLen;omega
 case c4=>omega
 case c5=>have:=KP.size;simp;omega
 intro v' w2 W9 Eb _;have Bi:b < w1.heap.size:=by
  rcases Nat.lt_or_ge b w1.heap.size with h' | h'
  ·exact h'
  ·simp[Array.getElem?_eq_none h'] at FD
 have Td:w2.heap[b]?=some (.cells #[.pointer (some ⟨b,0,none⟩),v] 157 (0,0)):=by
  rw[Eb.block b (by simp;omega) (fun e=>BQ e.symm),Lib.alloc_old w1 _ b Bi];exact FD
 have d0:w2.cell? ⟨b,0,none⟩=some (.pointer (some ⟨b,0,none⟩)):=by rw[Lib.cell_of_heap Td];rfl
 have d1:w2.cell? ⟨b,1,none⟩=some v:=by rw[Lib.cell_of_heap Td];rfl
 have f1:w2.frozen? ⟨b,1,none⟩=false:=Lib.frozen_of_heap Td 1;obtain⟨g,cap,rfl⟩:∃g cap,v'= .slice (some ⟨g,0,none⟩) (bs.length+1) cap:=by
  rcases W9.2 with⟨_,h0⟩ | ⟨g,cap,cur,hv,_⟩
  ·omega
  ·exact⟨g,cap,hv⟩
 go_wp2;go_ret;refine⟨rfl,?_,?_⟩
 ·exact Lib.BuilderAt.put (T:=157) (e:=5) hB Td (bs':=bs++[.int .u8 c]) (by simpa using W9) (by decide)
 ·exact((KP.alloc (by have:=KP.size;omega) _).grown Eb (by have:=KP.size;simp;omega) (fun k hk=>(CN.lt k hk).1)).setCell (p:=⟨b,1,none⟩) hB _
theorem lN (B b:Nat) (bs:List Value) (s:ByteArray) (w:World) (h:Lib.IsBuilder 157 5 B b bs w) (hlen:bs.length+s.size≤140737488355328) (hBw:B≤w.heap.size):
  Calls Tryz.prog 77 #[.pointer (some ⟨b,0,none⟩),.string s] w fun e w'=>e= .returned (.tuple #[.int .i64 s.size,.nilIface])∧(Lib.BuilderAt 157 5 B b (.pointer (some ⟨b,0,none⟩)) (bs++Lib.strCells s) w'∧Below B w w'):=by
 obtain⟨i0,hi,I9,EK,JW⟩:=info_parts Z9;go_enter Tryz.func77,Tryz.ntmps77;go_wp2_with fail;refine(jm B b bs _ h).mono ?_;rintro e w1 ⟨rfl,h1,KP⟩;obtain⟨hB,v,FD,CN,BQ⟩:=h1;have c0:w1.cell? ⟨b,0,none⟩=some (.pointer (some ⟨b,0,none⟩)):=by rw[Lib.cell_of_heap FD];rfl
 have c1:w1.cell? ⟨b,1,none⟩=some v:=by rw[Lib.cell_of_heap FD];rfl
 go_wp2_with (at_builtin;refine Lib.wpList_append_own_string _ rfl _ _ 155 9 rfl B 5 i0 Tryz.underlying155 Tryz.underlying9 hi I9 EK JW _ _ _ rfl CN s rfl ?c3 ?c4 ?c5 ?_);case c3=>unfold maxLen;omega
 case c4=>omega
 case c5=>have:=KP.size;omega
 intro v' w2 W9 Eb _;have Bi:b < w1.heap.size:=by
  rcases Nat.lt_or_ge b w1.heap.size with h' | h'
  ·exact h'
  ·simp[Array.getElem?_eq_none h'] at FD
 have Td:w2.heap[b]?=some (.cells #[.pointer (some ⟨b,0,none⟩),v] 157 (0,0)):=by
  rw[Eb.block b Bi (fun e=>BQ e.symm)];exact FD
 have d0:w2.cell? ⟨b,0,none⟩=some (.pointer (some ⟨b,0,none⟩)):=by rw[Lib.cell_of_heap Td];rfl
 have d1:w2.cell? ⟨b,1,none⟩=some v:=by rw[Lib.cell_of_heap Td];rfl
 have f1:w2.frozen? ⟨b,1,none⟩=false:=Lib.frozen_of_heap Td 1;obtain⟨ao,n',cap,rfl⟩:∃ao n' cap,v'= .slice ao n' cap:=by
  rcases W9.2 with⟨hv,_⟩ | ⟨g,cap,cur,hv,_⟩
  ·exact⟨_,_,_,hv⟩
  ·exact⟨_,_,_,hv⟩
 go_wp2;go_ret2;refine⟨rfl,?_,?_⟩
 ·exact Lib.BuilderAt.put (T:=157) (e:=5) hB Td (bs':=bs++Lib.strCells s) (by simpa[Lib.strCells_length] using W9) (by decide)
 ·exact(KP.grown Eb (by have:=KP.size;omega) (fun k hk=>(CN.lt k hk).1)).setCell (p:=⟨b,1,none⟩) hB _
end Go.Proofs.YtpdfifdlhpmofaaGreatDoor
