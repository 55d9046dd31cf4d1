/-
  Part 34 of the proof.
-/
import Derived.Test.YtpdfifdlhpmofaaGreatDoorZ12
import Derived.Test.YtpdfifdlhpmofaaGreatDoorShelf
set_option linter.unusedVariables false
set_option linter.unusedSimpArgs false
set_option maxHeartbeats 3200000
set_option maxRecDepth 100000
namespace Go.Proofs.YtpdfifdlhpmofaaGreatDoor
open Go.RowKit Tryz
open Go.Lib (hid)
theorem mbZ {p:Prop} (h:p:=by
 rcases Qbs b w1.heap.size with h' | h'
 ·exact h'
 ·simp[Qbb h'] at Zi):p:=h
theorem AaO:(prog.info? 157).map (fun i=>i.size)=some 2:=Fd
theorem fy (b:Nat) (w:World) (h0:w.cell? ⟨b,0,none⟩=some (i6 b)):
  Calls prog 103 #[i6 b] w fun e w'=>e= .returned (.tuple #[])/\w'=w:=by
 obtain⟨j,hj,_⟩:=Qam.1 AaO;go_enter func103,ntmps103;go_wp2;rw[Lib.run_neq_ptr_same w _ underlying154 hj];go_wp2
 go_end0
 exact⟨rfl,rfl⟩
theorem bU (b:Nat) (w:World) (h0:w.cell? ⟨b,0,none⟩=some (.pointer none)) (IT:w.shape? b=some (157,2)) (hfz:w.frozen? ⟨b,0,none⟩=false):
  Calls prog 103 #[i6 b] w fun e w'=>e= .returned (.tuple #[])/\w'=w.setCell ⟨b,0,none⟩ (i6 b):=by
 obtain⟨j,hj,hjs⟩:=Qam.1 AaO;go_enter func103,ntmps103;go_wp2;rw[Lib.run_to_unsafe w ⟨b,0,none⟩ underlying154 underlying174 hj (by rw[hjs];decide) IT (Nat.zero_lt_succ 1)];simp only[Result.andThen];rw[Oper.upon_value];go_wp2;rw[run_callFunc_extern func130 Fd Fd Fd (e:=Extern.AbiNoEscape.same) Fd];rw[Lib.run_noEscape];simp only[Result.andThen];rw[Oper.upon_value];go_wp2;rw[Lib.run_from_unsafe w ⟨b,0,none⟩ underlying174 underlying154 hj IT Fd];simp only[Result.andThen];rw[Oper.upon_value];go_wp2
 go_end0
 exact⟨rfl,rfl⟩
theorem we (B b:Nat) (bs:List Value) (w:World) (h:Lib.IsBuilder 157 5 B b bs w):
  Calls prog 103 #[i6 b] w fun e w'=>e= .returned (.tuple #[])/\(Lib.BuilderAt 157 5 B b (i6 b) bs w'/\Below B w w'):=by
 rcases h with h | h
 ·refine(bU b w h.cell0 h.shape h.frozen0).mono ?_;rintro e w' ⟨rfl,rfl⟩;exact⟨rfl,h.used _,(Below.refl B w).setCell (p:=⟨b,0,none⟩) h.1 _⟩
 ·refine(fy b w h.cell0).mono ?_;rintro e w' ⟨rfl,rfl⟩;exact⟨rfl,h,Below.refl B _⟩
theorem kH:(prog.info? 5).map (fun i=>(i.zero,i.size,i.bytes))=some (some (.int .u8 0),1,1):=Fd
theorem Aep (B b:Nat) (bs:List Value) (c:Int) (w:World) (h:Lib.IsBuilder 157 5 B b bs w) (hlen:bs.length+1<=140737488355328) (hBw:B<=w.heap.size):
  Calls prog 78 #[i6 b,.int .u8 c] w fun e w'=>e= .returned .nilIface/\(Lib.BuilderAt 157 5 B b (i6 b) (bs++[.int .u8 c]) w'/\Below B w w'):=by
 obtain⟨i0,hi,KW,Fo,K7⟩:=info_parts kH;go_enter func78,ntmps78;go_wp2_with fail;refine(we B b bs _ h).mono ?_;rintro e w1 ⟨rfl,h1,J2⟩;obtain⟨hB,v,Zi,Ct,Bi⟩:=h1;have c0:w1.cell? ⟨b,0,none⟩=some (i6 b):=by rw[Lib.cell_of_heap Zi];rfl
 have c1:w1.cell? ⟨b,1,none⟩=some v:=by rw[Lib.cell_of_heap Zi];rfl
 go_wp2_with (at_builtin;refine wpList_append_own _ rfl _ _ 155 rfl B 5 i0 (.int .u8 0) 1 1 underlying155 hi KW Fo K7 rfl AC _ _ _ rfl (Ct.alloc _) ⟨w1.heap.size,0,none⟩ 1 1 [.int .u8 c] rfl rfl ?c1 ?c2 ?c3 ?c4 ?c5 ?_);case c1=>
  intro j u hj
  match j,hj with
  | 0,hj=>simp at hj;subst hj;simp[Addr.add]
 case c2=>intro u hu;simp at hu;subst hu;rfl
 case c3=>unfold maxLen;omega
 case c4=>omega
 case c5=>have:=J2.size;simp;omega
 intro v' w2 ed EC _;have AX:b < w1.heap.size:=by
  exact mbZ
 have QI:w2.heap[b]?=some (.cells #[i6 b,v] 157 (0,0)):=by
  rw[EC.block b (by simp;omega) (fun e=>Bi e.symm),Lib.alloc_old w1 _ b AX];exact Zi
 have d0:w2.cell? ⟨b,0,none⟩=some (i6 b):=by rw[Lib.cell_of_heap QI];rfl
 have d1:w2.cell? ⟨b,1,none⟩=some v:=by rw[Lib.cell_of_heap QI];rfl
 have f1:w2.frozen? ⟨b,1,none⟩=false:=Lib.frozen_of_heap QI 1;obtain⟨g,cap,rfl⟩:∃g cap,v'= .slice (some ⟨g,0,none⟩) (bs.length+1) cap:=by
  rcases ed.2 with⟨_,h0⟩ | ⟨g,cap,cur,hv,_⟩
  ·omega
  ·exact⟨g,cap,hv⟩
 go_wp2;go_ret;refine⟨rfl,?_,?_⟩
 ·exact Lib.BuilderAt.put (T:=157) (e:=5) hB QI (bs':=bs++[.int .u8 c]) (by simpa using ed) AC
 ·exact((J2.alloc (by have:=J2.size;omega) _).grown EC (by have:=J2.size;simp;omega) (fun k hk=>(Ct.lt k hk).1)).setCell (p:=⟨b,1,none⟩) hB _
theorem Aad (B b:Nat) (bs:List Value) (s:ByteArray) (w:World) (h:Lib.IsBuilder 157 5 B b bs w) (hlen:bs.length+s.size<=140737488355328) (hBw:B<=w.heap.size):
  Calls prog 77 #[i6 b,.string s] w fun e w'=>e= .returned (.tuple #[i5 s.size,.nilIface])/\(Lib.BuilderAt 157 5 B b (i6 b) (bs++Lib.strCells s) w'/\Below B w w'):=by
 obtain⟨i0,hi,KW,Fo,K7⟩:=info_parts kH;go_enter func77,ntmps77;go_wp2_with fail;refine(we B b bs _ h).mono ?_;rintro e w1 ⟨rfl,h1,J2⟩;obtain⟨hB,v,Zi,Ct,Bi⟩:=h1;have c0:w1.cell? ⟨b,0,none⟩=some (i6 b):=by rw[Lib.cell_of_heap Zi];rfl
 have c1:w1.cell? ⟨b,1,none⟩=some v:=by rw[Lib.cell_of_heap Zi];rfl
 go_wp2_with (at_builtin;refine Lib.wpList_append_own_string _ rfl _ _ 155 9 rfl B 5 i0 underlying155 underlying9 hi KW Fo K7 _ _ _ rfl Ct s rfl ?c3 ?c4 ?c5 ?_);case c3=>unfold maxLen;omega
 case c4=>omega
 case c5=>have:=J2.size;omega
 intro v' w2 ed EC _;have AX:b < w1.heap.size:=by
  exact mbZ
 have QI:w2.heap[b]?=some (.cells #[i6 b,v] 157 (0,0)):=by
  rw[EC.block b AX (fun e=>Bi e.symm)];exact Zi
 have d0:w2.cell? ⟨b,0,none⟩=some (i6 b):=by rw[Lib.cell_of_heap QI];rfl
 have d1:w2.cell? ⟨b,1,none⟩=some v:=by rw[Lib.cell_of_heap QI];rfl
 have f1:w2.frozen? ⟨b,1,none⟩=false:=Lib.frozen_of_heap QI 1;obtain⟨ao,n',cap,rfl⟩:∃ao n' cap,v'= .slice ao n' cap:=by
  rcases ed.2 with⟨hv,_⟩ | ⟨g,cap,cur,hv,_⟩
  ·exact⟨_,_,_,hv⟩
  ·exact⟨_,_,_,hv⟩
 go_wp2;go_ret2;refine⟨rfl,?_,?_⟩
 ·exact Lib.BuilderAt.put (T:=157) (e:=5) hB QI (bs':=bs++Lib.strCells s) (by simpa[Lib.strCells_length] using ed) AC
 ·exact(J2.grown EC (by have:=J2.size;omega) (fun k hk=>(Ct.lt k hk).1)).setCell (p:=⟨b,1,none⟩) hB _
end Go.Proofs.YtpdfifdlhpmofaaGreatDoor
