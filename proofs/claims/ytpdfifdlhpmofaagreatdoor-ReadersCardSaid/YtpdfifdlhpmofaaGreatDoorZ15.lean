/-
  Part 15 of the proof.
-/
import Derived.Test.YtpdfifdlhpmofaaGreatDoorZ12
import Derived.Test.YtpdfifdlhpmofaaGreatDoorZ13
import Derived.Test.YtpdfifdlhpmofaaGreatDoorZ14
import Derived.Test.YtpdfifdlhpmofaaGreatDoorShelf
set_option linter.unusedVariables false
set_option linter.unusedSimpArgs false
set_option maxHeartbeats 3200000
set_option maxRecDepth 100000
namespace Go.Proofs.YtpdfifdlhpmofaaGreatDoor
open Go.RowKit Tryz
open Go.Lib (hid)
theorem mb4 {p:Prop} (h:p:=by
 rintro e w' ⟨N,rfl,_,_,hb⟩;exact⟨Av.V8 hb,.inr ⟨fun v hv=>(by cases hv),_,_,_,rfl⟩⟩):p:=h
variable {M:List Nat} {w w':World} {mb:Nat}
abbrev Sv (w:World):Prop:=Lib.TabIs prog w "internal/strconv.uint64pow10" .u64 Lib.pow10Tab
theorem Sv.Bf (h:Sv w) (k:Av M w w') (hM:∀g,prog.globalNamed "internal/strconv.uint64pow10" =some g->g∉M):Sv w':=by
 unfold Sv Lib.TabIs World.var? at*;cases hg:prog.globalNamed "internal/strconv.uint64pow10" with
 | none=>rw[hg] at h;cases h
 | some g=>
  rw[hg] at h;simp only[Option.bind_some] at h⊢;cases hb:w.heap[g]? with
  | none=>rw[hb] at h;cases h
  | some o=>rw[k.heap hb (hM g hg)];rw[hb] at h;exact h
theorem Sv.quiet (h:Sv w) (k:Av [] w w'):Sv w':=h.Bf k EQ
theorem Y1 (w:World) (k:Nat) (os:Array Obj):Av [] w (Go.Sort.grow (w.drewN k) os):=
 ⟨rfl,rfl,rfl,by show w.heap.size<=(w.heap++os).size;simp,fun j hj _=>by show(w.heap++os)[j]?=_;rw[Array.getElem?_append_left hj]⟩
theorem Vk (v:Int) (hv: -9223372036854775808<=v/\v<=9223372036854775807) (w:World) (h:Sv w):Calls prog 149 #[i5 v,i5 10] w (JV (.string (Ay (Lib.itoa v))) w):=by
 refine(strconv_FormatInt_10 v hv.1 hv.2 w h).mono ?_;rintro e w' ⟨rfl,k,os,rfl⟩;exact⟨rfl,Y1 _ _ _⟩
theorem O9 (v:Int) (hv: -9223372036854775808<=v/\v<=9223372036854775807) (w:World) (h:Sv w):Calls prog 196 #[i5 v] w (JV (.string (Ay (Lib.itoa v))) w):=by
 refine(strconv_Itoa v hv.1 hv.2 w h).mono ?_;rintro e w' ⟨rfl,k,os,rfl⟩;exact⟨rfl,Y1 _ _ _⟩
theorem qR (s:ByteArray) (w:World) (hs:s.size<=1000000):
  Calls prog 147 #[.string s,.string ⟨#[97,98,99,100,101,102,103,104,105,106,107,108,109,110,111,112,113,114,115,116,117,118,119,120,121,122]⟩] w (JV (.string (Ay (Lib.trimS (bs s) M9))) w):=by
 refine(Any.strings_Trim_laid lays160 Fd s _ w Y AC (ascii_of_all AC)).mono ?_;rintro e w' ⟨rfl,hb⟩;exact⟨rfl,Av.V8 hb⟩
structure Gl (mb:Nat) (w:World):Prop where
 tab:Sv w
 BH:∃m,w.cell? ⟨2,0,none⟩=some (i5 m)
 syn:∃t p,w.cell? ⟨5,0,none⟩=some (.iface t p)
 ran:∃t p,w.cell? ⟨6,0,none⟩=some (.iface t p)
 Bh:w.cell? ⟨1,0,none⟩=some (.map (some mb))
 opm:∃o,w.heap[mb]?=some o/\∀W:World,W.heap[mb]?=some o->∀s:ByteArray,(Instr.lookup 232 (.map (some mb)) (.string s) false).run prog W= .ok (.string ((kv s).getD ⟨#[]⟩)) W
def Td (mb:Nat):List Nat:=[2,5,6,1,7,mb]
theorem Sc {b:Nat} {v:Value} (h:w.cell? ⟨b,0,none⟩=some v):b < w.heap.size:=by
 unfold World.cell? at h;rcases Qbs b w.heap.size with h1 | h1
 ·exact h1
 ·have:w.heap[b]?=none:=Qbb h1;simp[this] at h
theorem Pn (k:Av M w w') {b:Nat} {v:Value} (h:w.cell? ⟨b,0,none⟩=some v) (hb:b∉M):w'.cell? ⟨b,0,none⟩=some v:=by
 have:=k.block b (Sc h) hb;unfold World.cell? at*;rw[this];exact h
theorem Gl.Bf (h:Gl mb w) (k:Av M w w') (hM:∀b,b∈Td mb->b∉M):Gl mb w':=by
 obtain⟨h1,⟨m,h2⟩,⟨t3,p3,h3⟩,⟨t4,p4,h4⟩,h5,o,h6,h7⟩:=h;refine⟨h1.Bf k fun g hg=> ?_,⟨m,Pn k h2 (hM _ (by simp[Td]))⟩,⟨t3,p3,Pn k h3 (hM _ (by simp[Td]))⟩,⟨t4,p4,Pn k h4 (hM _ (by simp[Td]))⟩,Pn k h5 (hM _ (by simp[Td])),o,k.heap h6 (hM _ (by simp[Td])),h7⟩;have e:prog.globalNamed "internal/strconv.uint64pow10" =some 7:=Fd
 rw[e] at hg;cases hg;exact hM _ (by simp[Td])
theorem Gl.quiet (h:Gl mb w) (k:Av [] w w'):Gl mb w':=h.Bf k EQ
theorem Gl.lt (h:Gl mb w):∀b,b∈Td mb->b < w.heap.size:=by
 obtain⟨h1,⟨m,h2⟩,⟨t3,p3,h3⟩,⟨t4,p4,h4⟩,h5,o,h6,h7⟩:=h;intro b hb;have e:prog.globalNamed "internal/strconv.uint64pow10" =some 7:=Fd
 simp only[Td,Pi,Qcb,or_false] at hb;rcases hb with rfl | rfl | rfl | rfl | rfl | rfl
 ·exact Sc h2
 ·exact Sc h3
 ·exact Sc h4
 ·exact Sc h5
 ·unfold Sv Lib.TabIs World.var? at h1;rw[e] at h1;simp only[Option.bind_some] at h1;rcases Qbs 7 w.heap.size with h8 | h8
  ·exact h8
  ·rw[Qbb h8] at h1;cases h1
 ·exact BA h6
structure GlK (mb:Nat) (w:World) (L:List Ob):Prop where
 gl:Gl mb w
 out:∀b,b∈Td mb->b∉D4 L
theorem GlK.step {L L':List Ob} (h:GlK mb w L) (k:Ak w L w' L'):GlK mb w' L':=
 ⟨h.gl.Bf k.Bf h.out,fun b hb hl=>by
   rcases k.fp b hl with h1 | h1
   · exact h.out b hb h1
   · have:=h.gl.lt b hb;omega⟩
theorem ia (h:Av M w w') (a:Addr) (n:Nat) (ha:w.heap.size<=a.block):Av M w (w'.freeze a n):=by
 unfold World.freeze;split
 ·exact h
 ·refine⟨h.os,h.tape,h.output,?_,fun k hk hm=> ?_⟩
  ·show w.heap.size<=(w'.heap.modify _ _).size;rw[Array.size_modify];exact h.size
  ·rw[<-h.block k hk hm];show(w'.heap.modify _ _)[k]?=_;rw[Array.getElem?_modify,I Y]
theorem Wg (w:World) (e:TypeId) (s:ByteArray):Av [] w (Lib.bytesWorld w e s):=
 ia (((Av.refl [] w).drew).alloc _) _ _ (LE _)
theorem mZ (mb:Nat) (s:ByteArray) (w:World) (h:Gl mb w) (hs:s.size<=1000000):
  Calls prog 148 #[.string s,i5 10,i5 64] w fun e w'=>Av [] w w'/\((∃v,Lib.parseIntB 64 (bs s)= .ok v/\e= .returned (.tuple #[i5 v,.nilIface]))\/((∀v,Lib.parseIntB 64 (bs s)≠ .ok v)/\∃v t p,e= .returned (.tuple #[i5 v,.iface t p]))):=by
 rcases hp:Lib.parseIntB 64 (bs s) with v | _ | _
 ·refine(strconv_ParseInt_10_at64_ok s Y v hp w).mono ?_;rintro e w' ⟨rfl,rfl | ⟨t,rfl⟩⟩
  ·exact⟨Av.refl _ _,.inl ⟨v,rfl,rfl⟩⟩
  ·exact⟨Wg _ _ _,.inl ⟨v,rfl,rfl⟩⟩
 ·obtain⟨t,p,h3⟩:=h.syn;refine(strconv_ParseInt_10_at64_syntax s Y hp _ w h3 (.inr ⟨t,p,rfl⟩)).mono ?_;exact mb4
 ·obtain⟨t,p,h3⟩:=h.ran;refine(strconv_ParseInt_10_at64_range s Y hp _ w h3 (.inr ⟨t,p,rfl⟩)).mono ?_;exact mb4
end Go.Proofs.YtpdfifdlhpmofaaGreatDoor
