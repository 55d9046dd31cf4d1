/-
  Part 21 of the proof, packed by program out of L1.
-/
import Derived.Test.YtpdfifdlhpmofaaGreatDoorZ15
import Derived.Test.YtpdfifdlhpmofaaGreatDoorZ19
import Derived.Test.YtpdfifdlhpmofaaGreatDoorZ20
import Derived.Shelf.Strings.SlTrimAscii
import Derived.Test.YtpdfifdlhpmofaaGreatDoorShelf
set_option linter.unusedVariables false
set_option linter.unusedSimpArgs false
set_option maxHeartbeats 3200000
set_option maxRecDepth 100000
namespace Go.Proofs.YtpdfifdlhpmofaaGreatDoor
open Go.RowKit
open Go.Lib (hid)
abbrev OO (w:World):Prop:=Lib.TabIs Tryz.prog w "internal/strconv.uint64pow10" .u64 Lib.pow10Tab
theorem OO.Bh {M:List Nat} {w w':World} (h:OO w) (k:Av M w w') (hM:∀g,Tryz.prog.globalNamed "internal/strconv.uint64pow10" =some g→g∉M):OO w':=by
 unfold OO Lib.TabIs World.var? at*;cases hg:Tryz.prog.globalNamed "internal/strconv.uint64pow10" with
 | none=>rw[hg] at h;cases h
 | some g=>
  rw[hg] at h;simp only[Option.bind_some] at h⊢;cases hb:w.heap[g]? with
  | none=>rw[hb] at h;cases h
  | some o=>rw[k.heap hb (hM g hg)];rw[hb] at h;exact h
theorem OO.quiet {w w':World} (h:OO w) (k:Av [] w w'):OO w':=h.Bh k (by simp)
theorem Ul (w:World) (k:Nat) (os:Array Obj):Av [] w (Go.Sort.grow (w.drewN k) os):=
 ⟨rfl,rfl,rfl,by show w.heap.size≤(w.heap++os).size;simp,fun j hj _=>by show(w.heap++os)[j]?=_;rw[Array.getElem?_append_left hj]⟩
theorem QU (v:Int) (hv: -9223372036854775808≤v∧v≤9223372036854775807) (w:World) (h:OO w):Calls Tryz.prog 149 #[.int .i64 v,.int .i64 10] w (IM (.string (AA (Lib.itoa v))) w):=by
 refine(Tryz.strconv_FormatInt_10 v hv.1 hv.2 w h).mono ?_;rintro e w' ⟨rfl,k,os,rfl⟩;exact⟨rfl,Ul _ _ _⟩
theorem MF (v:Int) (hv: -9223372036854775808≤v∧v≤9223372036854775807) (w:World) (h:OO w):Calls Tryz.prog 196 #[.int .i64 v] w (IM (.string (AA (Lib.itoa v))) w):=by
 refine(Tryz.strconv_Itoa v hv.1 hv.2 w h).mono ?_;rintro e w' ⟨rfl,k,os,rfl⟩;exact⟨rfl,Ul _ _ _⟩
theorem eu (s:ByteArray) (w:World) (hs:s.size≤1000000):
  Calls Tryz.prog 147 #[.string s,.string ⟨#[97,98,99,100,101,102,103,104,105,106,107,108,109,110,111,112,113,114,115,116,117,118,119,120,121,122]⟩] w (IM (.string (AA (Lib.trimS (bs s) Ll))) w):=by
 refine(Any.strings_Trim_laid Tryz.lays160 (by kernel_rfl) s _ w (by omega) (by decide) (ascii_of_all (by decide))).mono ?_;rintro e w' ⟨rfl,hb⟩;exact⟨rfl,Av.RA hb⟩
structure Gl (mb:Nat) (w:World):Prop where
 ym:OO w
 B7:∃m,w.cell? ⟨2,0,none⟩=some (.int .i64 m)
 zU:∃t p,w.cell? ⟨5,0,none⟩=some (.iface t p)
 zW:∃t p,w.cell? ⟨6,0,none⟩=some (.iface t p)
 Bq:w.cell? ⟨1,0,none⟩=some (.map (some mb))
 zZ:∃o,w.heap[mb]?=some o∧∀W:World,W.heap[mb]?=some o→∀s:ByteArray,(Instr.lookup 232 (.map (some mb)) (.string s) false).run Tryz.prog W= .ok (.string ((Z1 s).getD ⟨#[]⟩)) W
def Pf (mb:Nat):List Nat:=[2,5,6,1,7,mb]
theorem OD {w:World} {b:Nat} {v:Value} (h:w.cell? ⟨b,0,none⟩=some v):b < w.heap.size:=by
 unfold World.cell? at h;rcases Nat.lt_or_ge b w.heap.size with h1 | h1
 ·exact h1
 ·have:w.heap[b]?=none:=Array.getElem?_eq_none h1;simp[this] at h
theorem MP {M:List Nat} {w w':World} (k:Av M w w') {b:Nat} {v:Value} (h:w.cell? ⟨b,0,none⟩=some v) (hb:b∉M):w'.cell? ⟨b,0,none⟩=some v:=by
 have:=k.block b (OD h) hb;unfold World.cell? at*;rw[this];exact h
theorem Gl.Bh {mb:Nat} {M:List Nat} {w w':World} (h:Gl mb w) (k:Av M w w') (hM:∀b,b∈Pf mb→b∉M):Gl mb w':=by
 obtain⟨h1,⟨m,h2⟩,⟨t3,p3,h3⟩,⟨t4,p4,h4⟩,h5,o,h6,h7⟩:=h;refine⟨h1.Bh k fun g hg=> ?_,⟨m,MP k h2 (hM _ (by simp[Pf]))⟩,⟨t3,p3,MP k h3 (hM _ (by simp[Pf]))⟩,⟨t4,p4,MP k h4 (hM _ (by simp[Pf]))⟩,MP k h5 (hM _ (by simp[Pf])),o,k.heap h6 (hM _ (by simp[Pf])),h7⟩;have e:Tryz.prog.globalNamed "internal/strconv.uint64pow10" =some 7:=by kernel_rfl
 rw[e] at hg;cases hg;exact hM _ (by simp[Pf])
theorem Gl.quiet {mb:Nat} {w w':World} (h:Gl mb w) (k:Av [] w w'):Gl mb w':=h.Bh k (by simp)
theorem Gl.lt {mb:Nat} {w:World} (h:Gl mb w):∀b,b∈Pf mb→b < w.heap.size:=by
 obtain⟨h1,⟨m,h2⟩,⟨t3,p3,h3⟩,⟨t4,p4,h4⟩,h5,o,h6,h7⟩:=h;intro b hb;have e:Tryz.prog.globalNamed "internal/strconv.uint64pow10" =some 7:=by kernel_rfl
 simp only[Pf,List.mem_cons,List.mem_nil_iff,or_false] at hb;rcases hb with rfl | rfl | rfl | rfl | rfl | rfl
 ·exact OD h2
 ·exact OD h3
 ·exact OD h4
 ·exact OD h5
 ·unfold OO Lib.TabIs World.var? at h1;rw[e] at h1;simp only[Option.bind_some] at h1;rcases Nat.lt_or_ge 7 w.heap.size with h8 | h8
  ·exact h8
  ·rw[Array.getElem?_eq_none h8] at h1;cases h1
 ·exact BA h6
structure tG (mb:Nat) (w:World) (L:List Ob):Prop where
 gl:Gl mb w
 out:∀b,b∈Pf mb→b∉En L
theorem tG.step {mb:Nat} {w w':World} {L L':List Ob} (h:tG mb w L) (k:Ad w L w' L'):tG mb w' L':=
 ⟨h.gl.Bh k.Bh h.out,fun b hb hl=>by
   rcases k.fp b hl with h1 | h1
   · exact h.out b hb h1
   · have:=h.gl.lt b hb;omega⟩
theorem YM {M:List Nat} {w w':World} (h:Av M w w') (a:Addr) (n:Nat) (ha:w.heap.size≤a.block):Av M w (w'.freeze a n):=by
 unfold World.freeze;split
 ·exact h
 ·refine⟨h.os,h.tape,h.output,?_,fun k hk hm=> ?_⟩
  ·show w.heap.size≤(w'.heap.modify _ _).size;rw[Array.size_modify];exact h.size
  ·rw[←h.block k hk hm];show(w'.heap.modify _ _)[k]?=_;rw[Array.getElem?_modify,if_neg (by omega)]
theorem RF (w:World) (e:TypeId) (s:ByteArray):Av [] w (Lib.bytesWorld w e s):=
 YM (((Av.refl [] w).drew).alloc _) _ _ (Nat.le_refl _)
theorem bM (mb:Nat) (s:ByteArray) (w:World) (h:Gl mb w) (hs:s.size≤1000000):
  Calls Tryz.prog 148 #[.string s,.int .i64 10,.int .i64 64] w fun e w'=>Av [] w w'∧((∃v,Lib.parseIntB 64 (bs s)= .ok v∧e= .returned (.tuple #[.int .i64 v,.nilIface]))∨((∀v,Lib.parseIntB 64 (bs s)≠ .ok v)∧∃v t p,e= .returned (.tuple #[.int .i64 v,.iface t p]))):=by
 rcases hp:Lib.parseIntB 64 (bs s) with v | _ | _
 ·refine(Tryz.strconv_ParseInt_10_at64_ok s (by omega) v hp w).mono ?_;rintro e w' ⟨rfl,rfl | ⟨t,rfl⟩⟩
  ·exact⟨Av.refl _ _,.inl ⟨v,rfl,rfl⟩⟩
  ·exact⟨RF _ _ _,.inl ⟨v,rfl,rfl⟩⟩
 ·obtain⟨t,p,h3⟩:=h.zU;refine(Tryz.strconv_ParseInt_10_at64_syntax s (by omega) hp _ w h3 (.inr ⟨t,p,rfl⟩)).mono ?_;rintro e w' ⟨N,rfl,_,_,hb⟩;exact⟨Av.RA hb,.inr ⟨fun v hv=>(by cases hv),_,_,_,rfl⟩⟩
 ·obtain⟨t,p,h3⟩:=h.zW;refine(Tryz.strconv_ParseInt_10_at64_range s (by omega) hp _ w h3 (.inr ⟨t,p,rfl⟩)).mono ?_;rintro e w' ⟨N,rfl,_,_,hb⟩;exact⟨Av.RA hb,.inr ⟨fun v hv=>(by cases hv),_,_,_,rfl⟩⟩
end Go.Proofs.YtpdfifdlhpmofaaGreatDoor
