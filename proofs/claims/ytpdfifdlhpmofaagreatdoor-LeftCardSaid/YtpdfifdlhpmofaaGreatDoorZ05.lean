/-
  Part 5 of the proof.
-/
import Derived.Test.YtpdfifdlhpmofaaGreatDoorZ04
set_option linter.unusedVariables false
set_option linter.unusedSimpArgs false
set_option maxHeartbeats 3200000
set_option maxRecDepth 100000
namespace Go.Proofs.YtpdfifdlhpmofaaGreatDoor
open Go.RowKit
open Go.Lib (hid)
variable {w w':World} {i g n cap size:Nat} {e:TypeId} {xs:List Value} {v:Value} {α:Type}
structure SG where
 p:Option Addr
 c:Nat
inductive Ob where
 | SH (b:Nat) (o:Obj)
 | row (v:Value) (e:TypeId) (size n:Nat) (xs:List Value)
variable {o:Ob} {M L A B C:List Ob}
abbrev Ob.Au (b:Nat) (c:Array Value) (T:TypeId):Ob:= .SH b (.cells c T (0,0))
def Ob.fp:Ob->List Nat
 | .SH b _=>[b]
 | .row v _ _ _ _=>v.ownBlock.toList
def Ob.holds (w:World):Ob->Prop
 | .SH b o=>w.heap[b]?=some o
 | .row v e size n xs=>w.ownsRow 0 e size v n xs
def D4 (L:List Ob):List Nat:=L.flatMap Ob.fp
structure Az (w:World) (L:List Ob):Prop where
 holds:∀o,o∈L->o.holds w
 KE:(D4 L).Nodup
theorem Ob.lt (h:o.holds w):∀b,b∈o.fp->b < w.heap.size:=by
 cases o with
 | SH b o=>intro x hx;simp[Ob.fp] at hx;subst hx;exact BA h
 | row v e s n xs=>intro x hx;exact(DD h (by simpa[Ob.fp] using hx)).2
theorem Ob.Bf {M:List Nat} (h:o.holds w) (k:Av M w w') (hd:∀b,b∈o.fp->b∉M):o.holds w':=by
 cases o with
 | SH b o=>exact k.heap h (hd b (by simp[Ob.fp]))
 | row v e s n xs=>exact Ce h k fun g hg=>hd g (by simp[Ob.fp,hg])
theorem Az.lt (h:Az w L):∀b,b∈D4 L->b < w.heap.size:=by
 intro b hb;obtain⟨o,ho,hb⟩:=Qay.1 hb;exact Ob.lt (h.holds o ho) b hb
theorem Az.Bf {M:List Nat} (h:Az w L) (k:Av M w w') (hd:∀b,b∈D4 L->b∉M):Az w' L:=
 ⟨fun o ho=>Ob.Bf (h.holds o ho) k fun b hb=>hd b (Qay.2 ⟨o,ho,hb⟩),h.KE⟩
theorem Az.get (h:Az w L) {i:Nat} {o:Ob} (hi:L[i]?=some o):o.holds w:=h.holds o (Qai hi)
theorem Az.nil (w:World):Az w []:=⟨fun o h=>(by cases h),List.nodup_nil⟩
theorem A4 (A B:List Ob):D4 (A++B)=D4 A++D4 B:=Qba
theorem Gd (a:Ob) (B:List Ob):D4 (a::B)=a.fp++D4 B:=Qas
theorem cO {α:Type} {L:List α} {o:α} (hi:L[i]?=some o):∃A B,L=A++o::B/\A.length=i/\∀x,L.set i x=A++x::B:=by
 obtain⟨h,rfl⟩:=d9.1 hi;have e:L=L.take i++L[i]::L.drop (i+1):=EQ
 have hl:(L.take i).length=i:=by simp;omega
 refine⟨L.take i,L.drop (i+1),e,hl,fun x=> ?_⟩;rw[List.set_eq_take_append_cons_drop,In h]
theorem Az.xq (h:Az w L) {i j:Nat} {o p:Ob} (hi:L[i]?=some o) (hj:L[j]?=some p) (oH:i≠j):∀b,b∈o.fp->b∉p.fp:=by
 intro b hb hp;obtain⟨A,B,e,hA,_⟩:=cO hi;have hn:=h.KE;rw[e,A4,Gd] at hn;have XB:p∈A\/p∈B:=by
  rw[e] at hj;rcases Qct j A.length with h1 | h1 | h1
  ·rw[m9 h1] at hj;exact .inl (Qai hj)
  ·omega
  ·rw[Qag Y,List.getElem?_cons,I Y] at hj;exact .inr (Qai hj)
 rw[i9,i9] at hn;rcases XB with h1 | h1
 ·exact hn.2.2 b (Qay.2 ⟨p,h1,hp⟩) b (D _ hb) rfl
 ·exact hn.2.1.2.2 b hb b (Qay.2 ⟨p,h1,hp⟩) rfl
theorem Az.ne (h:Az w L) {i j:Nat} {b c:Nat} {o p:Obj} (hi:L[i]?=some (.SH b o)) (hj:L[j]?=some (.SH c p)) (oH:i≠j):b≠c:=by
 have:=h.xq hi hj oH b (by simp[Ob.fp]);rintro rfl;exact this (by simp[Ob.fp])
theorem Az.Abr (h:Az w L) {i j:Nat} {b:Nat} {o:Obj} {v:Value} {e:TypeId} {s n:Nat} {xs:List Value} (hi:L[i]?=some (.SH b o)) (hj:L[j]?=some (.row v e s n xs)) (oH:i≠j):some b≠v.ownBlock:=by
 have:=h.xq hi hj oH b (by simp[Ob.fp]);intro hb;exact this (by simp[Ob.fp,<-hb])
structure Ak (w:World) (L:List Ob) (w':World) (L':List Ob):Prop where
 Am:Az w' L'
 Bf:Av (D4 L) w w'
 fp:∀b,b∈D4 L'->b∈D4 L\/w.heap.size<=b
theorem Ak.refl (h:Az w L):Ak w L w L:=⟨h,Av.refl _ _,fun _ hb=> .inl hb⟩
theorem Ak.trans {a b c:World} {N:List Ob} (h:Ak a L b M) (k:Ak b M c N):Ak a L c N:=
 ⟨k.Am,h.Bf.trans k.Bf fun x hx=>h.fp x hx,fun x hx=>by
   rcases k.fp x hx with h1 | h1
   · exact h.fp x h1
   · exact .inr (Qb6 h.Bf.size h1)⟩
theorem Ak.quiet (h:Az w L) (k:Av [] w w'):Ak w L w' L:=⟨h.Bf k EQ,k.nil,fun _ hb=> .inl hb⟩
theorem Ak.drew (h:Az w L):Ak w L w.drew L:=Ak.quiet h (Av.refl _ _).drew
theorem Ak.alloc (h:Az w L) (o:Obj):Ak w L (w.alloc o) L:=Ak.quiet h ((Av.refl _ _).alloc o)
theorem Ak.new (h:Az w L) (o:Obj):Ak w L (w.alloc o) (L++[.SH w.heap.size o]):=by
 have h1:=(Ak.alloc h o).Am;refine⟨⟨fun p hp=> ?_,?_⟩,((Av.refl _ _).alloc o),fun b hb=> ?_⟩
 ·rcases Nm.1 hp with hp | hp
  ·exact h1.holds p hp
  ·rw[Z] at hp;subst hp;show(w.heap.push o)[w.heap.size]?=some o;simp
 ·rw[A4];refine i9.2 ⟨h.KE,by simp[D4,Ob.fp],fun a ha b hb=> ?_⟩;have:=h.lt a ha;simp[D4,Ob.fp] at hb;omega
 ·rw[A4,Nm] at hb;rcases hb with hb | hb
  ·exact .inl hb
  ·simp[D4,Ob.fp] at hb;exact .inr Y
theorem Az.Ux (h:Az w L) (p:L.Perm M):Az w M:=
 ⟨fun o ho=>h.holds o (p.mem_iff.2 ho),(p.flatMap_right Ob.fp).nodup_iff.1 h.KE⟩
theorem Ak.Ux (h:Az w L) (p:L.Perm M):Ak w L w M:=
 ⟨h.Ux p,Av.refl _ _,fun b hb=> .inl ((p.flatMap_right Ob.fp).mem_iff.2 hb)⟩
theorem Ak.Ry (h:Az w L) (o:Obj):Ak w L (w.alloc o) (.SH w.heap.size o::L):=
 (Ak.new h o).trans (Ak.Ux (Ak.new h o).Am (Qb0 (l₁:=L) (l₂:=[.SH w.heap.size o])))
theorem Ak.frame {L' E:List Ob} (h:Az w (L++E)) (k:Ak w L w' L'):Ak w (L++E) w' (L'++E):=by
 have hn:=h.KE;have AX:=h.lt;rw[A4] at hn AX;obtain⟨n1,n2,n3⟩:=i9.1 hn;have hE:∀b,b∈D4 E->b∉D4 L:=fun b hb hl=>n3 b hl b hb rfl
 refine⟨⟨fun o ho=> ?_,?_⟩,?_,fun b hb=> ?_⟩
 ·rcases Nm.1 ho with h1 | h1
  ·exact k.Am.holds o h1
  ·exact Ob.Bf (h.holds o (GT _ h1)) k.Bf fun b hb=>hE b (Qay.2 ⟨o,h1,hb⟩)
 ·rw[A4];refine i9.2 ⟨k.Am.KE,n2,fun a ha b hb Su=> ?_⟩;subst Su;rcases k.fp a ha with h1 | h1
  ·exact hE a hb h1
  ·have:=AX a (GT _ hb);omega
 ·exact k.Bf.mono fun x hx=> .inl (by rw[A4];exact D _ hx)
 ·rw[A4,Nm] at hb;rw[A4];rcases hb with h1 | h1
  ·rcases k.fp b h1 with h2 | h2
   ·exact .inl (D _ h2)
   ·exact .inr h2
  ·exact .inl (GT _ h1)
theorem Ak.drop (h:Az w (A++B++C)):Ak w (A++B++C) w (A++C):=by
 refine⟨⟨fun o ho=>h.holds o ?_,?_⟩,Av.refl _ _,fun b hb=> .inl ?_⟩
 ·rcases Nm.1 ho with h1 | h1
  ·exact D _ (D _ h1)
  ·exact GT _ h1
 ·have:=h.KE;rw[A4,A4] at this;rw[A4];exact this.sublist (List.Sublist.append (List.sublist_append_left _ _) (List.Sublist.refl _))
 ·rw[A4,Nm] at hb;rw[A4,A4];rcases hb with h1 | h1
  ·exact D _ (D _ h1)
  ·exact GT _ h1
theorem Ak.AN (h:Az w (A++C)):Ak w (A++C) w A:=by
 have:=Ak.drop (A:=A) (B:=C) (C:=[]) (by rw[i7];exact h);rw[i7,i7] at this;exact this
theorem Az.swap {o':Ob} (h:Az w L) (hi:L[i]?=some o) (k:Av o.fp w w') (Oz:o'.holds w') (GQ:o'.fp.Nodup) (kP:∀b,b∈o'.fp->b∈o.fp\/w.heap.size<=b):Ak w L w' (L.set i o'):=by
 obtain⟨A,B,e,hA,dW⟩:=cO hi;rw[dW];have hn:=h.KE;have AX:=h.lt;have hA':∀p,p∈A\/p∈B->p∈L:=fun p hp=>by
  rw[e];rcases hp with hp | hp
  ·exact D _ hp
  ·exact GT _ (U _ hp)
 rw[e,A4,Gd] at hn AX;rw[i9,i9] at hn;obtain⟨n1,⟨n2,n3,n4⟩,n5⟩:=hn;have Aca:∀b,b∈D4 A\/b∈D4 B->b∉o.fp:=fun b hb ho=>by
  rcases hb with hb | hb
  ·exact n5 b hb b (D _ ho) rfl
  ·exact n4 b ho b hb rfl
 have WE:∀p,p∈A\/p∈B->p.holds w':=fun p hp=>Ob.Bf (h.holds p (hA' p hp)) k fun b hb=>Aca b (by
   rcases hp with hp | hp
   · exact .inl (Qay.2 ⟨p,hp,hb⟩)
   · exact .inr (Qay.2 ⟨p,hp,hb⟩))
 have zm:∀b,b∈o'.fp->b∉D4 A/\b∉D4 B:=fun b hb=>by
  rcases kP b hb with h1 | h1
  ·exact⟨fun h2=>Aca b (.inl h2) h1,fun h2=>Aca b (.inr h2) h1⟩
  ·exact⟨fun h2=>by have:=AX b (D _ h2);omega,fun h2=>by have:=AX b (GT _ (GT _ h2));omega⟩
 refine⟨⟨fun p hp=> ?_,?_⟩,?_,fun b hb=> ?_⟩
 ·rcases Nm.1 hp with hp | hp
  ·exact WE p (.inl hp)
  ·rcases Pi.1 hp with rfl | hp
   ·exact Oz
   ·exact WE p (.inr hp)
 ·rw[A4,Gd,i9,i9];refine⟨n1,⟨GQ,n3,fun a ha b hb Su=> ?_⟩,fun a ha b hb Su=> ?_⟩
  ·subst Su;exact(zm a ha).2 hb
  ·subst Su;rcases Nm.1 hb with hb | hb
   ·exact(zm a hb).1 ha
   ·exact n5 a ha a (GT _ hb) rfl
 ·refine k.mono fun x hx=> .inl ?_
  rw[e,A4,Gd];exact GT _ (D _ hx)
 ·rw[A4,Gd,Nm,Nm] at hb;rw[e,A4,Gd];rcases hb with hb | hb | hb
  ·exact .inl (D _ hb)
  ·rcases kP b hb with h1 | h1
   ·exact .inl (GT _ (D _ h1))
   ·exact .inr h1
  ·exact .inl (GT _ (GT _ hb))
theorem Az.set {b:Nat} {c:Array Value} {T:TypeId} (h:Az w L) (hi:L[i]?=some (.Au b c T)) (k:Nat) (v:Value):
  Ak w L (w.setCell ⟨b,k,none⟩ v) (L.set i (.Au b (c.setIfInBounds k v) T)):=
 h.swap hi ((Av.refl _ _).setCell (.inl (by simp[Ob.fp])) v) (BM.set (c:=c) (T:=T) (h.get hi) k v) (by simp[Ob.fp]) (fun _ hb=> .inl hb)
theorem Az.HU (h:Az w L) (hi:L[i]?=some (.row (.slice (some ⟨g,0,none⟩) n cap) e size n xs)) (k:Nat) (hk:k < xs.length) (v:Value):
  Ak w L (w.setCell ⟨g,k,none⟩ v) (L.set i (.row (.slice (some ⟨g,0,none⟩) n cap) e size n (xs.set k v))):=
 h.swap hi ((Av.refl _ _).setCell (.inl (by simp[Ob.fp,Value.ownBlock])) v) (TY (h.get hi) k hk v) (by simp[Ob.fp,Value.ownBlock]) (fun _ hb=> .inl hb)
theorem Az.grow (h:Az w L) (hi:L[i]?=some (.row v e size n xs)) {g n' cap':Nat} {ys:List Value}
  (Ct:w'.ownsRow 0 e size (.slice (some ⟨g,0,none⟩) n' cap') n' ys) (hg:w.grownBy w' v.ownBlock) (FA:v.ownBlock=some g\/w.heap.size<=g):
  Ak w L w' (L.set i (.row (.slice (some ⟨g,0,none⟩) n' cap') e size n' ys)):=by
 refine h.swap hi ((Av.refl _ w).grown hg fun k hk=> .inl (by simp[Ob.fp,hk])) Ct (by simp[Ob.fp,Value.ownBlock]) fun b hb=> ?_
 simp[Ob.fp,Value.ownBlock] at hb;subst hb;rcases FA with h1 | h1
 ·exact .inl (by simp[Ob.fp,h1])
 ·exact .inr h1
theorem Az.row (h:Az w L) {i:Nat} {v:Value} {e:TypeId} {s n:Nat} {xs:List Value} (hi:L[i]?=some (.row v e s n xs)):w.ownsRow 0 e s v n xs:=h.get hi
theorem Az.Au (h:Az w L) {i b:Nat} {c:Array Value} {T:TypeId} (hi:L[i]?=some (.Au b c T)):BM w b c T:=h.get hi
theorem O6:(A++o::B)[A.length]?=some o:=EQ
theorem aO {x:Ob}:(A++o::B).set A.length x=A++x::B:=EQ
theorem Az.mB (h:Az w (A++ .row (.slice (some ⟨g,0,none⟩) n cap) e size n xs::B)) (k:Nat) (hk:k < xs.length) (v:Value):
  Ak w (A++ .row (.slice (some ⟨g,0,none⟩) n cap) e size n xs::B) (w.setCell ⟨g,k,none⟩ v) (A++ .row (.slice (some ⟨g,0,none⟩) n cap) e size n (xs.set k v)::B):=by
 have:=h.HU O6 k hk v;rw[aO] at this;exact this
theorem Rl {s:Nat} (h:w.ownsRow 0 e s v n xs):∃p c,v= .slice p n c/\n<=c/\c<=maxLen:=by
 rcases h.2 with⟨rfl,h0⟩ | ⟨g,c,cur,rfl,_,_,h3,h4,_⟩
 ·exact⟨none,0,by rw[h0],Y,d6 _⟩
 ·exact⟨_,_,rfl,h3,h4⟩
def BC {α:Type} (g:List SG) (l:List (List α)):List Value:=List.zipWith (fun a x=>Value.slice a.p x.length a.c) g l
theorem Bx (g:List SG) (a:SG) (l:List (List α)) (x:List α) (h:g.length=l.length):BC (g++[a]) (l++[x])=BC g l++[.slice a.p x.length a.c]:=by
 unfold BC;rw[Qb4 h];rfl
theorem Cm (g:List SG) (l:List (List α)) (h:g.length=l.length):(BC g l).length=l.length:=by
 unfold BC;simp[h]
end Go.Proofs.YtpdfifdlhpmofaaGreatDoor
