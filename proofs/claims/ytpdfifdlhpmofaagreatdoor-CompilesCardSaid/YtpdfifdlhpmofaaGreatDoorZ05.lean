/-
  Part 5 of the proof, packed by program out of O1.
-/
import Derived.Test.YtpdfifdlhpmofaaGreatDoorZ04
set_option linter.unusedVariables false
set_option linter.unusedSimpArgs false
set_option maxHeartbeats 3200000
set_option maxRecDepth 100000
namespace Go.Proofs.YtpdfifdlhpmofaaGreatDoor
open Go.RowKit
open Go.Lib (hid)
structure SG where
 p:Option Addr
 c:Nat
inductive Ob where
 | PN (b:Nat) (o:Obj)
 | row (v:Value) (e:TypeId) (size n:Nat) (xs:List Value)
abbrev Ob.AP (b:Nat) (c:Array Value) (T:TypeId):Ob:= .PN b (.cells c T (0,0))
def Ob.fp:Ob→List Nat
 | .PN b _=>[b]
 | .row v _ _ _ _=>v.ownBlock.toList
def Ob.holds (w:World):Ob→Prop
 | .PN b o=>w.heap[b]?=some o
 | .row v e size n xs=>w.ownsRow 0 e size v n xs
def En (L:List Ob):List Nat:=L.flatMap Ob.fp
structure AK (w:World) (L:List Ob):Prop where
 holds:∀o,o∈L→o.holds w
 Kw:(En L).Nodup
theorem Ob.lt {w:World} {o:Ob} (h:o.holds w):∀b,b∈o.fp→b < w.heap.size:=by
 cases o with
 | PN b o=>intro x hx;simp[Ob.fp] at hx;subst hx;exact BA h
 | row v e s n xs=>intro x hx;exact(Dm h (by simpa[Ob.fp] using hx)).2
theorem Ob.Bh {w w':World} {M:List Nat} {o:Ob} (h:o.holds w) (k:Av M w w') (hd:∀b,b∈o.fp→b∉M):o.holds w':=by
 cases o with
 | PN b o=>exact k.heap h (hd b (by simp[Ob.fp]))
 | row v e s n xs=>exact B5 h k fun g hg=>hd g (by simp[Ob.fp,hg])
theorem AK.lt {w:World} {L:List Ob} (h:AK w L):∀b,b∈En L→b < w.heap.size:=by
 intro b hb;obtain⟨o,ho,hb⟩:=List.mem_flatMap.1 hb;exact Ob.lt (h.holds o ho) b hb
theorem AK.Bh {w w':World} {M:List Nat} {L:List Ob} (h:AK w L) (k:Av M w w') (hd:∀b,b∈En L→b∉M):AK w' L:=
 ⟨fun o ho=>Ob.Bh (h.holds o ho) k fun b hb=>hd b (List.mem_flatMap.2 ⟨o,ho,hb⟩),h.Kw⟩
theorem AK.get {w:World} {L:List Ob} (h:AK w L) {i:Nat} {o:Ob} (hi:L[i]?=some o):o.holds w:=h.holds o (List.mem_of_getElem? hi)
theorem AK.nil (w:World):AK w []:=⟨fun o h=>(by cases h),List.nodup_nil⟩
theorem Bd (A B:List Ob):En (A++B)=En A++En B:=List.flatMap_append
theorem FB (a:Ob) (B:List Ob):En (a::B)=a.fp++En B:=List.flatMap_cons
theorem Wk {α:Type} {L:List α} {i:Nat} {o:α} (hi:L[i]?=some o):∃A B,L=A++o::B∧A.length=i∧∀x,L.set i x=A++x::B:=by
 obtain⟨h,rfl⟩:=List.getElem?_eq_some_iff.1 hi;have e:L=L.take i++L[i]::L.drop (i+1):=by simp
 have hl:(L.take i).length=i:=by simp;omega
 refine⟨L.take i,L.drop (i+1),e,hl,fun x=> ?_⟩;rw[List.set_eq_take_append_cons_drop,if_pos h]
theorem AK.jP {w:World} {L:List Ob} (h:AK w L) {i j:Nat} {o p:Ob} (hi:L[i]?=some o) (hj:L[j]?=some p) (ij:i≠j):∀b,b∈o.fp→b∉p.fp:=by
 intro b hb hp;obtain⟨A,B,e,hA,_⟩:=Wk hi;have hn:=h.Kw;rw[e,Bd,FB] at hn;have cL:p∈A∨p∈B:=by
  rw[e] at hj;rcases Nat.lt_trichotomy j A.length with h1 | h1 | h1
  ·rw[List.getElem?_append_left h1] at hj;exact .inl (List.mem_of_getElem? hj)
  ·omega
  ·rw[List.getElem?_append_right (by omega),List.getElem?_cons,if_neg (by omega)] at hj;exact .inr (List.mem_of_getElem? hj)
 rw[List.nodup_append,List.nodup_append] at hn;rcases cL with h1 | h1
 ·exact hn.2.2 b (List.mem_flatMap.2 ⟨p,h1,hp⟩) b (List.mem_append_left _ hb) rfl
 ·exact hn.2.1.2.2 b hb b (List.mem_flatMap.2 ⟨p,h1,hp⟩) rfl
theorem AK.ne {w:World} {L:List Ob} (h:AK w L) {i j:Nat} {b c:Nat} {o p:Obj} (hi:L[i]?=some (.PN b o)) (hj:L[j]?=some (.PN c p)) (ij:i≠j):b≠c:=by
 have:=h.jP hi hj ij b (by simp[Ob.fp]);rintro rfl;exact this (by simp[Ob.fp])
theorem AK.nK {w:World} {L:List Ob} (h:AK w L) {i j:Nat} {b:Nat} {o:Obj} {v:Value} {e:TypeId} {s n:Nat} {xs:List Value} (hi:L[i]?=some (.PN b o)) (hj:L[j]?=some (.row v e s n xs)) (ij:i≠j):some b≠v.ownBlock:=by
 have:=h.jP hi hj ij b (by simp[Ob.fp]);intro hb;exact this (by simp[Ob.fp,←hb])
structure Ad (w:World) (L:List Ob) (w':World) (L':List Ob):Prop where
 Al:AK w' L'
 Bh:Av (En L) w w'
 fp:∀b,b∈En L'→b∈En L∨w.heap.size≤b
theorem Ad.refl {w:World} {L:List Ob} (h:AK w L):Ad w L w L:=⟨h,Av.refl _ _,fun _ hb=> .inl hb⟩
theorem Ad.trans {a b c:World} {L M N:List Ob} (h:Ad a L b M) (k:Ad b M c N):Ad a L c N:=
 ⟨k.Al,h.Bh.trans k.Bh fun x hx=>h.fp x hx,fun x hx=>by
   rcases k.fp x hx with h1 | h1
   · exact h.fp x h1
   · exact .inr (Nat.le_trans h.Bh.size h1)⟩
theorem Ad.quiet {w w':World} {L:List Ob} (h:AK w L) (k:Av [] w w'):Ad w L w' L:=⟨h.Bh k (by simp),k.nil,fun _ hb=> .inl hb⟩
theorem Ad.drew {w:World} {L:List Ob} (h:AK w L):Ad w L w.drew L:=Ad.quiet h (Av.refl _ _).drew
theorem Ad.alloc {w:World} {L:List Ob} (h:AK w L) (o:Obj):Ad w L (w.alloc o) L:=Ad.quiet h ((Av.refl _ _).alloc o)
theorem Ad.new {w:World} {L:List Ob} (h:AK w L) (o:Obj):Ad w L (w.alloc o) (L++[.PN w.heap.size o]):=by
 have h1:=(Ad.alloc h o).Al;refine⟨⟨fun p hp=> ?_,?_⟩,((Av.refl _ _).alloc o),fun b hb=> ?_⟩
 ·rcases List.mem_append.1 hp with hp | hp
  ·exact h1.holds p hp
  ·rw[List.mem_singleton] at hp;subst hp;show(w.heap.push o)[w.heap.size]?=some o;simp
 ·rw[Bd];refine List.nodup_append.2 ⟨h.Kw,by simp[En,Ob.fp],fun a ha b hb=> ?_⟩;have:=h.lt a ha;simp[En,Ob.fp] at hb;omega
 ·rw[Bd,List.mem_append] at hb;rcases hb with hb | hb
  ·exact .inl hb
  ·simp[En,Ob.fp] at hb;exact .inr (by omega)
theorem AK.fu {w:World} {L M:List Ob} (h:AK w L) (p:L.Perm M):AK w M:=
 ⟨fun o ho=>h.holds o (p.mem_iff.2 ho),(p.flatMap_right Ob.fp).nodup_iff.1 h.Kw⟩
theorem Ad.fu {w:World} {L M:List Ob} (h:AK w L) (p:L.Perm M):Ad w L w M:=
 ⟨h.fu p,Av.refl _ _,fun b hb=> .inl ((p.flatMap_right Ob.fp).mem_iff.2 hb)⟩
theorem Ad.Oi {w:World} {L:List Ob} (h:AK w L) (o:Obj):Ad w L (w.alloc o) (.PN w.heap.size o::L):=
 (Ad.new h o).trans (Ad.fu (Ad.new h o).Al (List.perm_append_comm (l₁:=L) (l₂:=[.PN w.heap.size o])))
theorem Ad.frame {w w':World} {L L' E:List Ob} (h:AK w (L++E)) (k:Ad w L w' L'):Ad w (L++E) w' (L'++E):=by
 have hn:=h.Kw;have Bi:=h.lt;rw[Bd] at hn Bi;obtain⟨n1,n2,n3⟩:=List.nodup_append.1 hn;have hE:∀b,b∈En E→b∉En L:=fun b hb hl=>n3 b hl b hb rfl
 refine⟨⟨fun o ho=> ?_,?_⟩,?_,fun b hb=> ?_⟩
 ·rcases List.mem_append.1 ho with h1 | h1
  ·exact k.Al.holds o h1
  ·exact Ob.Bh (h.holds o (List.mem_append_right _ h1)) k.Bh fun b hb=>hE b (List.mem_flatMap.2 ⟨o,h1,hb⟩)
 ·rw[Bd];refine List.nodup_append.2 ⟨k.Al.Kw,n2,fun a ha b hb Hh=> ?_⟩;subst Hh;rcases k.fp a ha with h1 | h1
  ·exact hE a hb h1
  ·have:=Bi a (List.mem_append_right _ hb);omega
 ·exact k.Bh.mono fun x hx=> .inl (by rw[Bd];exact List.mem_append_left _ hx)
 ·rw[Bd,List.mem_append] at hb;rw[Bd];rcases hb with h1 | h1
  ·rcases k.fp b h1 with h2 | h2
   ·exact .inl (List.mem_append_left _ h2)
   ·exact .inr h2
  ·exact .inl (List.mem_append_right _ h1)
theorem Ad.drop {w:World} {A B C:List Ob} (h:AK w (A++B++C)):Ad w (A++B++C) w (A++C):=by
 refine⟨⟨fun o ho=>h.holds o ?_,?_⟩,Av.refl _ _,fun b hb=> .inl ?_⟩
 ·rcases List.mem_append.1 ho with h1 | h1
  ·exact List.mem_append_left _ (List.mem_append_left _ h1)
  ·exact List.mem_append_right _ h1
 ·have:=h.Kw;rw[Bd,Bd] at this;rw[Bd];exact this.sublist (List.Sublist.append (List.sublist_append_left _ _) (List.Sublist.refl _))
 ·rw[Bd,List.mem_append] at hb;rw[Bd,Bd];rcases hb with h1 | h1
  ·exact List.mem_append_left _ (List.mem_append_left _ h1)
  ·exact List.mem_append_right _ h1
theorem Ad.AT {w:World} {A C:List Ob} (h:AK w (A++C)):Ad w (A++C) w A:=by
 have:=Ad.drop (A:=A) (B:=C) (C:=[]) (by rw[List.append_nil];exact h);rw[List.append_nil,List.append_nil] at this;exact this
theorem AK.swap {w w':World} {L:List Ob} {i:Nat} {o o':Ob} (h:AK w L) (hi:L[i]?=some o) (k:Av o.fp w w') (ah:o'.holds w') (GH:o'.fp.Nodup) (iq:∀b,b∈o'.fp→b∈o.fp∨w.heap.size≤b):Ad w L w' (L.set i o'):=by
 obtain⟨A,B,e,hA,W6⟩:=Wk hi;rw[W6];have hn:=h.Kw;have Bi:=h.lt;have hA':∀p,p∈A∨p∈B→p∈L:=fun p hp=>by
  rw[e];rcases hp with hp | hp
  ·exact List.mem_append_left _ hp
  ·exact List.mem_append_right _ (List.mem_cons_of_mem _ hp)
 rw[e,Bd,FB] at hn Bi;rw[List.nodup_append,List.nodup_append] at hn;obtain⟨n1,⟨n2,n3,n4⟩,n5⟩:=hn;have oT:∀b,b∈En A∨b∈En B→b∉o.fp:=fun b hb ho=>by
  rcases hb with hb | hb
  ·exact n5 b hb b (List.mem_append_left _ ho) rfl
  ·exact n4 b ho b hb rfl
 have gP:∀p,p∈A∨p∈B→p.holds w':=fun p hp=>Ob.Bh (h.holds p (hA' p hp)) k fun b hb=>oT b (by
   rcases hp with hp | hp
   · exact .inl (List.mem_flatMap.2 ⟨p,hp,hb⟩)
   · exact .inr (List.mem_flatMap.2 ⟨p,hp,hb⟩))
 have Xi:∀b,b∈o'.fp→b∉En A∧b∉En B:=fun b hb=>by
  rcases iq b hb with h1 | h1
  ·exact⟨fun h2=>oT b (.inl h2) h1,fun h2=>oT b (.inr h2) h1⟩
  ·exact⟨fun h2=>by have:=Bi b (List.mem_append_left _ h2);omega,fun h2=>by have:=Bi b (List.mem_append_right _ (List.mem_append_right _ h2));omega⟩
 refine⟨⟨fun p hp=> ?_,?_⟩,?_,fun b hb=> ?_⟩
 ·rcases List.mem_append.1 hp with hp | hp
  ·exact gP p (.inl hp)
  ·rcases List.mem_cons.1 hp with rfl | hp
   ·exact ah
   ·exact gP p (.inr hp)
 ·rw[Bd,FB,List.nodup_append,List.nodup_append];refine⟨n1,⟨GH,n3,fun a ha b hb Hh=> ?_⟩,fun a ha b hb Hh=> ?_⟩
  ·subst Hh;exact(Xi a ha).2 hb
  ·subst Hh;rcases List.mem_append.1 hb with hb | hb
   ·exact(Xi a hb).1 ha
   ·exact n5 a ha a (List.mem_append_right _ hb) rfl
 ·refine k.mono fun x hx=> .inl ?_
  rw[e,Bd,FB];exact List.mem_append_right _ (List.mem_append_left _ hx)
 ·rw[Bd,FB,List.mem_append,List.mem_append] at hb;rw[e,Bd,FB];rcases hb with hb | hb | hb
  ·exact .inl (List.mem_append_left _ hb)
  ·rcases iq b hb with h1 | h1
   ·exact .inl (List.mem_append_right _ (List.mem_append_left _ h1))
   ·exact .inr h1
  ·exact .inl (List.mem_append_right _ (List.mem_append_right _ hb))
theorem AK.set {w:World} {L:List Ob} {i b:Nat} {c:Array Value} {T:TypeId} (h:AK w L) (hi:L[i]?=some (.AP b c T)) (k:Nat) (v:Value):
  Ad w L (w.setCell ⟨b,k,none⟩ v) (L.set i (.AP b (c.setIfInBounds k v) T)):=
 h.swap hi ((Av.refl _ _).setCell (.inl (by simp[Ob.fp])) v) (BR.set (c:=c) (T:=T) (h.get hi) k v) (by simp[Ob.fp]) (fun _ hb=> .inl hb)
theorem AK.Jp {w:World} {L:List Ob} {i g n cap:Nat} {e:TypeId} {size:Nat} {xs:List Value} (h:AK w L) (hi:L[i]?=some (.row (.slice (some ⟨g,0,none⟩) n cap) e size n xs)) (k:Nat) (hk:k < xs.length) (v:Value):
  Ad w L (w.setCell ⟨g,k,none⟩ v) (L.set i (.row (.slice (some ⟨g,0,none⟩) n cap) e size n (xs.set k v))):=
 h.swap hi ((Av.refl _ _).setCell (.inl (by simp[Ob.fp,Value.ownBlock])) v) (PO (h.get hi) k hk v) (by simp[Ob.fp,Value.ownBlock]) (fun _ hb=> .inl hb)
theorem AK.grow {w w':World} {L:List Ob} {i:Nat} {v:Value} {e:TypeId} {size n:Nat} {xs:List Value} (h:AK w L) (hi:L[i]?=some (.row v e size n xs)) {g n' cap':Nat} {ys:List Value}
  (CN:w'.ownsRow 0 e size (.slice (some ⟨g,0,none⟩) n' cap') n' ys) (hg:w.grownBy w' v.ownBlock) (Fh:v.ownBlock=some g∨w.heap.size≤g):
  Ad w L w' (L.set i (.row (.slice (some ⟨g,0,none⟩) n' cap') e size n' ys)):=by
 refine h.swap hi ((Av.refl _ w).grown hg fun k hk=> .inl (by simp[Ob.fp,hk])) CN (by simp[Ob.fp,Value.ownBlock]) fun b hb=> ?_
 simp[Ob.fp,Value.ownBlock] at hb;subst hb;rcases Fh with h1 | h1
 ·exact .inl (by simp[Ob.fp,h1])
 ·exact .inr h1
theorem AK.row {w:World} {L:List Ob} (h:AK w L) {i:Nat} {v:Value} {e:TypeId} {s n:Nat} {xs:List Value} (hi:L[i]?=some (.row v e s n xs)):w.ownsRow 0 e s v n xs:=h.get hi
theorem AK.AP {w:World} {L:List Ob} (h:AK w L) {i b:Nat} {c:Array Value} {T:TypeId} (hi:L[i]?=some (.AP b c T)):BR w b c T:=h.get hi
theorem Mz {A B:List Ob} {o:Ob}:(A++o::B)[A.length]?=some o:=by simp
theorem Vu {A B:List Ob} {o x:Ob}:(A++o::B).set A.length x=A++x::B:=by simp
theorem AK.bz {w:World} {A B:List Ob} {g n cap:Nat} {e:TypeId} {size:Nat} {xs:List Value} (h:AK w (A++ .row (.slice (some ⟨g,0,none⟩) n cap) e size n xs::B)) (k:Nat) (hk:k < xs.length) (v:Value):
  Ad w (A++ .row (.slice (some ⟨g,0,none⟩) n cap) e size n xs::B) (w.setCell ⟨g,k,none⟩ v) (A++ .row (.slice (some ⟨g,0,none⟩) n cap) e size n (xs.set k v)::B):=by
 have:=h.Jp Mz k hk v;rw[Vu] at this;exact this
theorem Ww {w:World} {e:TypeId} {s n:Nat} {v:Value} {xs:List Value} (h:w.ownsRow 0 e s v n xs):∃p c,v= .slice p n c∧n≤c∧c≤maxLen:=by
 rcases h.2 with⟨rfl,h0⟩ | ⟨g,c,cur,rfl,_,_,h3,h4,_⟩
 ·exact⟨none,0,by rw[h0],by omega,Nat.zero_le _⟩
 ·exact⟨_,_,rfl,h3,h4⟩
def BL {α:Type} (g:List SG) (l:List (List α)):List Value:=List.zipWith (fun a x=>Value.slice a.p x.length a.c) g l
theorem Bw {α:Type} (g:List SG) (a:SG) (l:List (List α)) (x:List α) (h:g.length=l.length):BL (g++[a]) (l++[x])=BL g l++[.slice a.p x.length a.c]:=by
 unfold BL;rw[List.zipWith_append h];rfl
theorem Cl {α:Type} (g:List SG) (l:List (List α)) (h:g.length=l.length):(BL g l).length=l.length:=by
 unfold BL;simp[h]
end Go.Proofs.YtpdfifdlhpmofaaGreatDoor
