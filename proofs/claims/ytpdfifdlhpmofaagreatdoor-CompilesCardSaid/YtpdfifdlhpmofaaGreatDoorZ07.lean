/-
  Part 7 of the proof, packed by program out of O2.
-/
import Derived.Test.YtpdfifdlhpmofaaGreatDoorZ05
import Derived.Test.YtpdfifdlhpmofaaGreatDoorZ06
set_option linter.unusedVariables false
set_option linter.unusedSimpArgs false
set_option maxHeartbeats 3200000
set_option maxRecDepth 100000
namespace Go.Proofs.YtpdfifdlhpmofaaGreatDoor
open Go.RowKit
open Go.Lib (hid)
theorem BP {w:World} {e:TypeId} {s n cap g:Nat} {xs:List Value} (h:w.ownsRow 0 e s (.slice (some ⟨g,0,none⟩) n cap) n xs):(∀i,(hi:i < xs.length)→w.cell? ⟨g,i,none⟩=some xs[i])∧(∀i,w.frozen? ⟨g,i,none⟩=false)∧g < w.heap.size:=by
 obtain⟨hl,⟨hv,h0⟩ | ⟨g',cap',cur,hv,h1,h2,h3,h4,h5,h6⟩⟩:=h
 ·cases hv
 ·cases hv;refine⟨fun i hi=> ?_,fun i=>BR.free (c:=cur) (T:=e) h2 i,BA h2⟩;rw[BR.cell (c:=cur) (T:=e) h2];subst h6;rw[List.getElem_take];simp only[List.length_take,Array.length_toList] at hi;rw[Array.getElem?_eq_getElem (by omega)];simp
theorem BY {P:Program} {Bq:Array Oper} {o:Oper} {a:Act} {K:Act→World→Prop} {Q:Exit→Act→World→Prop} {E:Prop} {w:World} {L:List Ob} {k:Nat} {e:TypeId} {v:Value} {size n:Nat} {xs:List Value} (bytes:Nat) (s x:Operand) (t:TypeId) (i:TypeInfo) (z:Value) (cs:Array Value) (te:TypeId)
  (hL:AK w L) (hk:L[k]?=some (.row v e size n xs))
  (oO:o.guard=none) (ho:o.op= .call {callee:= .builtin .append,args:= #[s,x],argTypes:= #[t,t]})
  (ht:P.underlying t=some (.slice e)) (hi:P.info? e=some i) (hz:i.zero=some z) (Sd:i.size=size) (o4:i.bytes=bytes) (nR:z.cells.size=size) (GK:0 < size)
  (hs:a.eval s=v) (hx:a.eval x= .slice (some ⟨w.heap.size,0,none⟩) 1 1) (hl:cs.size=size) (h1:∀u∈cs.toList,u.oneCell'=true)
  (ly:n+1≤maxLen) (NH:(n+1)*bytes≤140737488355328)
  (h:∀g cap w',Ad w L w' (L.set k (.row (.slice (some ⟨g,0,none⟩) (n+1) cap) e size (n+1) (xs++cs.toList)))→(∀b,b < w.heap.size→some b≠v.ownBlock→w'.heap[b]?=w.heap[b]?)→K (a.put o.dst (.slice (some ⟨g,0,none⟩) (n+1) cap)) w'):
  if Region.wanted o (yielded Bq a.tmps)=true then Oper.wp P o a (w.alloc (.cells cs te)).drew K Q else E:=by
 have Hf:=hL.row hk;have Si:(w.alloc (.cells cs te)).drew.heap[w.heap.size]?=some (.cells cs te (0,0)):=BR.new w cs te;have Sb:(w.alloc (.cells cs te)).drew.heap.size=w.heap.size+1:=by show(w.heap.push _).size=_;simp
 refine step_append_lies _ oO s x t ho 0 e i z size bytes ht hi hz Sd o4 nR GK v n xs hs (I2 (DJ Hf _)) ⟨w.heap.size,0,none⟩ 1 1 cs.toList hx (by simpa using hl) (World.news_of_block Si) h1 (by omega) ly NH (Nat.zero_le _) (w.heap.size+1) Sb ?_;intro g cap w' CN Eb Fh Bi;have s1:Ad w L (w.alloc (.cells cs te)).drew L:=(Ad.alloc hL (.cells cs te)).trans (Ad.drew (Ad.alloc hL _).Al);refine h g cap w' (s1.trans (s1.Al.grow hk CN Eb ?_)) fun b hb hv=> ?_
 ·rcases Fh with h | h
  ·exact .inl h
  ·exact .inr (by rw[Sb];omega)
 ·rw[Eb.block b (by rw[Sb];omega) hv];exact Below.heap_alloc w (.cells cs te) b hb
theorem CH {P:Program} {Bq:Array Oper} {rest:List Oper} {o:Oper} {a:Act} {Q:Exit→Act→World→Prop} {w:World} {L:List Ob} {k:Nat} {e:TypeId} {v:Value} {size n:Nat} {xs:List Value} (bytes:Nat) (s x:Operand) (t:TypeId) (i:TypeInfo) (z:Value) (cs:Array Value) (te:TypeId)
  (hL:AK w L) (hk:L[k]?=some (.row v e size n xs))
  (oO:o.guard=none) (ho:o.op= .call {callee:= .builtin .append,args:= #[s,x],argTypes:= #[t,t]})
  (ht:P.underlying t=some (.slice e)) (hi:P.info? e=some i) (hz:i.zero=some z) (Sd:i.size=size) (o4:i.bytes=bytes) (nR:z.cells.size=size) (GK:0 < size)
  (hs:a.eval s=v) (hx:a.eval x= .slice (some ⟨w.heap.size,0,none⟩) 1 1) (hl:cs.size=size) (h1:∀u∈cs.toList,u.oneCell'=true)
  (ly:n+1≤maxLen) (NH:(n+1)*bytes≤140737488355328)
  (h:∀g cap w',Ad w L w' (L.set k (.row (.slice (some ⟨g,0,none⟩) (n+1) cap) e size (n+1) (xs++cs.toList)))→(∀b,b < w.heap.size→some b≠v.ownBlock→w'.heap[b]?=w.heap[b]?)→wpList P Bq Q rest (a.put o.dst (.slice (some ⟨g,0,none⟩) (n+1) cap)) w'):
  wpList P Bq Q (o::rest) a (w.alloc (.cells cs te)):=by
 have Hf:=hL.row hk;have Si:(w.alloc (.cells cs te)).heap[w.heap.size]?=some (.cells cs te (0,0)):=BR.new w cs te;have Sb:(w.alloc (.cells cs te)).heap.size=w.heap.size+1:=by show(w.heap.push _).size=_;simp
 refine wpList_append_lies _ oO s x t ho 0 e i z size bytes ht hi hz Sd o4 nR GK v n xs hs (DJ Hf _) ⟨w.heap.size,0,none⟩ 1 1 cs.toList hx (by simpa using hl) (World.news_of_block Si) h1 (by omega) ly NH (Nat.zero_le _) (w.heap.size+1) Sb ?_;intro g cap w' CN Eb Fh Bi;have s1:Ad w L (w.alloc (.cells cs te)) L:=Ad.alloc hL (.cells cs te);refine h g cap w' (s1.trans (s1.Al.grow hk CN Eb ?_)) fun b hb hv=> ?_
 ·rcases Fh with h | h
  ·exact .inl h
  ·exact .inr (by rw[Sb];omega)
 ·rw[Eb.block b (by rw[Sb];omega) hv];exact Below.heap_alloc w (.cells cs te) b hb
theorem Ic {P:Program} {Bq:Array Oper} {rest:List Oper} {o:Oper} {a:Act} {Q:Exit→Act→World→Prop} {w:World} {L:List Ob} {k:Nat} {e:TypeId} {v:Value} {size n:Nat} {xs:List Value} (bytes:Nat) (s x:Operand) (t:TypeId) (i:TypeInfo) (z:Value) (cs:Array Value) (te:TypeId) (H:Nat) (hH:w.heap.size=H)
  (hL:AK w L) (hk:L[k]?=some (.row v e size n xs))
  (oO:o.guard=none) (ho:o.op= .call {callee:= .builtin .append,args:= #[s,x],argTypes:= #[t,t]})
  (ht:P.underlying t=some (.slice e)) (hi:P.info? e=some i) (hz:i.zero=some z) (Sd:i.size=size) (o4:i.bytes=bytes) (nR:z.cells.size=size) (GK:0 < size)
  (hs:a.eval s=v) (hx:a.eval x= .slice (some ⟨H,0,none⟩) 1 1) (hl:cs.size=size) (h1:∀u∈cs.toList,u.oneCell'=true)
  (ly:n+1≤maxLen) (NH:(n+1)*bytes≤140737488355328)
  (h:∀g cap w',Ad w L w' (L.set k (.row (.slice (some ⟨g,0,none⟩) (n+1) cap) e size (n+1) (xs++cs.toList)))→(∀b,b < w.heap.size→some b≠v.ownBlock→w'.heap[b]?=w.heap[b]?)→wpList P Bq Q rest (a.put o.dst (.slice (some ⟨g,0,none⟩) (n+1) cap)) w'):
  wpList P Bq Q (o::rest) a (w.alloc (.cells cs te)):=by
 subst hH;exact CH bytes s x t i z cs te hL hk oO ho ht hi hz Sd o4 nR GK hs hx hl h1 ly NH h
theorem Rj {P:Program} {Bq:Array Oper} {o:Oper} {a:Act} {K:Act→World→Prop} {Q:Exit→Act→World→Prop} {E:Prop} {w:World} {L:List Ob} {k:Nat} {e:TypeId} {v:Value} {size n:Nat} {xs:List Value} (bytes:Nat) (s x:Operand) (t:TypeId) (i:TypeInfo) (z:Value) (cs:Array Value) (te:TypeId) (nb:Nat)
  (hL:AK w L) (hk:L[k]?=some (.row v e size n xs)) (Si:w.heap[nb]?=some (.cells cs te (0,0)))
  (oO:o.guard=none) (ho:o.op= .call {callee:= .builtin .append,args:= #[s,x],argTypes:= #[t,t]})
  (ht:P.underlying t=some (.slice e)) (hi:P.info? e=some i) (hz:i.zero=some z) (Sd:i.size=size) (o4:i.bytes=bytes) (nR:z.cells.size=size) (GK:0 < size)
  (hs:a.eval s=v) (hx:a.eval x= .slice (some ⟨nb,0,none⟩) 1 1) (hl:cs.size=size) (h1:∀u∈cs.toList,u.oneCell'=true)
  (ly:n+1≤maxLen) (NH:(n+1)*bytes≤140737488355328)
  (h:∀g cap w',Ad w L w' (L.set k (.row (.slice (some ⟨g,0,none⟩) (n+1) cap) e size (n+1) (xs++cs.toList)))→(∀b,b < w.heap.size→some b≠v.ownBlock→w'.heap[b]?=w.heap[b]?)→K (a.put o.dst (.slice (some ⟨g,0,none⟩) (n+1) cap)) w'):
  if Region.wanted o (yielded Bq a.tmps)=true then Oper.wp P o a w K Q else E:=by
 have Hf:=hL.row hk;refine step_append_lies _ oO s x t ho 0 e i z size bytes ht hi hz Sd o4 nR GK v n xs hs Hf ⟨nb,0,none⟩ 1 1 cs.toList hx (by simpa using hl) (World.news_of_block Si) h1 (by omega) ly NH (Nat.zero_le _) w.heap.size rfl ?_;intro g cap w' CN Eb Fh Bi;refine h g cap w' (hL.grow hk CN Eb ?_) fun b hb hv=>Eb.block b hb hv
 rcases Fh with h | h
 ·exact .inl h
 ·exact .inr (by omega)
theorem BR.of_heap {w w':World} {b:Nat} {c:Array Value} {T:TypeId} (h:BR w b c T) (k:w'.heap[b]?=w.heap[b]?):BR w' b c T:=k.trans h
theorem AK.take {w:World} {L:List Ob} {i g n cap:Nat} {e:TypeId} {size:Nat} {xs:List Value} (h:AK w L) (hi:L[i]?=some (.row (.slice (some ⟨g,0,none⟩) n cap) e size n xs)) (k:Nat) (hk:k≤n):
  Ad w L w (L.set i (.row (.slice (some ⟨g,0,none⟩) k cap) e size k (xs.take (k*size)))):=
 h.swap hi (Av.refl _ _) (Vn (h.get hi) k hk) (by simp[Ob.fp,Value.ownBlock]) (fun b hb=> .inl (by simpa[Ob.fp,Value.ownBlock] using hb))
end Go.Proofs.YtpdfifdlhpmofaaGreatDoor
