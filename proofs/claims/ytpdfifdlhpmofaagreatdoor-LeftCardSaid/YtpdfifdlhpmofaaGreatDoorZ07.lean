/-
  Part 7 of the proof.
-/
import Derived.Test.YtpdfifdlhpmofaaGreatDoorZ05
import Derived.Test.YtpdfifdlhpmofaaGreatDoorZ06
import Derived.Test.YtpdfifdlhpmofaaGreatDoorZ02
set_option linter.unusedVariables false
set_option linter.unusedSimpArgs false
set_option maxHeartbeats 3200000
set_option maxRecDepth 100000
namespace Go.Proofs.YtpdfifdlhpmofaaGreatDoor
open Go.RowKit Tryz
open Go.Lib (hid)
theorem maX {p:Prop} (h:p:=by
 refine h g cap w' (s1.trans (s1.Am.grow hk Ct EC ?_)) fun b hb hv=> ?_
 ·rcases FA with h | h
  ·exact .inl h
  ·exact .inr (by rw[Wz];omega)
 ·rw[EC.block b (by rw[Wz];omega) hv];exact Below.heap_alloc w (.cells cs te) b hb):p:=h
variable {w:World} {e:TypeId} {n cap g k size:Nat} {xs:List Value} {P:Program} {Bh:Array Oper} {o:Oper} {a:Act} {K:Act->World->Prop} {Q:Exit->Act->World->Prop} {E:Prop} {L:List Ob} {v:Value} {rest:List Oper}
theorem Bm {s:Nat} (h:w.ownsRow 0 e s (.slice (some ⟨g,0,none⟩) n cap) n xs):(∀i,(hi:i < xs.length)->w.cell? ⟨g,i,none⟩=some xs[i])/\(∀i,w.frozen? ⟨g,i,none⟩=false)/\g < w.heap.size:=by
 obtain⟨hl,⟨hv,h0⟩ | ⟨g',cap',cur,hv,h1,h2,h3,h4,h5,h6⟩⟩:=h
 ·cases hv
 ·cases hv;refine⟨fun i hi=> ?_,fun i=>BM.free (c:=cur) (T:=e) h2 i,BA h2⟩;rw[BM.cell (c:=cur) (T:=e) h2];subst h6;rw[List.getElem_take];simp only[Qcv,Qdk] at hi;rw[Array.getElem?_eq_getElem Y];simp
theorem B5 (bytes:Nat) (s x:Operand) (t:TypeId) (i:TypeInfo) (z:Value) (cs:Array Value) (te:TypeId)
  (hL:Az w L) (hk:L[k]?=some (.row v e size n xs))
  (hgd:o.guard=none) (ho:o.op= .call {callee:= .builtin .append,args:= #[s,x],argTypes:= #[t,t]})
  (ht:P.underlying t=some (.slice e)) (hi:P.info? e=some i) (hz:i.zero=some z) (WB:i.size=size) (hby:i.bytes=bytes) (hzs:z.cells.size=size) (Ia:0 < size)
  (hs:a.eval s=v) (hx:a.eval x= .slice (some ⟨w.heap.size,0,none⟩) 1 1) (hl:cs.size=size) (h1:∀u∈cs.toList,u.oneCell'=true)
  (zD:n+1<=maxLen) (QH:(n+1)*bytes<=140737488355328)
  (h:∀g cap w',Ak w L w' (L.set k (.row (.slice (some ⟨g,0,none⟩) (n+1) cap) e size (n+1) (xs++cs.toList)))->(∀b,b < w.heap.size->some b≠v.ownBlock->w'.heap[b]?=w.heap[b]?)->K (a.put o.dst (.slice (some ⟨g,0,none⟩) (n+1) cap)) w'):
  if Region.wanted o (yielded Bh a.tmps)=true then Oper.wp P o a (w.alloc (.cells cs te)).drew K Q else E:=by
 have IN:=hL.row hk;have RU:(w.alloc (.cells cs te)).drew.heap[w.heap.size]?=some (.cells cs te (0,0)):=BM.new w cs te;have Wz:(w.alloc (.cells cs te)).drew.heap.size=w.heap.size+1:=by show(w.heap.push _).size=_;simp
 refine step_append_lies _ hgd s x t ho 0 e i z size bytes ht hi hz WB hby hzs Ia v n xs hs (J9 (D7 IN _)) ⟨w.heap.size,0,none⟩ 1 1 cs.toList hx (by simpa using hl) (Qb5 RU) h1 Y zD QH (d6 _) (w.heap.size+1) Wz ?_;intro g cap w' Ct EC FA AX;have s1:Ak w L (w.alloc (.cells cs te)).drew L:=(Ak.alloc hL (.cells cs te)).trans (Ak.drew (Ak.alloc hL _).Am);exact maX
theorem B6 (bytes:Nat) (s x:Operand) (t:TypeId) (i:TypeInfo) (z:Value) (cs:Array Value) (te:TypeId)
  (hL:Az w L) (hk:L[k]?=some (.row v e size n xs))
  (hgd:o.guard=none) (ho:o.op= .call {callee:= .builtin .append,args:= #[s,x],argTypes:= #[t,t]})
  (ht:P.underlying t=some (.slice e)) (hi:P.info? e=some i) (hz:i.zero=some z) (WB:i.size=size) (hby:i.bytes=bytes) (hzs:z.cells.size=size) (Ia:0 < size)
  (hs:a.eval s=v) (hx:a.eval x= .slice (some ⟨w.heap.size,0,none⟩) 1 1) (hl:cs.size=size) (h1:∀u∈cs.toList,u.oneCell'=true)
  (zD:n+1<=maxLen) (QH:(n+1)*bytes<=140737488355328)
  (h:∀g cap w',Ak w L w' (L.set k (.row (.slice (some ⟨g,0,none⟩) (n+1) cap) e size (n+1) (xs++cs.toList)))->(∀b,b < w.heap.size->some b≠v.ownBlock->w'.heap[b]?=w.heap[b]?)->wpList P Bh Q rest (a.put o.dst (.slice (some ⟨g,0,none⟩) (n+1) cap)) w'):
  wpList P Bh Q (o::rest) a (w.alloc (.cells cs te)):=by
 have IN:=hL.row hk;have RU:(w.alloc (.cells cs te)).heap[w.heap.size]?=some (.cells cs te (0,0)):=BM.new w cs te;have Wz:(w.alloc (.cells cs te)).heap.size=w.heap.size+1:=by show(w.heap.push _).size=_;simp
 refine wpList_append_lies _ hgd s x t ho 0 e i z size bytes ht hi hz WB hby hzs Ia v n xs hs (D7 IN _) ⟨w.heap.size,0,none⟩ 1 1 cs.toList hx (by simpa using hl) (Qb5 RU) h1 Y zD QH (d6 _) (w.heap.size+1) Wz ?_;intro g cap w' Ct EC FA AX;have s1:Ak w L (w.alloc (.cells cs te)) L:=Ak.alloc hL (.cells cs te);exact maX
theorem Jb (bytes:Nat) (s x:Operand) (t:TypeId) (i:TypeInfo) (z:Value) (cs:Array Value) (te:TypeId) (H:Nat) (hH:w.heap.size=H)
  (hL:Az w L) (hk:L[k]?=some (.row v e size n xs))
  (hgd:o.guard=none) (ho:o.op= .call {callee:= .builtin .append,args:= #[s,x],argTypes:= #[t,t]})
  (ht:P.underlying t=some (.slice e)) (hi:P.info? e=some i) (hz:i.zero=some z) (WB:i.size=size) (hby:i.bytes=bytes) (hzs:z.cells.size=size) (Ia:0 < size)
  (hs:a.eval s=v) (hx:a.eval x= .slice (some ⟨H,0,none⟩) 1 1) (hl:cs.size=size) (h1:∀u∈cs.toList,u.oneCell'=true)
  (zD:n+1<=maxLen) (QH:(n+1)*bytes<=140737488355328)
  (h:∀g cap w',Ak w L w' (L.set k (.row (.slice (some ⟨g,0,none⟩) (n+1) cap) e size (n+1) (xs++cs.toList)))->(∀b,b < w.heap.size->some b≠v.ownBlock->w'.heap[b]?=w.heap[b]?)->wpList P Bh Q rest (a.put o.dst (.slice (some ⟨g,0,none⟩) (n+1) cap)) w'):
  wpList P Bh Q (o::rest) a (w.alloc (.cells cs te)):=by
 subst hH;exact B6 bytes s x t i z cs te hL hk hgd ho ht hi hz WB hby hzs Ia hs hx hl h1 zD QH h
theorem VK (bytes:Nat) (s x:Operand) (t:TypeId) (i:TypeInfo) (z:Value) (cs:Array Value) (te:TypeId) (nb:Nat)
  (hL:Az w L) (hk:L[k]?=some (.row v e size n xs)) (RU:w.heap[nb]?=some (.cells cs te (0,0)))
  (hgd:o.guard=none) (ho:o.op= .call {callee:= .builtin .append,args:= #[s,x],argTypes:= #[t,t]})
  (ht:P.underlying t=some (.slice e)) (hi:P.info? e=some i) (hz:i.zero=some z) (WB:i.size=size) (hby:i.bytes=bytes) (hzs:z.cells.size=size) (Ia:0 < size)
  (hs:a.eval s=v) (hx:a.eval x= .slice (some ⟨nb,0,none⟩) 1 1) (hl:cs.size=size) (h1:∀u∈cs.toList,u.oneCell'=true)
  (zD:n+1<=maxLen) (QH:(n+1)*bytes<=140737488355328)
  (h:∀g cap w',Ak w L w' (L.set k (.row (.slice (some ⟨g,0,none⟩) (n+1) cap) e size (n+1) (xs++cs.toList)))->(∀b,b < w.heap.size->some b≠v.ownBlock->w'.heap[b]?=w.heap[b]?)->K (a.put o.dst (.slice (some ⟨g,0,none⟩) (n+1) cap)) w'):
  if Region.wanted o (yielded Bh a.tmps)=true then Oper.wp P o a w K Q else E:=by
 have IN:=hL.row hk;refine step_append_lies _ hgd s x t ho 0 e i z size bytes ht hi hz WB hby hzs Ia v n xs hs IN ⟨nb,0,none⟩ 1 1 cs.toList hx (by simpa using hl) (Qb5 RU) h1 Y zD QH (d6 _) w.heap.size rfl ?_;intro g cap w' Ct EC FA AX;refine h g cap w' (hL.grow hk Ct EC ?_) fun b hb hv=>EC.block b hb hv
 rcases FA with h | h
 ·exact .inl h
 ·exact .inr Y
theorem BM.of_heap {w':World} {b:Nat} {c:Array Value} {T:TypeId} (h:BM w b c T) (k:w'.heap[b]?=w.heap[b]?):BM w' b c T:=k.trans h
theorem Az.take {i:Nat} (h:Az w L) (hi:L[i]?=some (.row (.slice (some ⟨g,0,none⟩) n cap) e size n xs)) (k:Nat) (hk:k<=n):
  Ak w L w (L.set i (.row (.slice (some ⟨g,0,none⟩) k cap) e size k (xs.take (k*size)))):=
 h.swap hi (Av.refl _ _) (aC (h.get hi) k hk) (by simp[Ob.fp,Value.ownBlock]) (fun b hb=> .inl (by simpa[Ob.fp,Value.ownBlock] using hb))
def Yk (w:World):Prop:=w.cell? ⟨0,0,none⟩=some (.iface 213 (.agg #[.pointer (some ⟨10,85,none⟩)]))
theorem xP (w:World):Calls prog 34 #[.nilIface] w fun e w'=>e= .returned (.tuple #[i5 0,i5 0])/\Av [] w w':=by
 go_enter func34,ntmps34;go_wp2;go_ret2;exact⟨rfl,((Av.refl _ _).alloc _).alloc _⟩
theorem gk (fb:Nat) (c n:Int) (w:World) (h:BM w fb #[i5 c,i5 n] 127) (hg:Yk w):
  Calls prog 34 #[.iface 123 (i6 fb)] w fun e w'=>e= .returned (.tuple #[i5 c,i5 n])/\Av [] w w':=by
 have m1:Av [] w ((w.alloc (.cells #[.pointer none] 123)).alloc (.cells #[i5 0] 58)):=((Av.refl _ _).alloc _).alloc _;have J2:BM ((w.alloc (.cells #[.pointer none] 123)).alloc (.cells #[i5 0] 58)) w.heap.size #[.pointer none] 123:=(BM.new w _ _).alloc _;have Has:=hid (AcD ⟨fb,0,none⟩ ⟨w.heap.size,0,none⟩ (.pointer none) ((w.alloc (.cells #[.pointer none] 123)).alloc (.cells #[i5 0] 58)) (AU m1 hg) (J2.cell 0) (J2.free 0));have H:=hid h;have LD:=hid m1;have Ps:=hid J2;clear m1 J2 hg h;go_enter func34,ntmps34;go_wp2_with fail;refine(Has.mono (R':=fun e w'=>e= .returned (.bool true)/\Av [] w w'/\BM w' w.heap.size #[i6 fb] 123) ?_).mono ?_
 ·rintro e w' ⟨rfl,rfl⟩;refine⟨rfl,((((LD.alloc _).alloc _).alloc _).alloc _).setCell (.inr (LE _)) _,?_⟩;exact((((Ps.alloc _).alloc _).alloc _).alloc _).set 0 _
 intro e w2 he;obtain⟨II,C4,QI⟩:=he;subst II;have hf:=H.Bf C4 EQ;have c0:=hf.cell 0;have c1:=hf.cell 1;have t0:=QI.cell 0;have Ik:=hid C4;clear hf QI C4;go_upto_region 6 with fail
 refine Ap (l:=[(0,true),(1,true),(2,true),(3,true),(4,true),(5,true),(6,true),(7,true),(8,true),(9,false)]) (fun W=>W.cell? ⟨w.heap.size,0,none⟩=some (i6 fb)/\W.cell? ⟨fb,0,none⟩=some (i5 c)/\W.cell? ⟨fb,1,none⟩=some (i5 n)) 9 ⟨t0,c0,c1⟩ ?_;refine detE ?_;intro K hK;refine hK _ _ (fun h=>UV rfl h) ?_;clear hK;simp only[BB];go_wp2;go_ret2;exact⟨rfl,Ik.drew⟩
end Go.Proofs.YtpdfifdlhpmofaaGreatDoor
