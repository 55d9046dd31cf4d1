/-
  Part 18 of the proof, packed by program out of G12, G8.
-/
import Derived.Test.YtpdfifdlhpmofaaGreatDoorZ17
set_option linter.unusedVariables false
set_option linter.unusedSimpArgs false
set_option maxHeartbeats 3200000
set_option maxRecDepth 100000
namespace Go.Proofs.YtpdfifdlhpmofaaGreatDoor
open Go.RowKit
open Go.Lib (hid)
theorem Ba.ma {w:World} {L:List Ob} {F:List (Nat×Obj)} {b:Nat} {c:Array Value} {T:TypeId} (h:Ba w L ((b,Obj.cells c T (0,0))::F)) (hf:∀q o,(q,o)∈F→q≠b) (i:Nat) (v:Value):
  Ba (w.setCell ⟨b,i,none⟩ v) L ((b,Obj.cells (c.setIfInBounds i v) T (0,0))::F):=by
 refine⟨fun q o hq=> ?_,fun q o hq=> ?_⟩
 ·rcases List.mem_cons.1 hq with hq | hq
  ·cases hq;exact BR.set (h.heap b _ (List.mem_cons_self ..)) i v
  ·exact((Av.refl [b] w).setCell (.inl (by simp)) v).heap (h.heap q o (List.mem_cons_of_mem _ hq)) (by simp[hf q o hq])
 ·rcases List.mem_cons.1 hq with hq | hq
  ·cases hq;exact h.out b _ (List.mem_cons_self ..)
  ·exact h.out q o (List.mem_cons_of_mem _ hq)
theorem fO (v:Int) (op:ByteArray) (a b:At) (F:List (Nat×Obj)) (p:Nat) (w:World) (g:MG) (G:GS) (h:AK w (g.Ax G)) (hK:Ba w (g.Ax G) F) (hF:(p,Obj.cells #[.int .i64 v,.string op,.bool a.AL,.int .i64 a.v,.bool b.AL,.int .i64 b.v] 238 (0,0))∈F) (hn:G.Af.length≤998000) (ha:g.av.length≤G.Af.length) (Gd:Ap G.Ah) (hv:0≤v∧v < 4) (rJ:Gn a) (cO:Gn b) (II:op.size=0):
  Calls Tryz.prog 104 #[.pointer (some ⟨g.mb,0,none⟩),.iface 233 (.pointer (some ⟨p,0,none⟩))] w (Te (.tuple #[]) (GS.BX (.set v op a b .nil) G) g G w):=by
 have H:=hid h;have hb:=hid Gd;have HK:=hid hK;have HF:=hid hF;clear h Gd hK hF;have ta0:=Rc;go_enter Tryz.func104,Tryz.ntmps104;have S:=hid (Ad.refl H.out);have K:=hid (HK.out);have JD:=GS.DT G a 1;have hq:(op.toList==[])=true:=by rw[ByteArray.toList_eq];have:op.data= #[]:=Array.size_eq_zero_iff.1 II;rw[this];rfl
 have lX:=hid II;clear II;obtain⟨Au,AQ⟩:=K.out.cl p #[.int .i64 v,.string op,.bool a.AL,.int .i64 a.v,.bool b.AL,.int .i64 b.v] 238 (by first | exact HF.out | simp[HF.out]);go_wp2_with fail;clear Au AQ;refine(EZ a 1 _ {g with c:=g.c} G S.out.Al (by (try simp only[BH]);omega) hb.out rJ).mono ?_;rintro e w1 ⟨rfl,c2,st⟩;replace K:=hid (K.out.step st);replace S:=hid (S.out.trans st);clear st;replace hb:=hid (Ap.eq hb.out (GS.EH G a 1));obtain⟨Au,AQ⟩:=K.out.cl p #[.int .i64 v,.string op,.bool a.AL,.int .i64 a.v,.bool b.AL,.int .i64 b.v] 238 (by first | exact HF.out | simp[HF.out]);go_upto_region 7 with fail
 clear Au AQ;have Xi:=fun q o (hq:(q,o)∈F)=>Nat.ne_of_lt (K.out.lt hq)
 have oe:=S.out.Bh.size;replace K:=hid (K.out.new S.out.Al (.cells #[.bool (GS.As a 1).BF,.int .i64 (GS.As a 1).v] 264));replace S:=hid (S.out.trans (Ad.alloc S.out.Al (.cells #[.bool (GS.As a 1).BF,.int .i64 (GS.As a 1).v] 264)));have hxv:IntKind.i64.wrap (0+v)=v:=by rw[IntWalk.i64_in _ (by omega)];omega
 have uR:IntKind.i64.wrap v=v:=IntWalk.i64_in _ (by omega);replace K:=hid (K.out.step (Ad.drew S.out.Al));replace S:=hid (S.out.trans (Ad.drew S.out.Al));have Au:∀i:Nat,World.cell? (World.drew (World.alloc w1 (.cells #[.bool (GS.As a 1).BF,.int .i64 (GS.As a 1).v] 264))) ⟨p,i,none⟩=(#[.int .i64 v,.string op,.bool a.AL,.int .i64 a.v,.bool b.AL,.int .i64 b.v]:Array Value)[i]?:=K.out.cell (c:= #[.int .i64 v,.string op,.bool a.AL,.int .i64 a.v,.bool b.AL,.int .i64 b.v]) (T:=238) (by first | exact HF.out | simp[HF.out]);have Bl:∀i:Nat,World.cell? (World.drew (World.alloc w1 (.cells #[.bool (GS.As a 1).BF,.int .i64 (GS.As a 1).v] 264))) ⟨w1.heap.size,i,none⟩=(#[.bool (GS.As a 1).BF,.int .i64 (GS.As a 1).v]:Array Value)[i]?:=K.out.cell (c:= #[.bool (GS.As a 1).BF,.int .i64 (GS.As a 1).v]) (T:=264) (by simp);refine Ao (l:=[(0,true),(1,true),(2,true),(3,true),(4,true),(5,true),(6,true),(8,true),(7,false),(9,false)]) (fun W=>W.cell? ⟨p,0,none⟩=some (.int .i64 v)∧W.cell? ⟨w1.heap.size,0,none⟩=some (.bool (GS.As a 1).BF)∧W.cell? ⟨w1.heap.size,1,none⟩=some (.int .i64 (GS.As a 1).v)) 9 (by kernel_rfl) (by kernel_rfl) (by kernel_rfl) (by kernel_rfl) (by kernel_rfl) (fun c a d v w h=>by cases d <;>exact h) ?_ ?_
 ·exact⟨Au 0,Bl 0,Bl 1⟩
 clear Au Bl;repeat
  refine Ak (v:= ?_) rfl rfl rfl (fun W hW=> ?_) ?_;rotate_left
  ·obtain⟨s1,s2,s3⟩:=hW;go_simp;rfl
  simp only[Bo]
 refine Ab rfl (fun Kq Bp=> ?_);go_simp;refine(Co v _ {g with c:=c2} (GS.AH G a 1) S.out.Al (Ch (k:=v) hb.out (by omega))).mono ?_;rintro e w3 ⟨rfl,hm⟩;replace K:=hid (K.out.step (Ad.quiet S.out.Al hm));replace S:=hid (S.out.trans (Ad.quiet S.out.Al hm));clear hm;have Au:=(K.out.cl p #[.int .i64 v,.string op,.bool a.AL,.int .i64 a.v,.bool b.AL,.int .i64 b.v] 238 (by first | exact HF.out | simp[HF.out])).1;have Bl:=(K.out.cl w1.heap.size #[.bool (GS.As a 1).BF,.int .i64 (GS.As a 1).v] 264 (by simp)).1;refine Bp _ _ (fun _=>⟨Au 0,Bl 0,Bl 1⟩) ?_;clear Bp;clear Au Bl;repeat
  refine Ak (v:= ?_) rfl rfl rfl (fun W hW=> ?_) ?_;rotate_left
  ·obtain⟨s1,s2,s3⟩:=hW;go_simp;rfl
  simp only[Bo]
 refine Ab rfl (fun Kq Bp=> ?_);go_simp;refine(BM (.n (GS.Ah (GS.AH G a 1)+v)) 0 (GS.As a 1) _ {g with c:=c2} (GS.AH G a 1) S.out.Al (by (try simp only[BH]);omega)).mono ?_;rintro e w4 ⟨rfl,c5,st⟩;dsimp only at st;replace K:=hid (K.out.step st);replace S:=hid (S.out.trans st);clear st;replace hb:=hid (Ap.eq hb.out (GS.EB (GS.AH G a 1) v (GS.As a 1)));refine Bp _ _ (fun h=>absurd rfl h) ?_;clear Bp;simp only[A0];obtain⟨Au,AQ⟩:=K.out.cl p #[.int .i64 v,.string op,.bool a.AL,.int .i64 a.v,.bool b.AL,.int .i64 b.v] 238 (by first | exact HF.out | simp[HF.out]);obtain⟨Bl,De⟩:=K.out.cl w1.heap.size #[.bool (GS.As a 1).BF,.int .i64 (GS.As a 1).v] 264 (by simp);go_wp2_with fail;clear Au AQ Bl De
 go_end0
 rw[show GS.BX (.set v op a b .nil) G=(GS.st (GS.AH G a 1) v (GS.As a 1)) by simp[GS.BX,lX.out]];exact⟨rfl,c5,S.out⟩
theorem fN (v:Int) (op:ByteArray) (a b:At) (F:List (Nat×Obj)) (p:Nat) (w:World) (g:MG) (G:GS) (h:AK w (g.Ax G)) (hK:Ba w (g.Ax G) F) (hF:(p,Obj.cells #[.int .i64 v,.string op,.bool a.AL,.int .i64 a.v,.bool b.AL,.int .i64 b.v] 238 (0,0))∈F) (hn:G.Af.length≤998000) (ha:g.av.length≤G.Af.length) (Gd:Ap G.Ah) (hv:0≤v∧v < 4) (rJ:Gn a) (cO:Gn b) (II:¬op.size=0):
  Calls Tryz.prog 104 #[.pointer (some ⟨g.mb,0,none⟩),.iface 233 (.pointer (some ⟨p,0,none⟩))] w (Te (.tuple #[]) (GS.BX (.set v op a b .nil) G) g G w):=by
 have H:=hid h;have hb:=hid Gd;have HK:=hid hK;have HF:=hid hF;clear h Gd hK hF;have ta0:=Rc;go_enter Tryz.func104,Tryz.ntmps104;have S:=hid (Ad.refl H.out);have K:=hid (HK.out);have JD:=GS.DT G a 1;have hq:(op.toList==[])=false:=by
  rw[ByteArray.toList_eq,beq_eq_false_iff_ne];intro h';apply II;have:op.data.toList.length=0:=by rw[h'];rfl
  simpa using this
 have lX:=hid II;clear II;obtain⟨Au,AQ⟩:=K.out.cl p #[.int .i64 v,.string op,.bool a.AL,.int .i64 a.v,.bool b.AL,.int .i64 b.v] 238 (by first | exact HF.out | simp[HF.out]);go_wp2_with fail;clear Au AQ;refine(EZ a 1 _ {g with c:=g.c} G S.out.Al (by (try simp only[BH]);omega) hb.out rJ).mono ?_;rintro e w1 ⟨rfl,c2,st⟩;replace K:=hid (K.out.step st);replace S:=hid (S.out.trans st);clear st;replace hb:=hid (Ap.eq hb.out (GS.EH G a 1));obtain⟨Au,AQ⟩:=K.out.cl p #[.int .i64 v,.string op,.bool a.AL,.int .i64 a.v,.bool b.AL,.int .i64 b.v] 238 (by first | exact HF.out | simp[HF.out]);go_upto_region 5 with fail
 clear Au AQ;have Xi:=fun q o (hq:(q,o)∈F)=>Nat.ne_of_lt (K.out.lt hq)
 have oe:=S.out.Bh.size;replace K:=hid (K.out.new S.out.Al (.cells #[.bool (GS.As a 1).BF,.int .i64 (GS.As a 1).v] 264));replace S:=hid (S.out.trans (Ad.alloc S.out.Al (.cells #[.bool (GS.As a 1).BF,.int .i64 (GS.As a 1).v] 264)));have Na:=GS.DT (G.AH a 1) b 2;replace K:=hid (K.out.step (Ad.drew S.out.Al));replace S:=hid (S.out.trans (Ad.drew S.out.Al));have Au:∀i:Nat,World.cell? (World.drew (World.alloc w1 (.cells #[.bool (GS.As a 1).BF,.int .i64 (GS.As a 1).v] 264))) ⟨p,i,none⟩=(#[.int .i64 v,.string op,.bool a.AL,.int .i64 a.v,.bool b.AL,.int .i64 b.v]:Array Value)[i]?:=K.out.cell (c:= #[.int .i64 v,.string op,.bool a.AL,.int .i64 a.v,.bool b.AL,.int .i64 b.v]) (T:=238) (by first | exact HF.out | simp[HF.out]);have Bl:∀i:Nat,World.cell? (World.drew (World.alloc w1 (.cells #[.bool (GS.As a 1).BF,.int .i64 (GS.As a 1).v] 264))) ⟨w1.heap.size,i,none⟩=(#[.bool (GS.As a 1).BF,.int .i64 (GS.As a 1).v]:Array Value)[i]?:=K.out.cell (c:= #[.bool (GS.As a 1).BF,.int .i64 (GS.As a 1).v]) (T:=264) (by simp);refine Ao (l:=[(0,true),(1,true),(2,true),(3,true),(4,true),(5,true),(6,true),(7,true),(8,true),(9,true),(10,true),(11,false),(12,false)]) (fun W=>W.cell? ⟨p,1,none⟩=some (.string op)∧W.cell? ⟨p,4,none⟩=some (.bool b.AL)∧W.cell? ⟨p,5,none⟩=some (.int .i64 b.v)∧W.cell? ⟨w1.heap.size,0,none⟩=some (.bool (GS.As a 1).BF)∧W.cell? ⟨w1.heap.size,1,none⟩=some (.int .i64 (GS.As a 1).v)) 12 (by kernel_rfl) (by kernel_rfl) (by kernel_rfl) (by kernel_rfl) (by kernel_rfl) (fun c a d v w h=>by cases d <;>exact h) ?_ ?_
 ·exact⟨Au 1,Au 4,Au 5,Bl 0,Bl 1⟩
 clear Au Bl;repeat
  refine Ak (v:= ?_) rfl rfl rfl (fun W hW=> ?_) ?_;rotate_left
  ·obtain⟨s1,s2,s3,s4,s5⟩:=hW;go_simp;rfl
  simp only[Bo]
 refine Ab rfl (fun Kq Bp=> ?_);go_simp;refine(EZ b 2 _ {g with c:=c2} (GS.AH G a 1) S.out.Al (by (try simp only[BH]);omega) hb.out cO).mono ?_;rintro e w3 ⟨rfl,c4,st⟩;replace K:=hid (K.out.step st);replace S:=hid (S.out.trans st);clear st;replace hb:=hid (Ap.eq hb.out (GS.EH (GS.AH G a 1) b 2));have Au:=(K.out.cl p #[.int .i64 v,.string op,.bool a.AL,.int .i64 a.v,.bool b.AL,.int .i64 b.v] 238 (by first | exact HF.out | simp[HF.out])).1;have Bl:=(K.out.cl w1.heap.size #[.bool (GS.As a 1).BF,.int .i64 (GS.As a 1).v] 264 (by simp)).1;refine Bp _ _ (fun _=>⟨Au 1,Au 4,Au 5,Bl 0,Bl 1⟩) ?_;clear Bp;clear Au Bl;repeat
  refine Ak (v:= ?_) rfl rfl rfl (fun W hW=> ?_) ?_;rotate_left
  ·obtain⟨s1,s2,s3,s4,s5⟩:=hW;go_simp;rfl
  simp only[Bo]
 refine Ab rfl (fun Kq Bp=> ?_);go_simp;refine(DE op 1 (GS.As a 1) (GS.As b 2) _ {g with c:=c4} (GS.AH (GS.AH G a 1) b 2) S.out.Al (by (try simp only[BH]);omega)).mono ?_;rintro e w5 ⟨rfl,c6,st⟩;dsimp only at st;replace K:=hid (K.out.step st);replace S:=hid (S.out.trans st);clear st;replace hb:=hid (Ap.eq hb.out (GS.CG (GS.AH (GS.AH G a 1) b 2) op 1 (GS.As a 1) (GS.As b 2)));refine Bp _ _ (fun h=>absurd rfl h) ?_;clear Bp;simp only[A0];obtain⟨Au,AQ⟩:=K.out.cl p #[.int .i64 v,.string op,.bool a.AL,.int .i64 a.v,.bool b.AL,.int .i64 b.v] 238 (by first | exact HF.out | simp[HF.out]);obtain⟨Bl,De⟩:=K.out.cl w1.heap.size #[.bool (GS.As a 1).BF,.int .i64 (GS.As a 1).v] 264 (by simp);go_wp2_with fail;clear Au AQ Bl De;refine(A3 1 _).mono ?_;rintro e w7 ⟨rfl,hm⟩;replace K:=hid (K.out.step (Ad.quiet S.out.Al hm));replace S:=hid (S.out.trans (Ad.quiet S.out.Al hm));clear hm;obtain⟨Au,AQ⟩:=K.out.cl p #[.int .i64 v,.string op,.bool a.AL,.int .i64 a.v,.bool b.AL,.int .i64 b.v] 238 (by first | exact HF.out | simp[HF.out]);obtain⟨Bl,De⟩:=K.out.cl w1.heap.size #[.bool (GS.As a 1).BF,.int .i64 (GS.As a 1).v] 264 (by simp);have kf1:=K.out.free (c:= #[.bool (GS.As a 1).BF,.int .i64 (GS.As a 1).v]) (T:=264) (b:=w1.heap.size) (by simp);go_upto_region 7 with fail
 clear kf1;clear Au AQ Bl De;replace S:=hid ((S.out.N8 (b:=w1.heap.size) oe (K.out.out _ _ (List.mem_cons_self ..)) 0 (.bool true)).N8 (b:=w1.heap.size) oe (K.out.out _ _ (List.mem_cons_self ..)) 1 (.int .i64 1));replace K:=hid ((K.out.ma Xi 0 (.bool true)).ma Xi 1 (.int .i64 1));have hxv:IntKind.i64.wrap (0+v)=v:=by rw[IntWalk.i64_in _ (by omega)];omega
 have uR:IntKind.i64.wrap v=v:=IntWalk.i64_in _ (by omega);replace K:=hid (K.out.step (Ad.drew S.out.Al));replace S:=hid (S.out.trans (Ad.drew S.out.Al));have Au:∀i:Nat,World.cell? (World.drew (World.setCell (World.setCell w7 ⟨w1.heap.size,0,none⟩ (.bool true)) ⟨w1.heap.size,1,none⟩ (.int .i64 1))) ⟨p,i,none⟩=(#[.int .i64 v,.string op,.bool a.AL,.int .i64 a.v,.bool b.AL,.int .i64 b.v]:Array Value)[i]?:=K.out.cell (c:= #[.int .i64 v,.string op,.bool a.AL,.int .i64 a.v,.bool b.AL,.int .i64 b.v]) (T:=238) (by first | exact HF.out | simp[HF.out]);have Bl:∀i:Nat,World.cell? (World.drew (World.setCell (World.setCell w7 ⟨w1.heap.size,0,none⟩ (.bool true)) ⟨w1.heap.size,1,none⟩ (.int .i64 1))) ⟨w1.heap.size,i,none⟩=(#[.bool true,.int .i64 1]:Array Value)[i]?:=K.out.cell (c:= #[.bool true,.int .i64 1]) (T:=264) (List.mem_cons_self ..);refine Ao (l:=[(0,true),(1,true),(2,true),(3,true),(4,true),(5,true),(6,true),(8,true),(7,false),(9,false)]) (fun W=>W.cell? ⟨p,0,none⟩=some (.int .i64 v)∧W.cell? ⟨w1.heap.size,0,none⟩=some (.bool true)∧W.cell? ⟨w1.heap.size,1,none⟩=some (.int .i64 1)) 9 (by kernel_rfl) (by kernel_rfl) (by kernel_rfl) (by kernel_rfl) (by kernel_rfl) (fun c a d v w h=>by cases d <;>exact h) ?_ ?_
 ·exact⟨Au 0,Bl 0,Bl 1⟩
 clear Au Bl;repeat
  refine Ak (v:= ?_) rfl rfl rfl (fun W hW=> ?_) ?_;rotate_left
  ·obtain⟨s1,s2,s3⟩:=hW;go_simp;rfl
  simp only[Bo]
 refine Ab rfl (fun Kq Bp=> ?_);go_simp;refine(Co v _ {g with c:=c6} (GS.A2 (GS.AH (GS.AH G a 1) b 2) op 1 (GS.As a 1) (GS.As b 2)) S.out.Al (Ch (k:=v) hb.out (by omega))).mono ?_;rintro e w8 ⟨rfl,hm⟩;replace K:=hid (K.out.step (Ad.quiet S.out.Al hm));replace S:=hid (S.out.trans (Ad.quiet S.out.Al hm));clear hm;have Au:=(K.out.cl p #[.int .i64 v,.string op,.bool a.AL,.int .i64 a.v,.bool b.AL,.int .i64 b.v] 238 (by first | exact HF.out | simp[HF.out])).1;have Bl:=(K.out.cl w1.heap.size #[.bool true,.int .i64 1] 264 (List.mem_cons_self ..)).1;refine Bp _ _ (fun _=>⟨Au 0,Bl 0,Bl 1⟩) ?_;clear Bp;clear Au Bl;repeat
  refine Ak (v:= ?_) rfl rfl rfl (fun W hW=> ?_) ?_;rotate_left
  ·obtain⟨s1,s2,s3⟩:=hW;go_simp;rfl
  simp only[Bo]
 refine Ab rfl (fun Kq Bp=> ?_);go_simp;refine(BM (.n (GS.Ah (GS.A2 (GS.AH (GS.AH G a 1) b 2) op 1 (GS.As a 1) (GS.As b 2))+v)) 0 (.r 1) _ {g with c:=c6} (GS.A2 (GS.AH (GS.AH G a 1) b 2) op 1 (GS.As a 1) (GS.As b 2)) S.out.Al (by (try simp only[BH]);omega)).mono ?_;rintro e w9 ⟨rfl,c10,st⟩;dsimp only at st;replace K:=hid (K.out.step st);replace S:=hid (S.out.trans st);clear st;replace hb:=hid (Ap.eq hb.out (GS.EB (GS.A2 (GS.AH (GS.AH G a 1) b 2) op 1 (GS.As a 1) (GS.As b 2)) v (.r 1)));refine Bp _ _ (fun h=>absurd rfl h) ?_;clear Bp;simp only[A0];obtain⟨Au,AQ⟩:=K.out.cl p #[.int .i64 v,.string op,.bool a.AL,.int .i64 a.v,.bool b.AL,.int .i64 b.v] 238 (by first | exact HF.out | simp[HF.out]);obtain⟨Bl,De⟩:=K.out.cl w1.heap.size #[.bool true,.int .i64 1] 264 (List.mem_cons_self ..);go_wp2_with fail;clear Au AQ Bl De
 go_end0
 rw[show GS.BX (.set v op a b .nil) G=(GS.st (GS.A2 (GS.AH (GS.AH G a 1) b 2) op 1 (GS.As a 1) (GS.As b 2)) v (.r 1)) by simp[GS.BX,lX.out]];exact⟨rfl,c10,S.out⟩
def sR (tc:Int) (g:MG) (G:GS) (w:World) (e:Ending) (w':World):Prop:=
 ∃ba bm bk c,e= .returned (.func (.func 154) #[] #[.pointer (some ⟨ba,0,none⟩),.pointer (some ⟨bm,0,none⟩),.pointer (some ⟨bk,0,none⟩)])∧
  Ad w (g.Ax G) w' (MG.Ax {g with c:=c} ((G.lo 1 tc).An (.r 1)))∧Ba w' (MG.Ax {g with c:=c} ((G.lo 1 tc).An (.r 1))) [P5 bk (G.lo 1 tc).Af.length,aH ba (.r 1),Ok bm g.mb]∧(w.heap.size≤ba∧w.heap.size≤bm∧w.heap.size≤bk)
theorem Kx (c tb:Int) (bs:Nat) (w:World) (g:MG) (G:GS) (F:List (Nat×Obj)) (h:AK w (g.Ax G)) (hK:Ba w (g.Ax G) F) (hF:Ok bs g.mb∈F) (hn:G.Af.length≤999900) (Gd:Ap G.Ah) (hc:0≤c∧c≤100) (ht:0≤tb∧tb≤100):
  Calls Tryz.prog 175 #[.int .i64 c,.int .i64 tb,.pointer (some ⟨bs,0,none⟩)] w (sR (tb+c) g G w):=by
 have H:=hid h;have hb:=hid Gd;have HK:=hid hK;have HF:=hid hF;have hw:wrap64 (tb+c)=tb+c:=IntWalk.wrap64_in _ (by omega);have yq:IntKind.i64.wrap (tb+c)=tb+c:=by rw[IntWalk.i64_left];exact hw
 clear h Gd hK hF;go_enter Tryz.func175,Tryz.ntmps175;have S:=hid (Ad.refl H.out);have K:=hid (HK.out);obtain⟨Au,AQ⟩:=K.out.cl bs #[.pointer (some ⟨g.mb,0,none⟩)] 166 (HF.out);go_upto_region 1 with fail
 clear Au AQ;replace K:=hid (K.out.step (Ad.drew S.out.Al));replace S:=hid (S.out.trans (Ad.drew S.out.Al));have Au:=(K.out.cl bs #[.pointer (some ⟨g.mb,0,none⟩)] 166 (HF.out)).1;refine Ao (l:=[(0,true),(1,true),(2,true),(3,true),(4,true),(5,false),(6,false)]) (fun W=>W.cell? ⟨bs,0,none⟩=some (.pointer (some ⟨g.mb,0,none⟩))) 6 (by kernel_rfl) (by kernel_rfl) (by kernel_rfl) (by kernel_rfl) (by kernel_rfl) (fun c a d v w h=>by cases d <;>exact h) ?_ ?_
 ·exact(Au 0)
 clear Au;repeat
  refine Ak (v:= ?_) rfl rfl rfl (fun W hW=> ?_) ?_;rotate_left
  ·obtain s1:=hW;go_simp;rfl
  simp only[Bo]
 refine Ab rfl (fun Kq Bp=> ?_);go_simp;refine(Co (tb+c) _ {g with c:=g.c} G S.out.Al (Ch (k:=(tb+c)) hb.out (by omega))).mono ?_;rintro e w1 ⟨rfl,hm⟩;replace K:=hid (K.out.step (Ad.quiet S.out.Al hm));replace S:=hid (S.out.trans (Ad.quiet S.out.Al hm));clear hm;have Au:=(K.out.cl bs #[.pointer (some ⟨g.mb,0,none⟩)] 166 (HF.out)).1;refine Bp _ _ (fun _=>(Au 0)) ?_;clear Bp;clear Au;repeat
  refine Ak (v:= ?_) rfl rfl rfl (fun W hW=> ?_) ?_;rotate_left
  ·obtain s1:=hW;go_simp;rfl
  simp only[Bo]
 refine Ab rfl (fun Kq Bp=> ?_);go_simp;refine(Cv 1 (.n (GS.Ah G+(tb+c))) 0 _ {g with c:=g.c} G S.out.Al (by (try simp only[BH]);omega)).mono ?_;rintro e w2 ⟨rfl,c3,st⟩;replace K:=hid (K.out.step st);replace S:=hid (S.out.trans st);clear st;replace hb:=hid (Ap.eq hb.out (GS.DF G 1 (tb+c)));refine Bp _ _ (fun h=>absurd rfl h) ?_;clear Bp;simp only[A0];obtain⟨Au,AQ⟩:=K.out.cl bs #[.pointer (some ⟨g.mb,0,none⟩)] 166 (HF.out);go_upto_region 2 with fail
 clear Au AQ;replace K:=hid (K.out.step (Ad.drew S.out.Al));replace S:=hid (S.out.trans (Ad.drew S.out.Al));have Au:=(K.out.cl bs #[.pointer (some ⟨g.mb,0,none⟩)] 166 (HF.out)).1;refine Ao (l:=[(0,true),(1,false),(2,false),(3,false)]) (fun W=>W.cell? ⟨bs,0,none⟩=some (.pointer (some ⟨g.mb,0,none⟩))) 3 (by kernel_rfl) (by kernel_rfl) (by kernel_rfl) (by kernel_rfl) (by kernel_rfl) (fun c a d v w h=>by cases d <;>exact h) ?_ ?_
 ·exact(Au 0)
 clear Au;repeat
  refine Ak (v:= ?_) rfl rfl rfl (fun W hW=> ?_) ?_;rotate_left
  ·obtain s1:=hW;go_simp;rfl
  simp only[Bo]
 refine Ab rfl (fun Kq Bp=> ?_);go_simp;refine(A3 1 _).mono ?_;rintro e w4 ⟨rfl,hm⟩;replace K:=hid (K.out.step (Ad.quiet S.out.Al hm));replace S:=hid (S.out.trans (Ad.quiet S.out.Al hm));clear hm;have Au:=(K.out.cl bs #[.pointer (some ⟨g.mb,0,none⟩)] 166 (HF.out)).1;refine Bp _ _ (fun _=>(Au 0)) ?_;clear Bp;clear Au;repeat
  refine Ak (v:= ?_) rfl rfl rfl (fun W hW=> ?_) ?_;rotate_left
  ·obtain s1:=hW;go_simp;rfl
  simp only[Bo]
 refine Ab rfl (fun Kq Bp=> ?_);go_simp;refine(EJ (.r 1) _ {g with c:=c3} (GS.lo G 1 (tb+c)) S.out.Al (by (try simp only[BH]);omega)).mono ?_;rintro e w9 ⟨ba,bm,bk,c9,rfl,st,kn,LF⟩;have GK:=S.out.Bh.size;dsimp only at st kn;replace K:=hid (K.out.step st);replace S:=hid (S.out.trans st);have Kn:=hid kn;clear kn st;have Au:=(K.out.cl bs #[.pointer (some ⟨g.mb,0,none⟩)] 166 (HF.out)).1;refine Bp _ _ (fun _=>(Au 0)) ?_;clear Bp;clear Au;repeat
  refine Ak (v:= ?_) rfl rfl rfl (fun W hW=> ?_) ?_;rotate_left
  ·obtain s1:=hW;go_simp;rfl
  simp only[Bo]
 refine Ab rfl (fun Kq Bp=> ?_);go_simp;refine Bp _ _ (fun h=>absurd rfl h) ?_;simp only[A0];go_wp2_with fail;go_ret;exact⟨ba,bm,bk,c9,rfl,S.out,Kn.out,by omega⟩
theorem GS.UP (g:GS) (c:Nat):(GS.IU c g).Af.length=g.Af.length+4:=by unfold GS.IU;simp only[GS.Dh,GS.N1,GS.FT,GS.DL]
theorem GS.ZA (g:GS) (c:Nat):(GS.IU c g).Ah=g.Ah:=rfl
theorem GS.Ut (g:GS) (c:Nat):(GS.IQ c g).Af.length=g.Af.length+2:=by unfold GS.IQ;simp only[GS.Gi,GS.FT]
theorem GS.YX (g:GS) (c:Nat):(GS.IQ c g).Ah=g.Ah:=rfl
theorem EC {f:Nat→GS→GS} {m:Nat} (hf:∀i x,(f i x).Af.length=x.Af.length+m) (n:Nat) (g:GS):(GS.EO f n g).Af.length=g.Af.length+n*m:=by
 induction n with
 | zero=>simp[GS.EO]
 | succ n ih=>simp only[GS.EO,hf,ih,Nat.succ_mul];omega
theorem Ix {f:Nat→GS→GS} (hf:∀i x,(f i x).Ah=x.Ah) (n:Nat) (g:GS):(GS.EO f n g).Ah=g.Ah:=by
 induction n with
 | zero=>rfl
 | succ n ih=>exact(hf n _).trans ih
theorem Je {f:Nat→GS→GS} (hf:∀i x,(f i x).cells=x.cells) (n:Nat) (g:GS):(GS.EO f n g).cells=g.cells:=by
 induction n with
 | zero=>rfl
 | succ n ih=>exact(hf n _).trans ih
theorem Un (top:Nat) (w:World) (g:MG) (G:GS) (h:AK w (g.Ax G)) (hn:G.Af.length≤999000) (Gd:Ap G.Ah) (Dp:0≤G.cells∧G.cells≤100):
  Calls Tryz.prog 158 #[.pointer (some ⟨g.mb,0,none⟩),.int .i64 (top:Int)] w (Te (.tuple #[]) (G.Ke top) g G w):=by
 have H:=hid h;have hb:=hid Gd;clear h Gd;go_enter Tryz.func158,Tryz.ntmps158;obtain⟨hc,hf,Bi⟩:=AW H.out;go_wp2;clear hc hf Bi;go_loopw [11] (fun i wr=>∃(k:Nat) (c:SG),i= .int .i64 k∧(k:Int)≤G.cells∧Ad w (g.Ax G) wr (MG.Ax {g with c:=c} (GS.EO GS.IU k G))) (fun i _=>G.cells.toNat - (intOf i).toNat);case atStart=>exact⟨0,g.c,rfl,Dp.1,Ad.refl H.out⟩
 case round=>
  obtain⟨k,c0,rfl,XY,st⟩:=hrel;have hl:=EC (fun i x=>GS.UP x i) k G;have FD:=Ap.eq hb.out (Ix (fun i x=>GS.ZA x i) k G);have JM:GS.EO GS.IU (k+1) G=GS.IU k (GS.EO GS.IU k G):=rfl;by_cases hk:(k:Int) < G.cells
  ·have JI:=hid JM;clear JM;generalize GS.EO GS.IU k G=Gk at*;have Xd:Gk.Af.length≤999500:=by omega
   replace hb:=hid FD;have H:=hid st;have DK:wrap64 (26+(k:Int))=26+k:=IntWalk.wrap64_in _ (by omega);have Ew:wrap64 (32+(k:Int))=32+k:=IntWalk.wrap64_in _ (by omega);have Fm:wrap64 (8+(k:Int))=8+k:=IntWalk.wrap64_in _ (by omega);clear st FD hl;have S:=H;go_wp2_with fail;refine(Co (26+(k:Int)) _ {g with c:=c0} Gk S.out.Al (Ch (k:=(26+(k:Int))) hb.out (by omega))).mono ?_;rintro e w1 ⟨rfl,hm⟩;replace S:=hid (S.out.trans (Ad.quiet S.out.Al hm));clear hm;go_wp2_with fail;refine(Cv 1 (.n (GS.Ah Gk+(26+(k:Int)))) 0 _ {g with c:=c0} Gk S.out.Al (by (try simp only[BH]);omega)).mono ?_;rintro e w2 ⟨rfl,c3,st⟩;replace S:=hid (S.out.trans st);clear st;replace hb:=hid (Ap.eq hb.out (GS.DF Gk 1 (26+(k:Int))));go_wp2_with fail;refine(A3 1 _).mono ?_;rintro e w4 ⟨rfl,hm⟩;replace S:=hid (S.out.trans (Ad.quiet S.out.Al hm));clear hm;go_wp2_with fail;refine(EJ (.r 1) _ {g with c:=c3} (GS.lo Gk 1 (26+(k:Int))) S.out.Al (by (try simp only[BH]);omega)).mono ?_;rintro e w8 ⟨wX,wJ,wQ,c9,rfl,st,kn,im⟩;dsimp only at st kn;clear im;have K:=hid kn;replace S:=hid (S.out.trans st);clear kn st;replace hb:=hid (Ap.eq hb.out (GS.B8 (GS.lo Gk 1 (26+(k:Int))) (.r 1)));go_wp2_with fail;refine(Co (32+(k:Int)) _ {g with c:=c9} (GS.An (GS.lo Gk 1 (26+(k:Int))) (.r 1)) S.out.Al (Ch (k:=(32+(k:Int))) hb.out (by omega))).mono ?_;rintro e w11 ⟨rfl,hm⟩;replace K:=hid (K.out.step (Ad.quiet S.out.Al hm));replace S:=hid (S.out.trans (Ad.quiet S.out.Al hm));clear hm;go_wp2_with fail;refine(Cv 2 (.n (GS.Ah (GS.An (GS.lo Gk 1 (26+(k:Int))) (.r 1))+(32+(k:Int)))) 0 _ {g with c:=c9} (GS.An (GS.lo Gk 1 (26+(k:Int))) (.r 1)) S.out.Al (by (try simp only[BH]);omega)).mono ?_;rintro e w12 ⟨rfl,c13,st⟩;dsimp only at st;replace K:=hid (K.out.step st);replace S:=hid (S.out.trans st);clear st;replace hb:=hid (Ap.eq hb.out (GS.DF (GS.An (GS.lo Gk 1 (26+(k:Int))) (.r 1)) 2 (32+(k:Int))));go_wp2_with fail;refine(BD (8+(k:Int)) _).mono ?_;rintro e w14 ⟨rfl,hm⟩;replace K:=hid (K.out.step (Ad.quiet S.out.Al hm));replace S:=hid (S.out.trans (Ad.quiet S.out.Al hm));clear hm;go_wp2_with fail;refine(A3 2 _).mono ?_;rintro e w15 ⟨rfl,hm⟩;replace K:=hid (K.out.step (Ad.quiet S.out.Al hm));replace S:=hid (S.out.trans (Ad.quiet S.out.Al hm));clear hm;go_wp2_with fail;refine(BM (.n (8+(k:Int))) 0 (.r 2) _ {g with c:=c13} (GS.lo (GS.An (GS.lo Gk 1 (26+(k:Int))) (.r 1)) 2 (32+(k:Int))) S.out.Al (by (try simp only[BH]);omega)).mono ?_;rintro e w16 ⟨rfl,c17,st⟩;dsimp only at st;replace K:=hid (K.out.step st);replace S:=hid (S.out.trans st);clear st;replace hb:=hid (Ap.eq hb.out (GS.Kr (GS.lo (GS.An (GS.lo Gk 1 (26+(k:Int))) (.r 1)) 2 (32+(k:Int))) (8+(k:Int)) (.r 2)));go_wp2_with fail;refine(CQ (.r 1) wX wJ wQ ((GS.Af (GS.lo Gk 1 (26+(k:Int)))).length) _ {g with c:=c17} (GS.HJ (GS.lo (GS.An (GS.lo Gk 1 (26+(k:Int))) (.r 1)) 2 (32+(k:Int))) (8+(k:Int)) (.r 2)) _ S.out.Al K.out (by simp) (by simp) (by simp) (by (try simp only[BH]);omega) (by (try simp only[BH]);omega)).mono ?_;rintro e w18 ⟨rfl,c19,st⟩;dsimp only at st;replace K:=hid (K.out.step st);replace S:=hid (S.out.trans st);clear st;replace hb:=hid (Ap.eq hb.out (GS.Ce (GS.HJ (GS.lo (GS.An (GS.lo Gk 1 (26+(k:Int))) (.r 1)) 2 (32+(k:Int))) (8+(k:Int)) (.r 2)) ⟨(GS.Af (GS.lo Gk 1 (26+(k:Int)))).length,some (.r 1)⟩));go_wp2_with fail;go_roundw;case rel=>
    refine⟨k+1,c19,by go_num,by omega,?_⟩;rw[JI.out];exact S.out
   case measure=>simp[intOf];omega
  ·have Pc:k=G.cells.toNat:=by omega
   subst Pc;clear JM;have HG:=hid (show∃z,z=GS.EO GS.IU G.cells.toNat G from⟨_,rfl⟩);obtain⟨G1,Pe⟩:=HG.out;rw[←Pe] at hl FD st;have jT:=hid Pe;have HS:=hid st;replace hb:=hid FD;have Xd:G1.Af.length≤999500:=by omega
   clear st FD hl Pe HG;go_wp2_with fail;go_loopw [39] (fun i wr=>∃(k:Nat) (c:SG),i= .int .i64 k∧k≤4∧Ad w (g.Ax G) wr (MG.Ax {g with c:=c} (GS.EO GS.IQ k G1))) (fun i _=>4 - (intOf i).toNat);case atStart=>exact⟨0,c0,rfl,by omega,HS.out⟩
   case round=>
    obtain⟨k,c1,rfl,yP,st⟩:=hrel;have hl:=EC (fun i x=>GS.Ut x i) k G1;have FD:=Ap.eq hb.out (Ix (fun i x=>GS.YX x i) k G1);have JM:GS.EO GS.IQ (k+1) G1=GS.IQ k (GS.EO GS.IQ k G1):=rfl;by_cases hk:(k:Int) < 4
    ·have JI:=hid JM;clear JM;generalize GS.EO GS.IQ k G1=Gk at*;have Xd:Gk.Af.length≤999900:=by omega
     replace hb:=hid FD;have H:=hid st;have DK:wrap64 (4+(k:Int))=4+k:=IntWalk.wrap64_in _ (by omega);have Ew:wrap64 (0+(k:Int))=k:=by rw[IntWalk.wrap64_in _ (by omega)];omega
     have Fm:wrap64 (k:Int)=k:=IntWalk.wrap64_in _ (by omega);clear st FD hl;have S:=H;go_wp2_with fail;refine(Co (4+(k:Int)) _ {g with c:=c1} Gk S.out.Al (Ch (k:=(4+(k:Int))) hb.out (by omega))).mono ?_;rintro e w1 ⟨rfl,hm⟩;replace S:=hid (S.out.trans (Ad.quiet S.out.Al hm));clear hm;go_wp2_with fail;refine(Cv 1 (.n (GS.Ah Gk+(4+(k:Int)))) 0 _ {g with c:=c1} Gk S.out.Al (by (try simp only[BH]);omega)).mono ?_;rintro e w2 ⟨rfl,c3,st⟩;replace S:=hid (S.out.trans st);clear st;replace hb:=hid (Ap.eq hb.out (GS.DF Gk 1 (4+(k:Int))));go_wp2_with fail;refine(Co (k:Int) _ {g with c:=c3} (GS.lo Gk 1 (4+(k:Int))) S.out.Al (Ch (k:=(k:Int)) hb.out (by omega))).mono ?_;rintro e w4 ⟨rfl,hm⟩;replace S:=hid (S.out.trans (Ad.quiet S.out.Al hm));clear hm;go_wp2_with fail;refine(A3 1 _).mono ?_;rintro e w5 ⟨rfl,hm⟩;replace S:=hid (S.out.trans (Ad.quiet S.out.Al hm));clear hm;go_wp2_with fail;refine(BM (.n (GS.Ah (GS.lo Gk 1 (4+(k:Int)))+(k:Int))) 0 (.r 1) _ {g with c:=c3} (GS.lo Gk 1 (4+(k:Int))) S.out.Al (by (try simp only[BH]);omega)).mono ?_;rintro e w6 ⟨rfl,c7,st⟩;dsimp only at st;replace S:=hid (S.out.trans st);clear st;replace hb:=hid (Ap.eq hb.out (GS.EB (GS.lo Gk 1 (4+(k:Int))) (k:Int) (.r 1)));go_wp2_with fail;go_roundw;case rel=>
      refine⟨k+1,c7,by go_num,by omega,?_⟩;rw[JI.out];exact S.out
     case measure=>simp[intOf];omega
    ·have Pc:k=4:=by omega
     subst Pc;clear JM;have jG:=hid (show∃z,z=GS.EO GS.IQ 4 G1 from⟨_,rfl⟩);obtain⟨G2,pn⟩:=jG.out;rw[←pn] at hl FD st;have yg:=hid pn;have HS:=hid st;replace hb:=hid FD;have Xd:G2.Af.length≤999900:=by omega
     clear st FD hl pn jG;have S:=HS;go_wp2_with fail;refine(Dq (.Ga (top:Int)) _ {g with c:=c1} G2 S.out.Al (by (try simp only[BH]);omega)).mono ?_;rintro e w1 ⟨rfl,c2,st⟩;replace S:=hid (S.out.trans st);clear st;replace hb:=hid (Ap.eq hb.out (GS.Cg G2 (.Ga (top:Int))));go_wp2_with fail
     go_end0
     refine⟨rfl,c2,?_⟩;have e:G.Ke top=G2.Aq (.Ga (top:Int)):=by rw[yg.out,jT.out];rfl
     rw[e];exact S.out
end Go.Proofs.YtpdfifdlhpmofaaGreatDoor
