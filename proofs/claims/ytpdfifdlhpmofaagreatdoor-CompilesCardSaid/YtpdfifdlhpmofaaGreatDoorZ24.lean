/-
  Part 24 of the proof, packed by program out of F7, F8, F9, F10, F11, F12.
-/
import Derived.Test.YtpdfifdlhpmofaaGreatDoorZ23
import Derived.Test.YtpdfifdlhpmofaaGreatDoorZ06
set_option linter.unusedVariables false
set_option linter.unusedSimpArgs false
set_option maxHeartbeats 3200000
set_option maxRecDepth 100000
namespace Go.Proofs.YtpdfifdlhpmofaaGreatDoor
open Go.RowKit
open Go.Lib (hid)
theorem iL (n:ByteArray) (a i:Wd) (w:World) (g:FG) (x:qr) (wv:Value) (Ae:Int) (F:List (Nat×Obj)) (h:M3 F g x wv Ae w) (hb:SW g) (bx bn bi ba:Nat)
  (IJ:(bx,Obj.cells #[.pointer (some ⟨g.xb,0,none⟩)] 143 (0,0))∈F) (VG:(bn,Obj.cells #[.string n] 9 (0,0))∈F) (qi:(bi,Obj.cells #[.string i.name,.int .i64 i.v] 230 (0,0))∈F) (Qe:(ba,Obj.cells #[.string a.name,.int .i64 a.v] 230 (0,0))∈F):
  Calls Tryz.prog 120 #[.pointer (some ⟨bx,0,none⟩),.pointer (some ⟨bn,0,none⟩),.pointer (some ⟨bi,0,none⟩),.pointer (some ⟨ba,0,none⟩)] w (Mp (x.finish (.put n a i)) F g x wv Ae w):=by
 have AU:x.finish (.put n a i)=match x.cell n i with
  | .error c=> .error c
  | .ok (f,z,i)=>match x.CA a with
   | .error c=> .error c
   | .ok a=> .ok (x.add (.put f z i a)):=rfl
 have H:=hid h;have Hb:=hid hb;have Bg:=hid AU;have HX:=hid IJ;have HN:=hid VG;have HI:=hid qi;have HA:=hid Qe;clear IJ VG qi Qe;clear h hb AU;go_enter Tryz.func120,Tryz.ntmps120;go_upto_region 0 with fail
 have S:=H.out.quiet (Av.refl [] w).drew;refine Ao (l:=[(0,true),(1,true),(2,true),(3,true),(5,true),(6,true),(4,false),(7,false),(8,true),(9,false),(10,true),(11,false)]) (fun W=>W.cell? ⟨bx,0,none⟩=some (.pointer (some ⟨g.xb,0,none⟩))∧W.cell? ⟨bn,0,none⟩=some (.string n)∧W.cell? ⟨bi,0,none⟩=some (.string i.name)∧W.cell? ⟨bi,1,none⟩=some (.int .i64 i.v)∧W.cell? ⟨ba,0,none⟩=some (.string a.name)∧W.cell? ⟨ba,1,none⟩=some (.int .i64 a.v)) 11 (by kernel_rfl) (by kernel_rfl) (by kernel_rfl) (by kernel_rfl) (by kernel_rfl) (fun c a d v w h=>by cases d <;>exact h) ⟨S.AT.cell HX.out 0,S.AT.cell HN.out 0,S.AT.cell HI.out 0,S.AT.cell HI.out 1,S.AT.cell HA.out 0,S.AT.cell HA.out 1⟩ ?_;repeat
  refine Ak (v:= ?_) rfl rfl rfl (fun W hW=> ?_) ?_;rotate_left
  ·obtain⟨s1,s2,s3,s4,s5,s6⟩:=hW;go_simp;rfl
  simp only[Bo]
 refine Ab rfl (fun K hK=> ?_);go_simp;refine(UC n i _ g x wv Ae S.Al).mono ?_;intro e w1 he;unfold ZO at he;cases hc:x.cell n i with
 | error c=>
  rw[hc] at he;obtain⟨⟨fb,rfl,hb⟩,hm⟩:=he;rw[Bg.out,hc];exact⟨rfl,⟨fb,rfl,hb⟩,((Av.refl [] w).drew).Ac hm⟩
 | ok p=>
  obtain⟨f,z,j⟩:=p;rw[hc] at he;obtain⟨rfl,C9⟩:=he;have S1:=S.quiet C9;refine hK _ w1 (fun _=>⟨S1.AT.cell HX.out 0,S1.AT.cell HN.out 0,S1.AT.cell HI.out 0,S1.AT.cell HI.out 1,S1.AT.cell HA.out 0,S1.AT.cell HA.out 1⟩) ?_;clear hK;repeat
   refine Ak (v:= ?_) rfl rfl rfl (fun W hW=> ?_) ?_;rotate_left
   ·obtain⟨s1,s2,s3,s4,s5,s6⟩:=hW;go_simp;rfl
   simp only[Bo]
  refine Ab rfl (fun K hK=> ?_);go_simp;refine(Jj a _ g x wv Ae S1.Al).mono ?_;intro e w2 he;unfold SY at he;cases Fh:x.CA a with
  | error c=>
   rw[Fh] at he;obtain⟨⟨fb,rfl,hb⟩,hm⟩:=he;rw[Bg.out,hc];simp only[];rw[Fh];exact⟨rfl,⟨fb,rfl,hb⟩,(((Av.refl [] w).drew).Ac C9).Ac hm⟩
  | ok b=>
   rw[Fh] at he;obtain⟨rfl,CY⟩:=he;have S2:=S1.quiet CY;have Hr:=hid (show x.finish (.put n a i)= .ok (x.add (.put f z j b)) by rw[Bg.out,hc];simp only[];rw[Fh]);have HM:=hid ((((Av.refl [] w).drew).Ac C9).Ac CY);clear Fh hc;refine hK _ w2 (fun _=>⟨S2.AT.cell HX.out 0,S2.AT.cell HN.out 0,S2.AT.cell HI.out 0,S2.AT.cell HI.out 1,S2.AT.cell HA.out 0,S2.AT.cell HA.out 1⟩) ?_;clear hK;repeat
    refine Ak (v:= ?_) rfl rfl rfl (fun W hW=> ?_) ?_;rotate_left
    ·obtain⟨s1,s2,s3,s4,s5,s6⟩:=hW;go_simp;rfl
    simp only[Bo]
   refine Ab rfl (fun K hK=> ?_);go_simp;have S3:=S2.new (.cells #[.int .i64 f,.int .i64 z,.bool j.AL,.int .i64 j.v,.bool b.AL,.int .i64 b.v] 248);refine hK _ _ (fun _=>⟨S3.AT.cell (List.mem_cons_of_mem _ HX.out) 0,S3.AT.cell (List.mem_cons_of_mem _ HN.out) 0,S3.AT.cell (List.mem_cons_of_mem _ HI.out) 0,S3.AT.cell (List.mem_cons_of_mem _ HI.out) 1,S3.AT.cell (List.mem_cons_of_mem _ HA.out) 0,S3.AT.cell (List.mem_cons_of_mem _ HA.out) 1⟩) ?_;clear hK;repeat
    refine Ak (v:= ?_) rfl rfl rfl (fun W hW=> ?_) ?_;rotate_left
    ·obtain⟨s1,s2,s3,s4,s5,s6⟩:=hW;go_simp;rfl
    simp only[Bo]
   refine Ab rfl (fun K hK=> ?_);go_simp;refine(Mg (.put f z j b) _ _ _ g x wv Ae _ S3.Al S3.Hj ⟨_,[],rfl,List.mem_cons_self ..,rfl⟩ Hb.out).mono ?_;intro e w3 he;have hf:=hid (Me he S3 (HM.out.alloc _) H.out.Al (fun y hy=>List.mem_cons_of_mem _ hy));obtain⟨rfl,_⟩:=he;refine hK _ _ (fun h=>absurd rfl h) ?_;clear hK;simp only[A0];go_wp2
   go_end0
   rw[Hr.out];exact hf.out
theorem ND {x y:qr} {n:ByteArray} {v:Int} (h:x.Dd n= .ok (v,y)):y.Aa=x.Aa∧y.Ai=x.Ai:=by
 unfold qr.Dd at h;split at h
 ·cases h
 ·split at h
  ·cases h;exact⟨rfl,rfl⟩
  ·split at h
   ·cases h
   ·cases h;exact⟨rfl,rfl⟩
theorem SV.cast {F:List (Nat×Obj)} {g:FG} {x y:qr} (h:SV F g x) (e:y.Aa=x.Aa∧y.Ai=x.Ai):SV F g y:=by
 obtain⟨h1,h2⟩:=h;exact⟨by rw[e.1];exact h1,by rw[e.2];exact h2⟩
theorem UB {F F0:List (Nat×Obj)} {g:FG} {x y z:qr} {wv:Value} {Ae:Int} {w0 w:World} {e:Ending} {w':World} (h:aL z F g y wv Ae w e w') (S:M3 F g y wv Ae w) (h0:Ad w0 (g.Ax x wv Ae) w (g.Ax y wv Ae)) (hF:V1 F0 F):Mp (.ok z) F0 g x wv Ae w0 e w':=by
 obtain⟨rfl,g',hx,st,hf⟩:=h;exact⟨rfl,g',F,hx,hF,h0.trans st,⟨st.Al,S.AT.step st,hf⟩⟩
theorem iQ (n s:ByteArray) (i:Wd) (w:World) (g:FG) (x:qr) (wv:Value) (Ae:Int) (F:List (Nat×Obj)) (h:M3 F g x wv Ae w) (hb:SW g) (bx bs_ bi bn:Nat)
  (IJ:(bx,Obj.cells #[.pointer (some ⟨g.xb,0,none⟩)] 143 (0,0))∈F) (sr:(bs_,Obj.cells #[.string s] 9 (0,0))∈F) (qi:(bi,Obj.cells #[.string i.name,.int .i64 i.v] 230 (0,0))∈F) (VG:(bn,Obj.cells #[.string n] 9 (0,0))∈F):
  Calls Tryz.prog 118 #[.pointer (some ⟨bx,0,none⟩),.pointer (some ⟨bs_,0,none⟩),.pointer (some ⟨bi,0,none⟩),.pointer (some ⟨bn,0,none⟩)] w (Mp (x.finish (.get n s i)) F g x wv Ae w):=by
 have AU:x.finish (.get n s i)=match x.cell s i with
  | .error c=> .error c
  | .ok (f,z,i)=>match x.Dd n with
   | .error c=> .error c
   | .ok (v,y)=> .ok (y.add (.get v f z i)):=rfl
 have c1:=h.AT.cell IJ 0;have c2:=h.AT.cell sr 0;have c3:=h.AT.cell qi 0;have c4:=h.AT.cell qi 1;have H:=hid h;have Hb:=hid hb;have Bg:=hid AU;have HX:=hid IJ;have HN:=hid VG;clear h hb AU IJ sr qi VG;go_enter Tryz.func118,Tryz.ntmps118;go_wp2_with fail;refine(UC s i _ g x wv Ae H.out.Al).mono ?_;intro e w1 he;clear c1 c2 c3 c4;unfold ZO at he;cases hc:x.cell s i with
 | error c=>
  rw[hc] at he;obtain⟨⟨fb,rfl,hb⟩,hm⟩:=he;have Hr:=hid (show x.finish (.get n s i)= .error c by rw[Bg.out,hc]);clear hc;go_wp2;rw[Hr.out];exact⟨rfl,⟨fb,rfl,hb⟩,hm⟩
 | ok p=>
  obtain⟨f,z,j⟩:=p;rw[hc] at he;obtain⟨rfl,C9⟩:=he;have Hc:=hid hc;have dP:=hid C9;clear hc;have S1:=hid ((H.out.quiet C9).new (.cells #[.int .i64 f,.int .i64 z,.bool j.AL,.int .i64 j.v] 241));clear C9;go_upto_region 1 with fail
  have S:=S1.out.quiet (Av.refl [] _).drew;refine Ao (l:=[(0,true),(1,true),(2,true),(4,true),(3,false),(5,true),(6,false),(7,true),(8,false)]) (fun W=>W.cell? ⟨bx,0,none⟩=some (.pointer (some ⟨g.xb,0,none⟩))∧W.cell? ⟨bn,0,none⟩=some (.string n)∧W.cell? ⟨w1.heap.size,0,none⟩=some (.int .i64 f)∧W.cell? ⟨w1.heap.size,1,none⟩=some (.int .i64 z)∧W.cell? ⟨w1.heap.size,2,none⟩=some (.bool j.AL)∧W.cell? ⟨w1.heap.size,3,none⟩=some (.int .i64 j.v)) 8 (by kernel_rfl) (by kernel_rfl) (by kernel_rfl) (by kernel_rfl) (by kernel_rfl) (fun c a d v w h=>by cases d <;>exact h) ⟨S.AT.cell (List.mem_cons_of_mem _ HX.out) 0,S.AT.cell (List.mem_cons_of_mem _ HN.out) 0,S.AT.cell (List.mem_cons_self ..) 0,S.AT.cell (List.mem_cons_self ..) 1,S.AT.cell (List.mem_cons_self ..) 2,S.AT.cell (List.mem_cons_self ..) 3⟩ ?_;repeat
   refine Ak (v:= ?_) rfl rfl rfl (fun W hW=> ?_) ?_;rotate_left
   ·obtain⟨s1,s2,s3,s4,s5,s6⟩:=hW;go_simp;rfl
   simp only[Bo]
  refine Ab rfl (fun K hK=> ?_);go_simp;refine(SC n _ g x wv Ae S.Al).mono ?_;intro e w2 he;unfold ZI at he;cases hl:x.Dd n with
  | error c=>
   rw[hl] at he;obtain⟨⟨fb,rfl,hb⟩,hm⟩:=he;have Hr:=hid (show x.finish (.get n s i)= .error c by rw[Bg.out,Hc.out];simp only[];rw[hl]);rw[Hr.out];exact⟨rfl,⟨fb,rfl,hb⟩,((dP.out.alloc _).drew).Ac hm⟩
  | ok p=>
   obtain⟨v,y⟩:=p;rw[hl] at he;obtain⟨rfl,st⟩:=he;have Hr:=hid (show x.finish (.get n s i)= .ok (y.add (.get v f z j)) by rw[Bg.out,Hc.out];simp only[];rw[hl]);have S2:M3 _ g y wv Ae w2:=⟨st.Al,S.AT.step st,S.Hj.cast (ND hl)⟩;have AI:=(Ad.quiet H.out.Al ((dP.out.alloc _).drew)).trans st;clear hl;refine hK _ w2 (fun _=>⟨S2.AT.cell (List.mem_cons_of_mem _ HX.out) 0,S2.AT.cell (List.mem_cons_of_mem _ HN.out) 0,S2.AT.cell (List.mem_cons_self ..) 0,S2.AT.cell (List.mem_cons_self ..) 1,S2.AT.cell (List.mem_cons_self ..) 2,S2.AT.cell (List.mem_cons_self ..) 3⟩) ?_;clear hK;repeat
    refine Ak (v:= ?_) rfl rfl rfl (fun W hW=> ?_) ?_;rotate_left
    ·obtain⟨s1,s2,s3,s4,s5,s6⟩:=hW;go_simp;rfl
    simp only[Bo]
   refine Ab rfl (fun K hK=> ?_);go_simp;have S3:=S2.new (.cells #[.int .i64 v,.int .i64 f,.int .i64 z,.bool j.AL,.int .i64 j.v] 245);refine hK _ _ (fun _=>⟨S3.AT.cell (List.mem_cons_of_mem _ (List.mem_cons_of_mem _ HX.out)) 0,S3.AT.cell (List.mem_cons_of_mem _ (List.mem_cons_of_mem _ HN.out)) 0,S3.AT.cell (List.mem_cons_of_mem _ (List.mem_cons_self ..)) 0,S3.AT.cell (List.mem_cons_of_mem _ (List.mem_cons_self ..)) 1,S3.AT.cell (List.mem_cons_of_mem _ (List.mem_cons_self ..)) 2,S3.AT.cell (List.mem_cons_of_mem _ (List.mem_cons_self ..)) 3⟩) ?_;clear hK;repeat
    refine Ak (v:= ?_) rfl rfl rfl (fun W hW=> ?_) ?_;rotate_left
    ·obtain⟨s1,s2,s3,s4,s5,s6⟩:=hW;go_simp;rfl
    simp only[Bo]
   refine Ab rfl (fun K hK=> ?_);go_simp;refine(Mg (.get v f z j) _ _ _ g y wv Ae _ S3.Al S3.Hj ⟨_,[],rfl,List.mem_cons_self ..,rfl⟩ Hb.out).mono ?_;intro e w3 he;have hf:=hid (UB he S3 (AI.trans (Ad.alloc st.Al _)) (fun y hy=>List.mem_cons_of_mem _ (List.mem_cons_of_mem _ hy)));obtain⟨rfl,_⟩:=he;refine hK _ _ (fun h=>absurd rfl h) ?_;clear hK;simp only[A0];go_wp2
   go_end0
   rw[Hr.out];exact hf.out
theorem M3.nF {F:List (Nat×Obj)} {g:FG} {x:qr} {wv:Value} {Ae:Int} {w:World} {b:Nat} {c:Array Value} {T:TypeId} (h:M3 ((b,.cells c T (0,0))::F) g x wv Ae w) (hf:SV F g x) (BQ:∀q,q∈F→q.1≠b) (i:Nat) (v:Value):
  M3 ((b,.cells (c.setIfInBounds i v) T (0,0))::F) g x wv Ae (w.setCell ⟨b,i,none⟩ v):=by
 have hb:=h.AT.out b _ (List.mem_cons_self ..);have hm:Av [b] w (w.setCell ⟨b,i,none⟩ v):=(Av.refl [b] w).setCell (.inl (by simp)) v;refine⟨h.Al.Bh hm (fun x hx hm=>by rw[List.mem_singleton] at hm;exact hb (hm▸hx)),⟨fun b' o hq=> ?_,fun b' o hq=> ?_⟩,hf.sub fun _ hy=>List.mem_cons_of_mem _ hy⟩
 ·rcases List.mem_cons.1 hq with hq | hq
  ·cases hq;exact BR.set (c:=c) (T:=T) (h.AT.heap _ _ (List.mem_cons_self ..)) i v
  ·exact hm.heap (h.AT.heap _ _ (List.mem_cons_of_mem _ hq)) (by rw[List.mem_singleton];exact BQ _ hq)
 ·rcases List.mem_cons.1 hq with hq | hq
  ·cases hq;exact hb
  ·exact h.AT.out _ _ (List.mem_cons_of_mem _ hq)
theorem M3.ky {F:List (Nat×Obj)} {g:FG} {x:qr} {wv:Value} {Ae:Int} {w w0:World} {L:List Ob} {b:Nat} {c:Array Value} {T:TypeId} (h:M3 ((b,.cells c T (0,0))::F) g x wv Ae w) (st:Ad w0 L w (g.Ax x wv Ae)) (hb:w0.heap.size≤b) (i:Nat) (v:Value):
  Ad w0 L (w.setCell ⟨b,i,none⟩ v) (g.Ax x wv Ae):=by
 have o6:=h.AT.out b _ (List.mem_cons_self ..);have hm:Av [b] w (w.setCell ⟨b,i,none⟩ v):=(Av.refl [b] w).setCell (.inl (by simp)) v;exact⟨st.Al.Bh hm (fun x hx hm=>by rw[List.mem_singleton] at hm;exact o6 (hm▸hx)),st.Bh.trans hm (fun x hx=>by rw[List.mem_singleton] at hx;exact .inr (hx▸hb)),st.fp⟩
theorem Xn (n op:ByteArray) (a c:Wd) (w:World) (g:FG) (x:qr) (wv:Value) (Ae:Int) (F:List (Nat×Obj)) (h:M3 F g x wv Ae w) (hb:SW g) (bo bx ba bc bn:Nat)
  (y8:(bo,Obj.cells #[.string op] 9 (0,0))∈F) (IJ:(bx,Obj.cells #[.pointer (some ⟨g.xb,0,none⟩)] 143 (0,0))∈F) (Qe:(ba,Obj.cells #[.string a.name,.int .i64 a.v] 230 (0,0))∈F) (ON:(bc,Obj.cells #[.string c.name,.int .i64 c.v] 230 (0,0))∈F) (VG:(bn,Obj.cells #[.string n] 9 (0,0))∈F):
  Calls Tryz.prog 114 #[.pointer (some ⟨bo,0,none⟩),.pointer (some ⟨bx,0,none⟩),.pointer (some ⟨ba,0,none⟩),.pointer (some ⟨bc,0,none⟩),.pointer (some ⟨bn,0,none⟩)] w (Mp (x.finish (.set n a op c)) F g x wv Ae w):=by
 have AU:x.finish (.set n a op c)=match x.CA a with
  | .error c=> .error c
  | .ok a=>match x.CA c with
   | .error c=> .error c
   | .ok b=>match x.Dd n with
    | .error c=> .error c
    | .ok (v,y)=> .ok (y.add (.set v op a b)):=rfl
 have H:=hid h;have Hb:=hid hb;have Bg:=hid AU;have HO:=hid y8;have HX:=hid IJ;have HA:=hid Qe;have HC:=hid ON;have HN:=hid VG;clear y8 IJ Qe ON VG;clear h hb AU;go_enter Tryz.func114,Tryz.ntmps114;go_upto_region 0 with fail
 have S:=H.out.quiet (Av.refl [] w).drew;refine Ao (l:=[(0,true),(1,true),(2,true),(4,true),(5,true),(3,false),(6,false),(7,true),(8,false),(9,false)]) (fun W=>W.cell? ⟨bo,0,none⟩=some (.string op)∧W.cell? ⟨bx,0,none⟩=some (.pointer (some ⟨g.xb,0,none⟩))∧W.cell? ⟨ba,0,none⟩=some (.string a.name)∧W.cell? ⟨ba,1,none⟩=some (.int .i64 a.v)∧W.cell? ⟨bc,0,none⟩=some (.string c.name)∧W.cell? ⟨bc,1,none⟩=some (.int .i64 c.v)∧W.cell? ⟨bn,0,none⟩=some (.string n)) 9 (by kernel_rfl) (by kernel_rfl) (by kernel_rfl) (by kernel_rfl) (by kernel_rfl) (fun c a d v w h=>by cases d <;>exact h) ⟨S.AT.cell HO.out 0,S.AT.cell HX.out 0,S.AT.cell HA.out 0,S.AT.cell HA.out 1,S.AT.cell HC.out 0,S.AT.cell HC.out 1,S.AT.cell HN.out 0⟩ ?_;repeat
  refine Ak (v:= ?_) rfl rfl rfl (fun W hW=> ?_) ?_;rotate_left
  ·obtain⟨s1,s2,s3,s4,s5,s6,s7⟩:=hW;go_simp;rfl
  simp only[Bo]
 refine Ab rfl (fun K hK=> ?_);go_simp;refine(Jj a _ g x wv Ae S.Al).mono ?_;intro e w1 he;unfold SY at he;cases h1:x.CA a with
 | error c1=>
  rw[h1] at he;obtain⟨⟨fb,rfl,hb⟩,hm⟩:=he;rw[Bg.out,h1];exact⟨rfl,⟨fb,rfl,hb⟩,((Av.refl [] w).drew).Ac hm⟩
 | ok p=>
  rw[h1] at he;obtain⟨rfl,C9⟩:=he;have S1:=S.quiet C9;refine hK _ w1 (fun _=>⟨S1.AT.cell HO.out 0,S1.AT.cell HX.out 0,S1.AT.cell HA.out 0,S1.AT.cell HA.out 1,S1.AT.cell HC.out 0,S1.AT.cell HC.out 1,S1.AT.cell HN.out 0⟩) ?_;clear hK;repeat
   refine Ak (v:= ?_) rfl rfl rfl (fun W hW=> ?_) ?_;rotate_left
   ·obtain⟨s1,s2,s3,s4,s5,s6,s7⟩:=hW;go_simp;rfl
   simp only[Bo]
  refine Ab rfl (fun K hK=> ?_);go_simp;refine(Jj c _ g x wv Ae S1.Al).mono ?_;intro e w2 he;unfold SY at he;cases h2:x.CA c with
  | error c1=>
   rw[h2] at he;obtain⟨⟨fb,rfl,hb⟩,hm⟩:=he;rw[Bg.out,h1];simp only[];rw[h2];exact⟨rfl,⟨fb,rfl,hb⟩,(((Av.refl [] w).drew).Ac C9).Ac hm⟩
  | ok q=>
   rw[h2] at he;obtain⟨rfl,CY⟩:=he;have S2:=S1.quiet CY;have Hr:=hid (show x.finish (.set n a op c)=match x.Dd n with | .error c=> .error c | .ok (v,y)=> .ok (y.add (.set v op p q)) by rw[Bg.out,h1];simp only[];rw[h2]);have hm:=(((Av.refl [] w).drew).Ac C9).Ac CY;clear h1 h2;refine hK _ w2 (fun _=>⟨S2.AT.cell HO.out 0,S2.AT.cell HX.out 0,S2.AT.cell HA.out 0,S2.AT.cell HA.out 1,S2.AT.cell HC.out 0,S2.AT.cell HC.out 1,S2.AT.cell HN.out 0⟩) ?_;clear hK;repeat
    refine Ak (v:= ?_) rfl rfl rfl (fun W hW=> ?_) ?_;rotate_left
    ·obtain⟨s1,s2,s3,s4,s5,s6,s7⟩:=hW;go_simp;rfl
    simp only[Bo]
   refine Ab rfl (fun K hK=> ?_);go_simp;have S3:=S2.new (.cells #[.int .i64 0,.string op,.bool p.AL,.int .i64 p.v,.bool q.AL,.int .i64 q.v] 238);refine hK _ _ (fun _=>⟨S3.AT.cell (List.mem_cons_of_mem _ HO.out) 0,S3.AT.cell (List.mem_cons_of_mem _ HX.out) 0,S3.AT.cell (List.mem_cons_of_mem _ HA.out) 0,S3.AT.cell (List.mem_cons_of_mem _ HA.out) 1,S3.AT.cell (List.mem_cons_of_mem _ HC.out) 0,S3.AT.cell (List.mem_cons_of_mem _ HC.out) 1,S3.AT.cell (List.mem_cons_of_mem _ HN.out) 0⟩) ?_;clear hK;refine Ab rfl (fun K hK=> ?_);go_simp;refine hK _ _ (fun h=>absurd rfl h) ?_;clear hK;simp only[A0];have JK:=hid S3;have HM:=hid (hm.alloc (.cells #[.int .i64 0,.string op,.bool p.AL,.int .i64 p.v,.bool q.AL,.int .i64 q.v] 238));have Si:∀z,z∈F→z.1≠w2.heap.size:=fun z hz e=>absurd (S2.AT.lt (b:=z.1) (o:=z.2) hz) (by omega)
   have V7:=hm.size;have x9:=hid Si;have zM:=hid V7;have cx:=S3.AT.cell (List.mem_cons_of_mem _ HX.out) 0;have cn:=S3.AT.cell (List.mem_cons_of_mem _ HN.out) 0;obtain⟨nb,Y5⟩:∃b,b=w2.heap.size:=⟨_,rfl⟩;obtain⟨w3,Fm⟩:∃z,z=World.alloc w2 (.cells #[.int .i64 0,.string op,.bool p.AL,.int .i64 p.v,.bool q.AL,.int .i64 q.v] 238):=⟨_,rfl⟩;rw[←Fm] at JK HM cx cn⊢;rw[←Y5] at JK x9 zM⊢;clear S S1 S2 S3 hm C9 CY Si V7 Y5 Fm;go_wp2_with fail;refine(SC n _ g x wv Ae JK.out.Al).mono ?_;intro e w4 he;clear cx cn;unfold ZI at he;cases hl:x.Dd n with
   | error c1=>
    rw[hl] at he;obtain⟨⟨fb,rfl,hb⟩,hm⟩:=he;have Il:=hid (show x.finish (.set n a op c)= .error c1 by rw[Hr.out,hl]);clear hl;go_wp2;rw[Il.out];exact⟨rfl,⟨fb,rfl,hb⟩,HM.out.Ac hm⟩
   | ok r=>
    obtain⟨v,y⟩:=r;rw[hl] at he;obtain⟨rfl,st⟩:=he;have Il:=hid (show x.finish (.set n a op c)= .ok (y.add (.set v op p q)) by rw[Hr.out,hl]);have S4:M3 _ g y wv Ae w4:=⟨st.Al,JK.out.AT.step st,JK.out.Hj.cast (ND hl)⟩;have AI:=(Ad.quiet H.out.Al HM.out).trans st;have S5:=S4.nF (H.out.Hj.cast (ND hl)) x9.out 0 (.int .i64 v);have qq:=hid (S4.ky AI zM.out 0 (.int .i64 v));have V2:=hid S5;have cb:=S4.AT.cell (List.mem_cons_self ..);have cf:=S4.AT.free (List.mem_cons_self ..);have cl:=S4.AT.lt (List.mem_cons_self ..);have cx:=S4.AT.cell (List.mem_cons_of_mem _ HX.out) 0;have Et:=S4.AT.lt (List.mem_cons_of_mem _ HX.out);have BQ:bx≠nb:=x9.out _ HX.out;clear hl st S4 S5 AI;go_wp2_with fail;refine(Mg (.set v op p q) _ _ _ g y wv Ae _ V2.out.Al V2.out.Hj ⟨_,[],rfl,List.mem_cons_self ..,rfl⟩ Hb.out).mono ?_;intro e w5 he;have hf:=hid (UB he V2.out qq.out (fun y hy=>List.mem_cons_of_mem _ hy));obtain⟨rfl,_⟩:=he;clear cb cf cl cx Et BQ;go_wp2
    go_end0
    rw[Il.out];exact hf.out
theorem Xs (w:World) (g:FG) (x:qr) (wv:Value) (Ae:Int) (F:List (Nat×Obj)) (h:M3 F g x wv Ae w) (hb:SW g) (bx:Nat)
  (IJ:(bx,Obj.cells #[.pointer (some ⟨g.xb,0,none⟩)] 143 (0,0))∈F):
  Calls Tryz.prog 122 #[.pointer (some ⟨bx,0,none⟩)] w (Mp (x.finish .atomic) F g x wv Ae w):=by
 have cx:=h.AT.cell IJ 0;have H:=hid h;have Hb:=hid hb;clear h hb IJ;go_enter Tryz.func122,Tryz.ntmps122;go_wp2_with fail;refine(NJ .atomic _ _ _ g x wv Ae F H.out.Al H.out.Hj ⟨rfl,rfl⟩ Hb.out).mono ?_;intro e w1 he;have hf:=hid (Me he H.out (Av.refl _ _) H.out.Al (fun _ hy=>hy));obtain⟨rfl,_⟩:=he;go_wp2
 go_end0
 exact hf.out
theorem dn (n:Int) (w:World) (g:FG) (x:qr) (wv:Value) (Ae:Int) (F:List (Nat×Obj)) (h:M3 F g x wv Ae w) (hb:SW g) (bx bn:Nat)
  (IJ:(bx,Obj.cells #[.pointer (some ⟨g.xb,0,none⟩)] 143 (0,0))∈F) (VG:(bn,Obj.cells #[.int .i64 n] 3 (0,0))∈F):
  Calls Tryz.prog 127 #[.pointer (some ⟨bx,0,none⟩),.pointer (some ⟨bn,0,none⟩)] w (Mp (x.finish (.loop n)) F g x wv Ae w):=by
 have cx:=h.AT.cell IJ 0;have Sj:∀(fn:Fn) (first cap:Array Value) (w:World),(Instr.makeFunc fn first cap).run Tryz.prog w= .ok (.func fn first cap) w:=fun _ _ _ _=>rfl
 have H:=hid h;have Hb:=hid hb;have HN:=hid VG;clear h hb IJ VG;go_enter Tryz.func127,Tryz.ntmps127;go_wp2_with fail;refine(NJ (.loop n) _ _ _ g x wv Ae F H.out.Al H.out.Hj ⟨rfl,bn,rfl,HN.out⟩ Hb.out).mono ?_;intro e w1 he;have hf:=hid (Me he H.out (Av.refl _ _) H.out.Al (fun _ hy=>hy));obtain⟨rfl,_⟩:=he;go_wp2
 go_end0
 exact hf.out
theorem lF (a:Wd) (w:World) (g:FG) (x:qr) (wv:Value) (Ae:Int) (F:List (Nat×Obj)) (h:M3 F g x wv Ae w) (hb:SW g) (bx ba:Nat)
  (IJ:(bx,Obj.cells #[.pointer (some ⟨g.xb,0,none⟩)] 143 (0,0))∈F) (Qe:(ba,Obj.cells #[.string a.name,.int .i64 a.v] 230 (0,0))∈F):
  Calls Tryz.prog 125 #[.pointer (some ⟨bx,0,none⟩),.pointer (some ⟨ba,0,none⟩)] w (Mp (x.finish (.ES a)) F g x wv Ae w):=by
 have cx:=h.AT.cell IJ 0;have ca0:=h.AT.cell Qe 0;have ca1:=h.AT.cell Qe 1;have Sj:∀(fn:Fn) (first cap:Array Value) (w:World),(Instr.makeFunc fn first cap).run Tryz.prog w= .ok (.func fn first cap) w:=fun _ _ _ _=>rfl
 have AU:x.finish (.ES a)=match x.CA a with | .error c=> .error c | .ok a=> .ok (x.DH (.ES a)):=rfl
 have H:=hid h;have Hb:=hid hb;have HX:=hid IJ;have Bg:=hid AU;clear h hb IJ Qe AU;go_enter Tryz.func125,Tryz.ntmps125;go_wp2_with fail;refine(Jj a _ g x wv Ae H.out.Al).mono ?_;intro e w1 he;clear cx ca0 ca1;unfold SY at he;cases Fh:x.CA a with
 | error c=>
  rw[Fh] at he;obtain⟨⟨fb,rfl,hb⟩,hm⟩:=he;have Hr:=hid (show x.finish (.ES a)= .error c by rw[Bg.out,Fh]);clear Fh;go_wp2;rw[Hr.out];exact⟨rfl,⟨fb,rfl,hb⟩,hm⟩
 | ok b=>
  rw[Fh] at he;obtain⟨rfl,hm⟩:=he;have Hr:=hid (show x.finish (.ES a)= .ok (x.DH (.ES b)) by rw[Bg.out,Fh]);have S1:=(H.out.quiet hm).new (.cells #[.bool b.AL,.int .i64 b.v] 235);have cx:=(H.out.quiet hm).AT.cell HX.out 0;have Et:=(H.out.quiet hm).AT.lt HX.out;have xY:=hid S1;have HM:=hid (hm.alloc (.cells #[.bool b.AL,.int .i64 b.v] 235));clear Fh hm S1;go_wp2_with fail;refine(NJ (.ES b) _ _ _ g x wv Ae _ xY.out.Al xY.out.Hj ⟨rfl,_,rfl,List.mem_cons_self ..⟩ Hb.out).mono ?_;intro e w2 he;have hf:=hid (Me he xY.out HM.out H.out.Al (fun _ hy=>List.mem_cons_of_mem _ hy));obtain⟨rfl,_⟩:=he;clear cx Et;go_wp2
  go_end0
  rw[Hr.out];exact hf.out
def QX (k:IF) (b:Ck) (sl:Value) (w:World) (e:Ending) (w':World):Prop:=
 ∃T nb o,e= .returned (.iface T (.pointer (some ⟨nb,0,none⟩)))∧Av [] w w'∧w'.heap[nb]?=some o∧w.heap.size≤nb∧∀(F:List (Nat×Obj)) (ws:List Value),(nb,o)∈F→D4 F sl ws→DI F b ws→DI F (Fr.done ⟨k,b⟩ .nil) [.iface T (.pointer (some ⟨nb,0,none⟩))]
theorem Qy (b:Ck) (p:Option Addr) (n c:Nat) (w:World):Calls Tryz.prog 124 #[.slice p n c] w (QX .atomic b (.slice p n c) w):=by
 go_enter Tryz.func124,Tryz.ntmps124;go_wp2;go_ret;exact⟨_,_,_,rfl,(Av.refl _ _).alloc _,BR.new _ _ _,Nat.le_refl _,fun F ws h1 h2 h3=>⟨_,[],_,ws,rfl,h1,h2,h3,rfl⟩⟩
theorem Xy (a:At) (cb:Nat) (b:Ck) (p:Option Addr) (n c:Nat) (w:World) (h:BR w cb #[.bool a.AL,.int .i64 a.v] 235):Calls Tryz.prog 126 #[.slice p n c,.pointer (some ⟨cb,0,none⟩)] w (QX (.ES a) b (.slice p n c) w):=by
 have c0:=h.cell 0;have c1:=h.cell 1;clear h;go_enter Tryz.func126,Tryz.ntmps126;go_wp2;go_ret;exact⟨_,_,_,rfl,(Av.refl _ _).alloc _,BR.new _ _ _,Nat.le_refl _,fun F ws h1 h2 h3=>⟨_,[],_,ws,rfl,h1,h2,h3,rfl⟩⟩
theorem Tx (k:Int) (cb:Nat) (b:Ck) (p:Option Addr) (n c:Nat) (w:World) (h:BR w cb #[.int .i64 k] 3):Calls Tryz.prog 128 #[.slice p n c,.pointer (some ⟨cb,0,none⟩)] w (QX (.loop k) b (.slice p n c) w):=by
 have c0:=h.cell 0;clear h;go_enter Tryz.func128,Tryz.ntmps128;go_wp2;go_ret;exact⟨_,_,_,rfl,(Av.refl _ _).alloc _,BR.new _ _ _,Nat.le_refl _,fun F ws h1 h2 h3=>⟨_,[],_,ws,rfl,h1,h2,h3,rfl⟩⟩
structure Rd (w0:World) (xb:Nat) (r:PV) (Ae:Int) (E:List (Nat×Obj)) (l:Ws) (w:World):Prop where
 px:∃wv,V0 w xb r wv Ae∧Sl w (fun b=>b≠xb∧b < w0.heap.size) wv (AY l)
 Bh:Av [xb] w0 w
 new:∀q,q∈E→w0.heap.size≤q.1∧w.heap[q.1]?=some q.2
 nd:(E.map Prod.fst).Nodup
 lt:xb < w0.heap.size
theorem Rd.quiet {w0 w w':World} {xb:Nat} {r:PV} {Ae:Int} {E:List (Nat×Obj)} {l:Ws} (h:Rd w0 xb r Ae E l w) (k:Av [] w w'):Rd w0 xb r Ae E l w':=by
 obtain⟨⟨wv,h1,h2⟩,h3,h4,h5,h6⟩:=h;exact⟨⟨wv,h1.Bh k (by simp),h2.Bh k (fun b hb hm=>by cases hm)⟩,h3.Ac k,fun q hq=>⟨(h4 q hq).1,k.heap (h4 q hq).2 (by simp)⟩,h5,h6⟩
theorem Rd.Qo {w0 w:World} {xb:Nat} {r:PV} {Ae:Int} {E:List (Nat×Obj)} {l:Ws} (h:Rd w0 xb r Ae E l w) (o:Obj):Rd w0 xb r Ae ((w.heap.size,o)::E) l (w.alloc o):=by
 have h':=h.quiet ((Av.refl [] w).alloc o);refine⟨h'.px,h'.Bh,fun q hq=> ?_,?_,h.lt⟩
 ·rcases List.mem_cons.1 hq with rfl | hq
  ·exact⟨h.Bh.size,by show(w.heap.push o)[w.heap.size]?=some o;simp⟩
  ·exact h'.new q hq
 ·rw[List.map_cons,List.nodup_cons];refine⟨fun hm=> ?_,h.nd⟩;obtain⟨q,hq,he⟩:=List.mem_map.1 hm;have:=BA (h.new q hq).2;simp only[] at he;omega
theorem Rd.DS {w0 w w':World} {xb:Nat} {r:PV} {Ae:Int} {E:List (Nat×Obj)} {l l':Ws} {v:Value} {e:Ending} (h:Rd w0 xb r Ae E l w) (k:Lw (some (v,l')) xb r Ae (fun b=>b≠xb∧b < w0.heap.size) w e w'):e= .returned v∧Rd w0 xb r Ae E l' w':=by
 obtain⟨rfl,wv,h1,h2,h3⟩:=k;exact⟨rfl,⟨wv,h1,h2⟩,h.Bh.trans h3 (fun x hx=> .inl hx),fun q hq=>⟨(h.new q hq).1,h3.heap (h.new q hq).2 (by simp;have:=(h.new q hq).1;have:=h.lt;omega)⟩,h.nd,h.lt⟩
theorem Rd.fail {w0 w w':World} {xb:Nat} {r:PV} {Ae:Int} {E:List (Nat×Obj)} {l:Ws} {e:Ending} (h:Rd w0 xb r Ae E l w) {c:Int} (k:Fq [xb] c Ae w e w'):Fq [xb] c Ae w0 e w':=
 ⟨k.1,h.Bh.trans k.2 (fun x hx=> .inl hx)⟩
theorem Rd.set {w0 w:World} {xb:Nat} {r:PV} {Ae:Int} {E1 E2:List (Nat×Obj)} {l:Ws} {b:Nat} {c:Array Value} {T:TypeId} (h:Rd w0 xb r Ae (E1++(b,.cells c T (0,0))::E2) l w) (i:Nat) (v:Value):
  Rd w0 xb r Ae (E1++(b,.cells (c.setIfInBounds i v) T (0,0))::E2) l (w.setCell ⟨b,i,none⟩ v):=by
 have hb:=h.new (b,.cells c T (0,0)) (List.mem_append_right _ (List.mem_cons_self ..));have hm:Av [b] w (w.setCell ⟨b,i,none⟩ v):=(Av.refl [b] w).setCell (.inl (by simp)) v;have GH:=h.nd;rw[List.map_append,List.map_cons,List.nodup_append,List.nodup_cons] at GH;have Bi:=h.lt;obtain⟨wv,h1,h2⟩:=h.px;refine⟨⟨wv,h1.Bh hm (by simp;have:=hb.1;simp only[] at this;omega),h2.Bh hm (fun _ hx hm=>by rw[List.mem_singleton] at hm;have:=hb.1;simp only[] at this;have:=hx.2;omega)⟩,h.Bh.trans hm (fun x hx=>by rw[List.mem_singleton] at hx;exact .inr (by rw[hx];exact hb.1)),fun q hq=> ?_,?_,Bi⟩
 ·have DW:∀q:Nat×Obj,w0.heap.size≤q.1∧w.heap[q.1]?=some q.2→q.1≠b→w0.heap.size≤q.1∧(w.setCell ⟨b,i,none⟩ v).heap[q.1]?=some q.2:=fun q hq BQ=>⟨hq.1,hm.heap hq.2 (by rw[List.mem_singleton];exact BQ)⟩
  rcases List.mem_append.1 hq with hq | hq
  ·exact DW q (h.new q (List.mem_append_left _ hq)) (fun e=>GH.2.2 q.1 (List.mem_map_of_mem hq) b (List.mem_cons_self ..) e)
  ·rcases List.mem_cons.1 hq with rfl | hq
   ·exact⟨hb.1,BR.set (c:=c) (T:=T) hb.2 i v⟩
   ·exact DW q (h.new q (List.mem_append_right _ (List.mem_cons_of_mem _ hq))) (fun e=>GH.2.1.1 (List.mem_map.2 ⟨q,hq,e⟩))
 ·rw[List.map_append,List.map_cons];have:=h.nd;rwa[List.map_append,List.map_cons] at this
theorem Rd.Lz {w0 w:World} {xb:Nat} {r:PV} {Ae:Int} {E:List (Nat×Obj)} {l:Ws} {b:Nat} {c:Array Value} {T:TypeId} (h:Rd w0 xb r Ae E l w) (hb:(b,Obj.cells c T (0,0))∈E) (i:Nat) (v:Value):
  ∃E',Rd w0 xb r Ae E' l (w.setCell ⟨b,i,none⟩ v)∧(b,Obj.cells (c.setIfInBounds i v) T (0,0))∈E'∧∀q,q∈E→q.1≠b→q∈E':=by
 obtain⟨E1,E2,rfl⟩:=List.append_of_mem hb;refine⟨_,h.set i v,List.mem_append_right _ (List.mem_cons_self ..),fun q hq BQ=> ?_⟩;rcases List.mem_append.1 hq with hq | hq
 ·exact List.mem_append_left _ hq
 ·rcases List.mem_cons.1 hq with rfl | hq
  ·exact absurd rfl BQ
  ·exact List.mem_append_right _ (List.mem_cons_of_mem _ hq)
theorem Rd.cell {w0 w:World} {xb:Nat} {r:PV} {Ae:Int} {E:List (Nat×Obj)} {l:Ws} {b:Nat} {c:Array Value} {T:TypeId} (h:Rd w0 xb r Ae E l w) (hb:(b,Obj.cells c T (0,0))∈E):∀i:Nat,w.cell? ⟨b,i,none⟩=c[i]?:=BR.cell (h.new _ hb).2
theorem Rd.free {w0 w:World} {xb:Nat} {r:PV} {Ae:Int} {E:List (Nat×Obj)} {l:Ws} {b:Nat} {c:Array Value} {T:TypeId} (h:Rd w0 xb r Ae E l w) (hb:(b,Obj.cells c T (0,0))∈E):∀i:Nat,w.frozen? ⟨b,i,none⟩=false:=BR.free (h.new _ hb).2
theorem Rd.dz {w0 w:World} {xb:Nat} {r:PV} {Ae:Int} {E:List (Nat×Obj)} {l:Ws} {q:Nat×Obj} (h:Rd w0 xb r Ae E l w) (hb:q∈E):q.1 < w.heap.size:=BA (h.new q hb).2
theorem Rd.qK {w0 w:World} {xb:Nat} {r:PV} {Ae:Int} {E:List (Nat×Obj)} {l:Ws} (h:Rd w0 xb r Ae E l w) {b:Nat} {o p:Obj} (h1:(b,o)∈E) (h2:(b,p)∈E):o=p:=by
 have:=(h.new _ h1).2.symm.trans (h.new _ h2).2;simpa using this
def FG.pv (g:FG) (x:qr):PV:=⟨.pointer (some ⟨g.pb,0,none⟩),.map (some g.sb),.map (some g.lb),.slice (some ⟨g.ob,0,none⟩) (g.fr.length+1) g.oc,.int .i64 x.Am⟩
theorem Rd.FZ {F:List (Nat×Obj)} {g:FG} {x:qr} {wv:Value} {Ae:Int} {w0 w:World} {E:List (Nat×Obj)} {l:Ws} (h0:M3 F g x wv Ae w0) (h:Rd w0 g.xb (g.pv x) Ae E l w):
  ∃wv',M3 (E++F) g x wv' Ae w∧Ad w0 (g.Ax x wv Ae) w (g.Ax x wv' Ae):=by
 obtain⟨wv',h1,_⟩:=h.px;have st:Ad w0 (g.Ax x wv Ae) w (g.Ax x wv' Ae):=h0.Al.swap (i:=0) rfl (h.Bh.mono (fun y hy=> .inl (by simpa[Ob.fp] using hy))) h1 (by simp[Ob.fp]) (fun b hb=> .inl hb);refine⟨wv',⟨st.Al,Ba.Gq (h0.AT.step st) ⟨fun b o hb=>(h.new _ hb).2,fun b o hb hl=> ?_⟩,h0.Hj.sub fun _ hy=>List.mem_append_right _ hy⟩,st⟩;have h2:=(h.new _ hb).1;have h3:b∈En (g.Ax x wv Ae):=hl;have:=h0.Al.lt b h3;simp only[] at h2;omega
theorem Rd.start {w0:World} {xb:Nat} {r:PV} {wv:Value} {Ae:Int} {l:Ws} (h:V0 w0 xb r wv Ae) (hs:Sl w0 (fun b=>b≠xb) wv (AY l)):Rd w0 xb r Ae [] l w0:=
 ⟨⟨wv,h,hs.mono fun b hb ho=>⟨ho,hb⟩⟩,Av.refl _ _,fun q hq=>by simp at hq,by simp,BA h⟩
theorem IE.any {F:List (Nat×Obj)} {fs:List Im} {os:List Fr} (h:IE F fs os):(os.any fun f=>f.kind.Cr)=fs.any Im.AP:=by
 induction fs generalizing os with
 | nil=>rw[show os=[] from h];rfl
 | cons f fs ih=>obtain⟨o,r,rfl,h2,h3⟩:=h;simp only[List.any_cons,ih h3,h2.AP]
theorem SV.BE {F:List (Nat×Obj)} {g:FG} {x:qr} (h:SV F g x):x.BE=g.fr.any Im.AP:=h.pr.any
theorem SV.ne {F:List (Nat×Obj)} {g:FG} {x:qr} (h:SV F g x):x.Aa≠[]:=by
 obtain⟨ts,t,h1,_,_⟩:=h.yk;rw[h1];simp
theorem SV.EI {F:List (Nat×Obj)} {g:FG} {x:qr} (h:SV F g x):x.EI=g.fr.length+1:=by
 unfold qr.EI;rw[if_neg h.ne,h.pr.len]
theorem Ls (x:qr) (s:Ck→Ck):(x.add s).Am=x.Am:=by
 unfold qr.add;split
 ·rfl
 ·split <;>rfl
theorem Oy {x y:qr} {n:ByteArray} {v:Int} (h:x.Dd n= .ok (v,y)):y.Am=x.Am:=by
 unfold qr.Dd at h;split at h
 ·cases h
 ·split at h
  ·cases h;rfl
  ·split at h
   ·cases h
   ·cases h;rfl
theorem Ep {x y:qr} {s:OH} (h:x.finish s= .ok y):y.Am=x.Am:=by
 cases s with
 | set n a op b=>
  simp only[qr.finish] at h;split at h
  ·cases h
  ·split at h
   ·cases h
   ·split at h
    ·cases h
    ·rename_i hl;cases h;rw[Ls];exact Oy hl
 | get n s i=>
  simp only[qr.finish] at h;split at h
  ·cases h
  ·split at h
   ·cases h
   ·rename_i hl;cases h;rw[Ls];exact Oy hl
 | put n a i=>
  simp only[qr.finish] at h;split at h
  ·cases h
  ·split at h
   ·cases h
   ·cases h;rw[Ls]
 | out a=>
  simp only[qr.finish] at h;split at h
  ·cases h
  ·cases h;rw[Ls]
 | atomic=>simp only[qr.finish] at h;cases h;rfl
 | ES a=>
  simp only[qr.finish] at h;split at h
  ·cases h
  ·cases h;rfl
 | loop n=>simp only[qr.finish] at h;cases h;rfl
def PM (g:FG) (x:qr) (wv:Value) (Ae:Int):List Nat:=if x.Aa=[] then [g.xb] else En (g.Ax x wv Ae)
structure sT (x:qr) (r:PV):Prop where
 th:x.Aa=[]
 o:r.o= .slice none 0 0
def ed (F:List (Nat×Obj)) (g:FG) (x:qr) (wv:Value) (Ae:Int) (w:World) (r:PV):Prop:=(M3 F g x wv Ae w∧r=g.pv x)∨(sT x r∧V0 w g.xb r wv Ae)
theorem ed.px {F:List (Nat×Obj)} {g:FG} {x:qr} {wv:Value} {Ae:Int} {w:World} {r:PV} (h:ed F g x wv Ae w r):V0 w g.xb r wv Ae:=by
 rcases h with⟨h,rfl⟩ | ⟨_,h⟩
 ·exact h.Al.AP (i:=0) rfl
 ·exact h
def Nj (res:Except Int qr) (F:List (Nat×Obj)) (g:FG) (x:qr) (wv:Value) (Ae:Int) (w:World) (e:Ending) (w':World):Prop:=match res with
 | .error c=>Fq (PM g x wv Ae) c Ae w e w'
 | .ok y=>e= .returned (.tuple #[])∧∃g' F' wv',g'.xb=g.xb∧V1 F F'∧Ad w (g.Ax x wv Ae) w' (g'.Ax y wv' Ae)∧M3 F' g' y wv' Ae w'
theorem AZ {g:FG} {x:qr} {wv:Value} {c Ae:Int} {w:World} {e:Ending} {w':World} (h:Fq [g.xb] c Ae w e w'):Fq (PM g x wv Ae) c Ae w e w':=
 ⟨h.1,h.2.mono fun y hy=> .inl (by
   unfold PM;split
   · exact hy
   · rw[List.mem_singleton] at hy;rw[hy];exact List.mem_flatMap.2 ⟨_,List.mem_cons_self ..,List.mem_singleton.2 rfl⟩)⟩
theorem Cf {g:FG} {x:qr} {wv:Value} {c Ae:Int} {w:World} {e:Ending} {w':World} (hx:x.Aa≠[]) (h:Fq (En (g.Ax x wv Ae)) c Ae w e w'):Fq (PM g x wv Ae) c Ae w e w':=by
 unfold PM;rw[if_neg hx];exact h
def qr.LV (x:qr) (w:ByteArray) (s:OH):Except Int qr:=
 if x.Aa=[]∨(s.Cr=true∧x.BE=false)∨(bs w=AF∧x.BE=true) then .error 3
 else match x.finish s with
  | .error c=> .error c
  | .ok y=>if 14 < y.Am+1∨4 < y.EI then .error 5 else .ok {y with Am:=y.Am+1}
theorem Fg {x:qr} {w:ByteArray} {r:Ws} {s:OH} (h:GU w r=some s):x.AO w r=x.LV w s:=by
 unfold qr.AO;rw[h];rfl
theorem Cb {x:qr} {w:ByteArray} {r:Ws} (h:GU w r=none):x.AO w r= .error 2:=by
 unfold qr.AO;rw[h]
theorem Rw {w:ByteArray} {r:Ws} (h:bs w=Ds):GU w r=ED .out r:=by
 unfold GU;rw[h];rfl
theorem Vj {w:ByteArray} {r:Ws} (h:bs w=I8):GU w r=ED .ES r:=by
 unfold GU;rw[h];rfl
theorem OW {w:ByteArray} {r:Ws} (h:bs w=C6):GU w r=I1 r:=by
 unfold GU;rw[h];rfl
theorem PL {w:ByteArray} {r:Ws} (h:bs w=AF):GU w r=FZ .atomic r:=by
 unfold GU;rw[h];rfl
theorem Jr {w:ByteArray} {r:Ws} (h:bs w=CK):GU w r=HU r:=by
 unfold GU;rw[h];rfl
theorem LU {w:ByteArray} {r:Ws} (h:bs w=Cw):GU w r=Js r:=by
 unfold GU;rw[h];rfl
theorem LS {w:ByteArray} {r:Ws} (h:bs w=CL):GU w r=Jq r:=by
 unfold GU;rw[h];rfl
theorem M3.count {F:List (Nat×Obj)} {g:FG} {y:qr} {wv:Value} {Ae:Int} {w w0:World} {L:List Ob} (h:M3 F g y wv Ae w) (st:Ad w0 L w (g.Ax y wv Ae)):
  Ad w0 L (w.setCell ⟨g.xb,6,none⟩ (.int .i64 (y.Am+1))) (g.Ax {y with Am:=y.Am+1} wv Ae)∧M3 F g {y with Am:=y.Am+1} wv Ae (w.setCell ⟨g.xb,6,none⟩ (.int .i64 (y.Am+1))):=by
 have t:Ad w (g.Ax y wv Ae) (w.setCell ⟨g.xb,6,none⟩ (.int .i64 (y.Am+1))) (g.Ax {y with Am:=y.Am+1} wv Ae):=h.Al.set (i:=0) rfl 6 (.int .i64 (y.Am+1));exact⟨st.trans t,⟨t.Al,h.AT.step t,h.Hj.yk,h.Hj.pr⟩⟩
theorem Rd.YI {w0 w:World} {xb:Nat} {r:PV} {Ae:Int} {E:List (Nat×Obj)} {l:Ws} (h:Rd w0 xb r Ae E l w) (o:Obj):∃E',Rd w0 xb r Ae E' l (w.alloc o)∧(w.heap.size,o)∈E'∧V1 E E':=
 ⟨_,h.Qo o,List.mem_cons_self ..,fun _ hy=>List.mem_cons_of_mem _ hy⟩
theorem Gz {F:List (Nat×Obj)} {g:FG} {x:qr} {nm:ByteArray} {s:OH} (h:SV F g x) (h1:s.Cr=true→g.fr.any Im.AP=true) (h2:bs nm=AF→g.fr.any Im.AP=false):
  x.LV nm s=match x.finish s with
   | .error c=> .error c
   | .ok y=>if 14 < y.Am+1∨4 < y.EI then .error 5 else .ok {y with Am:=y.Am+1}:=by
 unfold qr.LV;rw[if_neg];rintro(h3 | ⟨h3,h4⟩ | ⟨h3,h4⟩)
 ·exact h.ne h3
 ·rw[h.BE,h1 h3] at h4;cases h4
 ·rw[h.BE,h2 h3] at h4;cases h4
theorem OY {F:List (Nat×Obj)} {g:FG} {x:qr} {nm:ByteArray} {s:OH} (h:SV F g x) (h1:(s.Cr=true∧g.fr.any Im.AP=false)∨(bs nm=AF∧g.fr.any Im.AP=true)):x.LV nm s= .error 3:=by
 unfold qr.LV;rw[if_pos];rw[h.BE];exact .inr h1
theorem Ek {x:qr} {nm:ByteArray} {s:OH} (h:x.Aa=[]):x.LV nm s= .error 3:=by
 unfold qr.LV;rw[if_pos (.inl h)]
theorem lB (nm:ByteArray) (ws:Ws) (mb:Nat) (w:World) (g:FG) (x:qr) (wv:Value) (Ae:Int) (F:List (Nat×Obj)) (r:PV) (h:ed F g x wv Ae w r) (hs:Sl w (fun b=>b≠g.xb) wv (AY ws)) (hz:∀a,a∈ws→a.size≤1000000) (hg:Gl mb w) (IS:g.xb∉Pf mb) (hb:SW g) (AI:0≤x.Am∧x.Am≤1000) (hk:bs nm=Ds):
  Calls Tryz.prog 101 #[.pointer (some ⟨g.xb,0,none⟩),.string nm] w (Nj (x.AO nm ws) F g x wv Ae w):=by
 have H:=hid h;have Hz:=hid hz;have Hg:=hid hg;have Hb:=hid hb;have Hk:=hid hk;have HX:=hid IS;have Sj:∀(fn:Fn) (first cap:Array Value) (w:World),(Instr.makeFunc fn first cap).run Tryz.prog w= .ok (.func fn first cap) w:=fun _ _ _ _=>rfl
 have R0:=hid ((Rd.start (r:=r) h.px hs).Qo (.cells #[.pointer (some ⟨g.xb,0,none⟩)] 143));have Bi:=BA h.px;obtain⟨bx,IJ⟩:∃b,b=w.heap.size:=⟨_,rfl⟩;have qp:=hid IJ;have q0:=Ar (x:=nm) (k:=CK) (by rw[hk];decide);unfold CK at q0;have q1:=Ar (x:=nm) (k:=Cw) (by rw[hk];decide);unfold Cw at q1;have q2:=Ar (x:=nm) (k:=CL) (by rw[hk];decide);unfold CL at q2;have q3:=BN hk;unfold Ds at q3;have qa:=Ar (x:=nm) (k:=AF) (by rw[hk];decide);unfold AF at qa;clear h hs hz hg IS hb hk IJ;go_enter Tryz.func101,Tryz.ntmps101;have O8:Hid ((w.heap.size,Obj.cells #[.pointer (some ⟨g.xb,0,none⟩)] 143 (0,0))∈[(w.heap.size,Obj.cells #[.pointer (some ⟨g.xb,0,none⟩)] 143 (0,0))]):=hid (List.mem_cons_self ..);obtain⟨E,hE⟩:∃E,E=[(w.heap.size,Obj.cells #[.pointer (some ⟨g.xb,0,none⟩)] 143 (0,0))]:=⟨_,rfl⟩;rw[←hE] at O8 R0;clear hE;have MX:=O8;clear O8;obtain⟨KT,p1,s1⟩:=R0.out.px;have cb:=R0.out.cell MX.out 0;have XN:=hid (Ie mb ws _ g.xb r KT Ae _ p1 s1 (fun h=>h.1 rfl) Hz.out (Hg.out.Bh R0.out.Bh (fun b hb hm=>by rw[List.mem_singleton] at hm;rw[hm] at hb;exact HX.out hb)) HX.out);clear p1 s1;go_wp2_with fail;refine XN.out.mono ?_;intro e w1 he;clear cb XN;cases hw:EG ws with
 | none=>
  rw[hw] at he;obtain⟨⟨fb,rfl,hb⟩,hm⟩:=he;have hr:=hid (Cb (x:=x) (w:=nm) (r:=ws) (by rw[Rw Hk.out];unfold ED;rw[hw]));clear hw;go_wp2;rw[hr.out];exact⟨rfl,AZ (R0.out.fail ⟨⟨fb,rfl,hb⟩,hm⟩)⟩
 | some p=>
  obtain⟨a,l⟩:=p;rw[hw] at he;obtain⟨rfl,R1⟩:=R0.out.DS he;obtain⟨E2,R2,m2,more2⟩:=R1.YI (.cells #[.string a.name,.int .i64 a.v] 230);have R:=hid R2;have MA:=hid m2;replace MX:=hid (more2 _ MX.out);have Hw:=hid hw;have Nb:a.val= .agg #[.string a.name,.int .i64 a.v]:=rfl;simp only[Nb];clear hw R1 R2 m2 more2 he Nb R0;obtain⟨ba,Qe⟩:∃b,b=w1.heap.size:=⟨_,rfl⟩;obtain⟨UX,p2,s2⟩:=R.out.px;have cb:=R.out.cell MX.out 0;have Kg:=hid (Dz l _ g.xb r UX Ae _ p2 s2);clear p2 s2;go_wp2_with fail;refine Kg.out.mono ?_;intro e w3 he;clear cb;cases l with
  | cons b l2=>
   obtain⟨⟨fb,rfl,hb⟩,hm⟩:=he;have hr:=hid (Cb (x:=x) (w:=nm) (r:=ws) (by rw[Rw Hk.out];unfold ED;rw[Hw.out];rfl));go_wp2;rw[hr.out];exact⟨rfl,AZ (R.out.fail ⟨⟨fb,rfl,hb⟩,hm⟩)⟩
  | nil=>
   obtain⟨rfl,R3⟩:=R.out.DS he;have Hr:=hid (Fg (x:=x) (w:=nm) (r:=ws) (s:= .out a) (by rw[Rw Hk.out];unfold ED;rw[Hw.out];rfl));rcases H.out with⟨hS,rfl⟩ | ⟨hN,hP⟩;rotate_left
   ·obtain⟨wvq,p3,_⟩:=R3.px;have x5:w3.cell? ⟨g.xb,5,none⟩=some (.slice none 0 0):=(p3.cell 5).trans (congrArg some hN.o);have x1:w3.cell? ⟨g.xb,1,none⟩=some (.int .i64 Ae):=p3.cell 1;have xl:g.xb < w3.heap.size:=p3.lt;have cb:=R3.cell MX.out 0;have hr:=hid (Hr.out.trans (Ek hN.th));have ZM:=hid R3;clear p3 he R3 R Kg Hr hN hP;go_wp2_with fail;refine(AS _ _ _).mono ?_;rintro e w5 ⟨⟨fb,rfl,hb⟩,hm⟩;go_wp2;rw[hr.out];exact⟨rfl,AZ ⟨⟨fb,rfl,hb⟩,ZM.out.Bh.Ac hm⟩⟩
   obtain⟨Ki,S3,K8⟩:=R3.FZ hS;have KM:=hid hS.Hj.ne;clear hS;obtain⟨wvq,p3,_⟩:=R3.px;have x5:w3.cell? ⟨g.xb,5,none⟩=some (.slice (some ⟨g.ob,0,none⟩) (g.fr.length+1) g.oc):=p3.cell 5;have x1:w3.cell? ⟨g.xb,1,none⟩=some (.int .i64 Ae):=p3.cell 1;have xl:g.xb < w3.heap.size:=p3.lt;have cb:=R3.cell MX.out 0;have Gb:((g.fr.length:Int)+1==0)=false:=by rw[beq_eq_false_iff_ne];omega
   have JK:=hid S3;have FC:=hid K8;clear S3 K8 p3 he R3 R Kg;have Hp:=hid (Hr.out.trans (Gz JK.out.Hj (fun h=>by cases h) (fun h=>by rw[Hk.out] at h;exact absurd h (by decide))));clear Hr;go_wp2_with fail;refine(iM a _ g x Ki Ae _ JK.out Hb.out _ _ (List.mem_append_left _ MX.out) (List.mem_append_left _ MA.out)).mono ?_;intro e w4 he;clear cb x5 x1 xl Gb;unfold Mp at he;cases CI:x.finish (.out a) with
   | error c=>
    rw[CI] at he;obtain⟨⟨fb,rfl,hb⟩,hm⟩:=he;have hr:Hid (x.AO nm ws= .error c):=hid (by rw[Hp.out,CI]);clear CI;go_wp2;rw[hr.out];exact⟨rfl,Cf KM.out ⟨⟨fb,rfl,hb⟩,FC.out.Bh.Ac hm⟩⟩
   | ok y=>
    rw[CI] at he;obtain⟨rfl,g',F',Ff,D1,OU,S4⟩:=he;have V3:=Ep CI;have hr:x.AO nm ws=if 14 < y.Am+1∨4 < y.EI then .error 5 else .ok {y with Am:=y.Am+1}:=by rw[Hp.out,CI]
    rw[S4.Hj.EI] at hr;have Lr:True→wrap64 (y.Am+1)=y.Am+1:=fun _=>IntWalk.wrap64_in _ (by omega)
    have f4:=Ge S4.Al;have y6:w4.cell? ⟨g.xb,6,none⟩=some (.int .i64 y.Am):=Ff▸f4.c 6;have y5:w4.cell? ⟨g.xb,5,none⟩=some (.slice (some ⟨g'.ob,0,none⟩) (g'.fr.length+1) g'.oc):=Ff▸f4.c 5;have y1:w4.cell? ⟨g.xb,1,none⟩=some (.int .i64 Ae):=Ff▸f4.c 1;have yf:World.frozen? w4 ⟨g.xb,6,none⟩=false:=Ff▸f4.f 6;have yl:g.xb < w4.heap.size:=Ff▸f4.lt;have cb:=S4.AT.cell (D1 _ (List.mem_append_left _ MX.out)) 0;have IJ:w.heap.size≠g.xb:=fun e=>by rw[e] at Bi;omega
    obtain⟨t5,S5⟩:=S4.count (FC.out.trans OU);rw[Ff] at t5 S5;have NR:=hid t5;have V2:=hid S5;have ZJ:=hid Ff;have JJ:=hid D1;have NP:=hid hr;clear CI f4 S4 OU t5 S5 Ff D1 hr V3;by_cases Kj:14 < y.Am+1
    ·have Sf:x.AO nm ws= .error 5:=NP.out.trans (if_pos (.inl Kj));have Il:=hid Sf;clear Sf;go_wp2_with fail;refine(AS _ _ _).mono ?_;rintro e w5 ⟨⟨fb,rfl,hb⟩,hm⟩;go_wp2;rw[Il.out];exact⟨rfl,Cf KM.out ⟨⟨fb,rfl,hb⟩,NR.out.Bh.Ac hm⟩⟩
    ·by_cases h4:4 < g'.fr.length+1
     ·have Zf:(4:Int) < (g'.fr.length:Int)+1:=by omega
      have Il:=hid (NP.out.trans (if_pos (.inr h4)));clear h4;go_wp2_with fail;refine(AS _ _ _).mono ?_;rintro e w5 ⟨⟨fb,rfl,hb⟩,hm⟩;go_wp2;rw[Il.out];exact⟨rfl,Cf KM.out ⟨⟨fb,rfl,hb⟩,NR.out.Bh.Ac hm⟩⟩
     ·have Zf:¬(4:Int) < (g'.fr.length:Int)+1:=by omega
      have Il:=hid (NP.out.trans (if_neg (fun h=>h.elim Kj h4)));clear h4;go_wp2
      go_end0
      rw[Il.out];exact⟨rfl,g',F',Ki,ZJ.out,fun y hy=>JJ.out y (List.mem_append_right _ hy),NR.out,V2.out⟩
theorem pq (nm:ByteArray) (ws:Ws) (mb:Nat) (w:World) (g:FG) (x:qr) (wv:Value) (Ae:Int) (F:List (Nat×Obj)) (r:PV) (h:ed F g x wv Ae w r) (hs:Sl w (fun b=>b≠g.xb) wv (AY ws)) (hz:∀a,a∈ws→a.size≤1000000) (hg:Gl mb w) (IS:g.xb∉Pf mb) (hb:SW g) (AI:0≤x.Am∧x.Am≤1000) (hk:bs nm=I8):
  Calls Tryz.prog 101 #[.pointer (some ⟨g.xb,0,none⟩),.string nm] w (Nj (x.AO nm ws) F g x wv Ae w):=by
 have H:=hid h;have Hz:=hid hz;have Hg:=hid hg;have Hb:=hid hb;have Hk:=hid hk;have HX:=hid IS;have Sj:∀(fn:Fn) (first cap:Array Value) (w:World),(Instr.makeFunc fn first cap).run Tryz.prog w= .ok (.func fn first cap) w:=fun _ _ _ _=>rfl
 have R0:=hid ((Rd.start (r:=r) h.px hs).Qo (.cells #[.pointer (some ⟨g.xb,0,none⟩)] 143));have Bi:=BA h.px;obtain⟨bx,IJ⟩:∃b,b=w.heap.size:=⟨_,rfl⟩;have qp:=hid IJ;have q0:=Ar (x:=nm) (k:=CK) (by rw[hk];decide);unfold CK at q0;have q1:=Ar (x:=nm) (k:=Cw) (by rw[hk];decide);unfold Cw at q1;have q2:=Ar (x:=nm) (k:=CL) (by rw[hk];decide);unfold CL at q2;have q3:=Ar (x:=nm) (k:=Ds) (by rw[hk];decide);unfold Ds at q3;have q4:=Ar (x:=nm) (k:=AF) (by rw[hk];decide);unfold AF at q4;have q5:=BN hk;unfold I8 at q5;clear h hs hz hg IS hb hk IJ;go_enter Tryz.func101,Tryz.ntmps101;have O8:Hid ((w.heap.size,Obj.cells #[.pointer (some ⟨g.xb,0,none⟩)] 143 (0,0))∈[(w.heap.size,Obj.cells #[.pointer (some ⟨g.xb,0,none⟩)] 143 (0,0))]):=hid (List.mem_cons_self ..);obtain⟨E,hE⟩:∃E,E=[(w.heap.size,Obj.cells #[.pointer (some ⟨g.xb,0,none⟩)] 143 (0,0))]:=⟨_,rfl⟩;rw[←hE] at O8 R0;clear hE;have MX:=O8;clear O8;obtain⟨KT,p1,s1⟩:=R0.out.px;have cb:=R0.out.cell MX.out 0;have XN:=hid (Ie mb ws _ g.xb r KT Ae _ p1 s1 (fun h=>h.1 rfl) Hz.out (Hg.out.Bh R0.out.Bh (fun b hb hm=>by rw[List.mem_singleton] at hm;rw[hm] at hb;exact HX.out hb)) HX.out);clear p1 s1;go_wp2_with fail;refine XN.out.mono ?_;intro e w1 he;clear cb XN;cases hw:EG ws with
 | none=>
  rw[hw] at he;obtain⟨⟨fb,rfl,hb⟩,hm⟩:=he;have hr:=hid (Cb (x:=x) (w:=nm) (r:=ws) (by rw[Vj Hk.out];unfold ED;rw[hw]));clear hw;go_wp2;rw[hr.out];exact⟨rfl,AZ (R0.out.fail ⟨⟨fb,rfl,hb⟩,hm⟩)⟩
 | some p=>
  obtain⟨a,l⟩:=p;rw[hw] at he;obtain⟨rfl,R1⟩:=R0.out.DS he;obtain⟨E2,R2,m2,more2⟩:=R1.YI (.cells #[.string a.name,.int .i64 a.v] 230);have R:=hid R2;have MA:=hid m2;replace MX:=hid (more2 _ MX.out);have Hw:=hid hw;have Nb:a.val= .agg #[.string a.name,.int .i64 a.v]:=rfl;simp only[Nb];clear hw R1 R2 m2 more2 he Nb R0;obtain⟨ba,Qe⟩:∃b,b=w1.heap.size:=⟨_,rfl⟩;obtain⟨UX,p2,s2⟩:=R.out.px;have cb:=R.out.cell MX.out 0;have Kg:=hid (Dz l _ g.xb r UX Ae _ p2 s2);clear p2 s2;go_wp2_with fail;refine Kg.out.mono ?_;intro e w3 he;clear cb;cases l with
  | cons b l2=>
   obtain⟨⟨fb,rfl,hb⟩,hm⟩:=he;have hr:=hid (Cb (x:=x) (w:=nm) (r:=ws) (by rw[Vj Hk.out];unfold ED;rw[Hw.out];rfl));go_wp2;rw[hr.out];exact⟨rfl,AZ (R.out.fail ⟨⟨fb,rfl,hb⟩,hm⟩)⟩
  | nil=>
   obtain⟨rfl,R3⟩:=R.out.DS he;have Hr:=hid (Fg (x:=x) (w:=nm) (r:=ws) (s:= .ES a) (by rw[Vj Hk.out];unfold ED;rw[Hw.out];rfl));rcases H.out with⟨hS,rfl⟩ | ⟨hN,hP⟩;rotate_left
   ·obtain⟨wvq,p3,_⟩:=R3.px;have x5:w3.cell? ⟨g.xb,5,none⟩=some (.slice none 0 0):=(p3.cell 5).trans (congrArg some hN.o);have x1:w3.cell? ⟨g.xb,1,none⟩=some (.int .i64 Ae):=p3.cell 1;have xl:g.xb < w3.heap.size:=p3.lt;have cb:=R3.cell MX.out 0;have hr:=hid (Hr.out.trans (Ek hN.th));have ZM:=hid R3;clear p3 he R3 R Kg Hr hN hP;go_wp2_with fail;refine(AS _ _ _).mono ?_;rintro e w5 ⟨⟨fb,rfl,hb⟩,hm⟩;go_wp2;rw[hr.out];exact⟨rfl,AZ ⟨⟨fb,rfl,hb⟩,ZM.out.Bh.Ac hm⟩⟩
   obtain⟨Ki,S3,K8⟩:=R3.FZ hS;have KM:=hid hS.Hj.ne;clear hS;obtain⟨wvq,p3,_⟩:=R3.px;have x5:w3.cell? ⟨g.xb,5,none⟩=some (.slice (some ⟨g.ob,0,none⟩) (g.fr.length+1) g.oc):=p3.cell 5;have x1:w3.cell? ⟨g.xb,1,none⟩=some (.int .i64 Ae):=p3.cell 1;have xl:g.xb < w3.heap.size:=p3.lt;have cb:=R3.cell MX.out 0;have Gb:((g.fr.length:Int)+1==0)=false:=by rw[beq_eq_false_iff_ne];omega
   have JK:=hid S3;have FC:=hid K8;clear S3 K8 p3 he R3 R Kg;have Hp:=hid (Hr.out.trans (Gz JK.out.Hj (fun h=>by cases h) (fun h=>by rw[Hk.out] at h;exact absurd h (by decide))));clear Hr;go_wp2_with fail;refine(lF a _ g x Ki Ae _ JK.out Hb.out _ _ (List.mem_append_left _ MX.out) (List.mem_append_left _ MA.out)).mono ?_;intro e w4 he;clear cb x5 x1 xl Gb;unfold Mp at he;cases CI:x.finish (.ES a) with
   | error c=>
    rw[CI] at he;obtain⟨⟨fb,rfl,hb⟩,hm⟩:=he;have hr:Hid (x.AO nm ws= .error c):=hid (by rw[Hp.out,CI]);clear CI;go_wp2;rw[hr.out];exact⟨rfl,Cf KM.out ⟨⟨fb,rfl,hb⟩,FC.out.Bh.Ac hm⟩⟩
   | ok y=>
    rw[CI] at he;obtain⟨rfl,g',F',Ff,D1,OU,S4⟩:=he;have V3:=Ep CI;have hr:x.AO nm ws=if 14 < y.Am+1∨4 < y.EI then .error 5 else .ok {y with Am:=y.Am+1}:=by rw[Hp.out,CI]
    rw[S4.Hj.EI] at hr;have Lr:True→wrap64 (y.Am+1)=y.Am+1:=fun _=>IntWalk.wrap64_in _ (by omega)
    have f4:=Ge S4.Al;have y6:w4.cell? ⟨g.xb,6,none⟩=some (.int .i64 y.Am):=Ff▸f4.c 6;have y5:w4.cell? ⟨g.xb,5,none⟩=some (.slice (some ⟨g'.ob,0,none⟩) (g'.fr.length+1) g'.oc):=Ff▸f4.c 5;have y1:w4.cell? ⟨g.xb,1,none⟩=some (.int .i64 Ae):=Ff▸f4.c 1;have yf:World.frozen? w4 ⟨g.xb,6,none⟩=false:=Ff▸f4.f 6;have yl:g.xb < w4.heap.size:=Ff▸f4.lt;have cb:=S4.AT.cell (D1 _ (List.mem_append_left _ MX.out)) 0;have IJ:w.heap.size≠g.xb:=fun e=>by rw[e] at Bi;omega
    obtain⟨t5,S5⟩:=S4.count (FC.out.trans OU);rw[Ff] at t5 S5;have NR:=hid t5;have V2:=hid S5;have ZJ:=hid Ff;have JJ:=hid D1;have NP:=hid hr;clear CI f4 S4 OU t5 S5 Ff D1 hr V3;by_cases Kj:14 < y.Am+1
    ·have Sf:x.AO nm ws= .error 5:=NP.out.trans (if_pos (.inl Kj));have Il:=hid Sf;clear Sf;go_wp2_with fail;refine(AS _ _ _).mono ?_;rintro e w5 ⟨⟨fb,rfl,hb⟩,hm⟩;go_wp2;rw[Il.out];exact⟨rfl,Cf KM.out ⟨⟨fb,rfl,hb⟩,NR.out.Bh.Ac hm⟩⟩
    ·by_cases h4:4 < g'.fr.length+1
     ·have Zf:(4:Int) < (g'.fr.length:Int)+1:=by omega
      have Il:=hid (NP.out.trans (if_pos (.inr h4)));clear h4;go_wp2_with fail;refine(AS _ _ _).mono ?_;rintro e w5 ⟨⟨fb,rfl,hb⟩,hm⟩;go_wp2;rw[Il.out];exact⟨rfl,Cf KM.out ⟨⟨fb,rfl,hb⟩,NR.out.Bh.Ac hm⟩⟩
     ·have Zf:¬(4:Int) < (g'.fr.length:Int)+1:=by omega
      have Il:=hid (NP.out.trans (if_neg (fun h=>h.elim Kj h4)));clear h4;go_wp2
      go_end0
      rw[Il.out];exact⟨rfl,g',F',Ki,ZJ.out,fun y hy=>JJ.out y (List.mem_append_right _ hy),NR.out,V2.out⟩
end Go.Proofs.YtpdfifdlhpmofaaGreatDoor
