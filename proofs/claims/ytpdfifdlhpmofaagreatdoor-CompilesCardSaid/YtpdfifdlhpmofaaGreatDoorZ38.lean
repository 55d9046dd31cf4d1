/-
  Part 38 of the proof, packed by program out of P13.
-/
import Derived.Test.YtpdfifdlhpmofaaGreatDoorZ18
import Derived.Test.YtpdfifdlhpmofaaGreatDoorZ14
set_option linter.unusedVariables false
set_option linter.unusedSimpArgs false
set_option maxHeartbeats 3200000
set_option maxRecDepth 100000
namespace Go.Proofs.YtpdfifdlhpmofaaGreatDoor
open Go.RowKit
open Go.Lib (hid)
theorem GS.Up (g:GS) (c:Nat):(GS.GD c g).Af.length=g.Af.length+16:=by
 unfold GS.GD GS.GQ;simp only[GS.Dh,GS.Gi,GS.Jk,GS.CX,GS.FJ,GS.Mu,GS.LZ,GS.DL,GS.FT]
theorem GS.YP (g:GS) (c:Nat):(GS.GD c g).Ah=g.Ah:=by
 unfold GS.GD GS.GQ;simp only[GS.Ce,GS.EB,GS.Gs,GS.Cg,GS.CG,GS.H9,GS.Kz,GS.B8,GS.DF]
theorem GS.Uo (g:GS) (c:Nat):(GS.GC c g).Af.length=g.Af.length+14:=by
 unfold GS.GC GS.GQ;simp only[GS.Dh,GS.Mu,GS.LZ,GS.FM,GS.DL,GS.FT]
theorem GS.YO (g:GS) (c:Nat):(GS.GC c g).Ah=g.Ah:=by
 unfold GS.GC GS.GQ;simp only[GS.Ce,GS.H9,GS.Kz,GS.Lm,GS.B8,GS.DF]
theorem GS.WD (g:GS) (c:Nat):(GS.Le c g).Af.length=g.Af.length+4:=by
 unfold GS.Le GS.GQ;simp only[GS.Dh,GS.N1,GS.DL,GS.FT]
theorem GS.bI (g:GS) (c:Nat):(GS.Le c g).Ah=g.Ah:=by
 unfold GS.Le GS.GQ;simp only[GS.Ce,GS.Kr,GS.B8,GS.DF]
theorem GS.UA (g:GS) (c:Nat):(GS.GY c g).Af.length=g.Af.length+3:=by
 unfold GS.GY GS.GQ;simp only[GS.Dh,GS.N1,GS.DL,GS.FT]
theorem GS.Zi (g:GS) (c:Nat):(GS.GY c g).Ah=g.Ah:=by
 unfold GS.GY GS.GQ;simp only[GS.Ce,GS.Kr,GS.B8,GS.DF]
theorem GS.SE (g:GS) (i:GI):(g.Aq i).cells=g.cells:=rfl
theorem GS.O0 (g:GS) (n:ByteArray) (d:Int) (a b:Ag):(g.A2 n d a b).cells=g.cells:=rfl
theorem GS.Qg (g:GS) (r:Int):(g.B0 r).cells=g.cells:=rfl
theorem GS.PR (g:GS) (r:Int):(g.BI r).cells=g.cells:=by
 unfold GS.BI;simp only[GS.Qg,GS.O0,show∀(g:GS) (r k:Int),(g.lo r k).cells=g.cells from fun _ _ _=>rfl]
theorem GS.WW (g:GS) (c:Nat):(GS.GD c g).cells=g.cells:=by
 unfold GS.GD GS.GQ;simp only[show∀(g:GS) (l:D8),(g.AM l).cells=g.cells from fun _ _=>rfl,show∀(g:GS) (k:Int) (a:Ag),(g.st k a).cells=g.cells from fun _ _ _=>rfl,GS.Qg,GS.SE,GS.O0,GS.PR,
   show∀(g:GS) (r k:Int),(g.C7 r k).cells=g.cells from fun _ _ _=>rfl,show∀(g:GS) (r k:Int),(g.lo r k).cells=g.cells from fun _ _ _=>rfl,show∀(g:GS) (a:Ag),(g.An a).cells=g.cells from fun _ _=>rfl]
theorem GS.WV (g:GS) (c:Nat):(GS.GC c g).cells=g.cells:=by
 unfold GS.GC GS.GQ;simp only[show∀(g:GS) (l:D8),(g.AM l).cells=g.cells from fun _ _=>rfl,GS.PR,show∀(g:GS),g.Bc.cells=g.cells from fun _=>rfl,
   show∀(g:GS) (r k:Int),(g.C7 r k).cells=g.cells from fun _ _ _=>rfl,show∀(g:GS) (r k:Int),(g.lo r k).cells=g.cells from fun _ _ _=>rfl,show∀(g:GS) (a:Ag),(g.An a).cells=g.cells from fun _ _=>rfl]
theorem GS.YE (g:GS) (c:Nat):(GS.Le c g).cells=g.cells:=rfl
theorem GS.Xo (g:GS) (c:Nat):(GS.GY c g).cells=g.cells:=rfl
theorem ER (n:Int) (k:Nat) (hn:0≤n∧n≤100) (hk:k≤100):wrap64 (n+(k:Int))=n+k:=IntWalk.wrap64_in _ (by omega)
theorem kR (n:Int) (k:Nat) (hn:0≤n∧n≤100) (hk:k≤100):IntKind.i64.wrap (n+(k:Int))=n+k:=IntWalk.i64_in _ (by omega)
theorem LA (k:Nat) (hk:k≤100):wrap64 ((k:Int)+1)=k+1:=IntWalk.wrap64_in _ (by omega)
theorem ZQ (k:Nat) (hk:k≤100):wrap64 (0+(k:Int))=k∧wrap64 (k:Int)=k:=⟨by rw[IntWalk.wrap64_in _ (by omega)];omega,IntWalk.wrap64_in _ (by omega)⟩
theorem AK.left {w:World} {A B:List Ob} (h:AK w (A++B)):AK w A:=(Ad.AT h).Al
theorem Ba.left {w:World} {A B:List Ob} {F:List (Nat×Obj)} (h:Ba w (A++B) F):Ba w A F:=
 ⟨h.heap,fun b o hb hl=>h.out b o hb (by rw[Bd];exact List.mem_append_left _ hl)⟩
theorem Rz {w:World} {A:List Ob} {o:Ob} (h:AK w A) (ho:o.holds w) (hf:o.fp=[]):Ad w A w (A++[o]):=by
 have e:En (A++[o])=En A:=by rw[Bd,FB,hf];simp[En]
 refine⟨⟨fun p hp=> ?_,by rw[e];exact h.Kw⟩,Av.refl _ _,fun b hb=> .inl (by rw[e] at hb;exact hb)⟩;rcases List.mem_append.1 hp with hp | hp
 ·exact h.holds p hp
 ·rw[List.mem_singleton] at hp;subst hp;exact ho
structure AJ (g' g:GS):Prop where
 Ah:g'.Ah=g.Ah
 cells:g'.cells=g.cells
 block:g'.block=g.block
 Aj:g'.Aj=g.Aj
theorem AJ.refl (g:GS):AJ g g:=⟨rfl,rfl,rfl,rfl⟩
theorem AJ.trans {a b c:GS} (h:AJ a b) (k:AJ b c):AJ a c:=⟨h.1.trans k.1,h.2.trans k.2,h.3.trans k.3,h.4.trans k.4⟩
theorem AJ.Aq {g' g:GS} (h:AJ g' g) (i:GI):AJ (g'.Aq i) g:=⟨h.1,h.2,h.3,h.4⟩
theorem AJ.AM {g' g:GS} (h:AJ g' g) (l:D8):AJ (g'.AM l) g:=⟨h.1,h.2,h.3,h.4⟩
theorem AJ.B0 {g' g:GS} (h:AJ g' g) (r:Int):AJ (g'.B0 r) g:=⟨h.1,h.2,h.3,h.4⟩
theorem AJ.AH {g' g:GS} (h:AJ g' g) (a:At) (r:Int):AJ (g'.AH a r) g:=by
 unfold GS.AH;split
 ·exact h.Aq _
 ·exact h
theorem AJ.BI {g' g:GS} (h:AJ g' g) (r:Int):AJ (g'.BI r) g:=
 ((((((((h.Aq _).Aq _).B0 _).Aq _).Aq _).Aq _).Aq _).B0 _)
theorem AJ.Cz {g' g:GS} (h:AJ g' g) (f s:Int) (a:At):AJ (g'.Cz f s a) g:=
 (((((((((h.AH a 0).Aq _).Aq _).Aq _).AM _).Aq _).Aq _).Aq _).Aq _).AM _ |>.Aq _
theorem AJ.KD {g' g:GS} (h:AJ g' g):AJ g'.KD g:=
 ((((((((((((h.Aq _).Aq _).Aq _).Aq _).AM _).Aq _).BI _).Aq _).Aq _).Aq _).B0 _).Aq _).AM _
theorem AJ.EO {f:Nat→GS→GS} (hf:∀i x y,AJ x y→AJ (f i x) y) (n:Nat) {g' g:GS} (h:AJ g' g):AJ (GS.EO f n g') g:=by
 induction n with
 | zero=>exact h
 | succ n ih=>exact hf n _ _ ih
theorem AJ.GD (i:Nat) (x y:GS) (h:AJ x y):AJ (GS.GD i x) y:=
 (((((((((h.Aq _).Aq _).Aq _).BI _).Aq _).Aq _).B0 _).Aq _).Aq _).AM _
theorem AJ.GC (i:Nat) (x y:GS) (h:AJ x y):AJ (GS.GC i x) y:=
 (((((((((h.Aq _).Aq _).Aq _).Aq _).Aq _).AM _).Aq _).BI _).AM _).AM _
theorem AJ.Le (i:Nat) (x y:GS) (h:AJ x y):AJ (GS.Le i x) y:=((((h.Aq _).Aq _).Aq _).Aq _).AM _
theorem AJ.GY (i:Nat) (x y:GS) (h:AJ x y):AJ (GS.GY i x) y:=(((h.Aq _).Aq _).Aq _).AM _
theorem AJ.EM {g' g:GS} (h:AJ g' g):AJ g'.EM g:=
 AJ.EO AJ.GY _ (AJ.EO AJ.Le _ (AJ.EO AJ.GC _ ((((AJ.EO AJ.GD _ h).Aq _).Aq _).Aq _)))
theorem AJ.G0 {g' g:GS} (h:AJ g' g):AJ g'.G0 g:=((((((((h.Aq _).Aq _).Aq _).Aq _).Aq _).Aq _).Aq _).Aq _).AM _
theorem AJ.IU (i:Nat) (x y:GS) (h:AJ x y):AJ (GS.IU i x) y:=((((h.Aq _).Aq _).Aq _).Aq _).AM _
theorem AJ.IQ (i:Nat) (x y:GS) (h:AJ x y):AJ (GS.IQ i x) y:=(h.Aq _).Aq _
theorem AJ.FR (i:Nat) (x y:GS) (h:AJ x y):AJ (GS.FR i x) y:=(h.Aq _).Aq _
theorem AJ.D3 (i:Nat) (x y:GS) (h:AJ x y):AJ (GS.D3 i x) y:=((h.Aq _).Aq _).Aq _
theorem AJ.Ke {g' g:GS} (h:AJ g' g) (top:Nat):AJ (g'.Ke top) g:=(AJ.EO AJ.IQ _ (AJ.EO AJ.IU _ h)).Aq _
theorem AJ.mL {g' g:GS} (h:AJ g' g) (l:List D8):AJ (l.foldl GS.AM g') g:=by
 induction l generalizing g' with
 | nil=>exact h
 | cons a r ih=>exact ih (h.AM a)
def Ci:Ck→Nat
 | .nil=>0
 | .set _ _ _ _ r=>4+Ci r
 | .get _ _ _ _ r=>28+Ci r
 | .put _ _ _ _ r=>12+Ci r
 | .out _ r=>6+Ci r
 | .atomic b r=>296+Ci b+Ci r
 | .ES _ b r=>2+Ci b+Ci r
 | .loop _ b r=>6+Ci b+Ci r
theorem Jh (l:List D8) (g:GS):(l.foldl GS.AM g).Af.length=g.Af.length:=by
 induction l generalizing g with
 | nil=>rfl
 | cons a r ih=>rw[List.foldl_cons,ih,GS.Dh]
theorem GS.SI (g:GS):g.EM.Af.length=g.Af.length+g.cells.toNat*37+3:=by
 unfold GS.EM;simp only[];rw[EC (fun i x=>GS.UA x i),EC (fun i x=>GS.WD x i),EC (fun i x=>GS.Uo x i),GS.FJ,GS.FJ,GS.CX,EC (fun i x=>GS.Up x i)];omega
theorem GS.NY (g:GS):g.G0.Af.length=g.Af.length+8:=by
 unfold GS.G0;simp only[GS.Dh,GS.CX,GS.FJ,GS.RO,GS.DL,GS.FT]
theorem GS.OF (g:GS) (top:Nat):(g.Ke top).Af.length=g.Af.length+g.cells.toNat*4+9:=by
 unfold GS.Ke;simp only[];rw[GS.CX,EC (fun i x=>GS.Ut x i),EC (fun i x=>GS.UP x i)]
theorem GS.T6 (g:GS) (c:Nat):(GS.FR c g).Af.length=g.Af.length+2:=by unfold GS.FR;simp only[GS.Gi,GS.FT]
theorem GS.SJ (g:GS) (c:Nat):(GS.D3 c g).Af.length=g.Af.length+3:=by unfold GS.D3;simp only[GS.Gi]
theorem GS.Hy (g:GS) (a:At) (r:Int):g.Af.length≤(g.AH a r).Af.length:=by
 unfold GS.AH;split
 ·rw[GS.FT];omega
 ·omega
theorem IY (cells:Int) (t:Ck) (hc:0≤cells∧cells≤6):∀(d:Nat) (CJ:Bool) (G:GS),WF cells t d CJ→G.block=CJ→G.cells=cells→
  AJ (GS.BX t G) G∧G.Af.length≤(GS.BX t G).Af.length∧(GS.BX t G).Af.length≤G.Af.length+Ci t:=by
 induction t with
 | nil=>intro d CJ G _ _ _;exact⟨AJ.refl G,Nat.le_refl _,by simp[GS.BX,Ci]⟩
 | set v op a b r ih=>
  intro d CJ G hw hb Dp;have v1:=GS.DT G a 1;have v1':=GS.Hy G a 1;have v2:=GS.DT (G.AH a 1) b 2;have v2':=GS.Hy (G.AH a 1) b 2;by_cases II:op.size=0
  ·have e:GS.BX (.set v op a b r) G=GS.BX r ((G.AH a 1).st v (GS.As a 1)):=by simp[GS.BX,II]
   have hs:AJ ((G.AH a 1).st v (GS.As a 1)) G:=((AJ.refl G).AH a 1).Aq _;obtain⟨i1,i2,i3⟩:=ih d CJ _ hw.2.2.2.2 (hs.block.trans hb) (hs.cells.trans Dp);rw[e];rw[GS.Gi] at i2 i3;exact⟨i1.trans hs,by omega,by simp only[Ci];omega⟩
  ·have e:GS.BX (.set v op a b r) G=GS.BX r ((((G.AH a 1).AH b 2).A2 op 1 (GS.As a 1) (GS.As b 2)).st v (.r 1)):=by simp[GS.BX,II]
   have hs:AJ ((((G.AH a 1).AH b 2).A2 op 1 (GS.As a 1) (GS.As b 2)).st v (.r 1)) G:=((((AJ.refl G).AH a 1).AH b 2).Aq _).Aq _;obtain⟨i1,i2,i3⟩:=ih d CJ _ hw.2.2.2.2 (hs.block.trans hb) (hs.cells.trans Dp);rw[e];rw[GS.Gi,GS.FJ] at i2 i3;exact⟨i1.trans hs,by omega,by simp only[Ci];omega⟩
 | get v f s a r ih=>
  intro d CJ G hw hb Dp;have v1:=GS.MQ G f s a;have v1':=GS.NL G f s a;have hs:AJ (((G.Cz f s a).KD).st v (.r 1)) G:=(((AJ.refl G).Cz f s a).KD).Aq _;obtain⟨i1,i2,i3⟩:=ih d CJ _ hw.2.2.2.2 (hs.block.trans hb) (hs.cells.trans Dp);rw[GS.Gi,GS.Xm] at i2 i3;exact⟨i1.trans hs,by show _≤(GS.BX r _).Af.length;omega,by show(GS.BX r _).Af.length≤_;simp only[Ci];omega⟩
 | put f s i a r ih=>
  intro d CJ G hw hb Dp;have v1:=GS.MQ G f s i;have v1':=GS.NL G f s i;have v2:=GS.DT (G.Cz f s i) a 1;have v2':=GS.Hy (G.Cz f s i) a 1;have hs:AJ (((((G.Cz f s i).AH a 1).Fj 14 0 (GS.As a 1)).Fj 8 0 (.n 1))) G:=((((AJ.refl G).Cz f s i).AH a 1).Aq _).Aq _;obtain⟨i1,i2,i3⟩:=ih d CJ _ hw.2.2.2.2 (hs.block.trans hb) (hs.cells.trans Dp);rw[GS.LP,GS.LP] at i2 i3;exact⟨i1.trans hs,by show _≤(GS.BX r _).Af.length;omega,by show(GS.BX r _).Af.length≤_;simp only[Ci];omega⟩
 | out a r ih=>
  intro d CJ G hw hb Dp;have v1:=GS.DT G a 1;have v1':=GS.Hy G a 1;cases Ey:G.block with
  | false=>
   have e:GS.BX (.out a r) G=GS.BX r ((G.AH a 1).Aq (.out (GS.As a 1))):=by simp[GS.BX,Ey]
   have hs:AJ ((G.AH a 1).Aq (.out (GS.As a 1))) G:=((AJ.refl G).AH a 1).Aq _;obtain⟨i1,i2,i3⟩:=ih d CJ _ hw.2 (hs.block.trans hb) (hs.cells.trans Dp);rw[e];rw[GS.CX] at i2 i3;exact⟨i1.trans hs,by omega,by simp only[Ci];omega⟩
  | true=>
   have e:GS.BX (.out a r) G=GS.BX r (((((G.AH a 1).lo 2 39).Fj 40 2 (GS.As a 1)).A2 Fk 2 (.r 2) (.n 1)).st 39 (.r 2)):=by simp[GS.BX,Ey]
   have hs:AJ (((((G.AH a 1).lo 2 39).Fj 40 2 (GS.As a 1)).A2 Fk 2 (.r 2) (.n 1)).st 39 (.r 2)) G:=(((((AJ.refl G).AH a 1).Aq _).Aq _).Aq _).Aq _;obtain⟨i1,i2,i3⟩:=ih d CJ _ hw.2 (hs.block.trans hb) (hs.cells.trans Dp);rw[e];rw[GS.Gi,GS.FJ,GS.LP,GS.FT] at i2 i3;exact⟨i1.trans hs,by omega,by simp only[Ci];omega⟩
 | ES a b r ib ih=>
  intro d CJ G hw hb Dp;have v1:=GS.DT G a 1;have v1':=GS.Hy G a 1;have h1:AJ ((G.AH a 1).An (GS.As a 1)) G:=((AJ.refl G).AH a 1).Aq _;obtain⟨j1,j2,j3⟩:=ib (d+1) CJ _ hw.2.2.1 (h1.block.trans hb) (h1.cells.trans Dp);rw[GS.DL] at j2 j3;have hs:AJ ((GS.BX b ((G.AH a 1).An (GS.As a 1))).AM ((G.AH a 1).Ex (GS.As a 1))) G:=(j1.trans h1).AM _;obtain⟨i1,i2,i3⟩:=ih d CJ _ hw.2.2.2 (hs.block.trans hb) (hs.cells.trans Dp);rw[GS.Dh] at i2 i3;exact⟨i1.trans hs,by show _≤(GS.BX r _).Af.length;omega,by show(GS.BX r _).Af.length≤_;simp only[Ci];omega⟩
 | loop n b r ib ih=>
  intro d CJ G hw hb Dp;have h1:AJ (G.st (48+G.Aj) (.n n)) G:=(AJ.refl G).Aq _;obtain⟨j1,j2,j3⟩:=ib (d+1) CJ {(G.st (48+G.Aj) (.n n)) with Aj:=(G.st (48+G.Aj) (.n n)).Aj+1} hw.2.2.1 hb Dp;have j2':(G.st (48+G.Aj) (.n n)).Af.length≤_:=j2;have j3':_≤(G.st (48+G.Aj) (.n n)).Af.length+Ci b:=j3;rw[GS.Gi] at j2' j3';generalize ln:GS.BX b {(G.st (48+G.Aj) (.n n)) with Aj:=(G.st (48+G.Aj) (.n n)).Aj+1}=g2 at j1 j2' j3';have h3:AJ {g2 with Aj:=g2.Aj - 1} G:=⟨j1.Ah,j1.cells,j1.block,by show g2.Aj - 1=_;rw[j1.Aj];show(G.Aj+1) - 1=G.Aj;omega⟩;have e:GS.BX (.loop n b r) G=GS.BX r ((((((({g2 with Aj:=g2.Aj - 1}:GS).lo 1 (48+G.Aj)).A2 Dx 1 (.r 1) (.n 1)).st (48+G.Aj) (.r 1)).An (.r 1)).Aq (.Ga (G.st (48+G.Aj) (.n n)).Af.length)).AM (((({g2 with Aj:=g2.Aj - 1}:GS).lo 1 (48+G.Aj)).A2 Dx 1 (.r 1) (.n 1)).st (48+G.Aj) (.r 1) |>.Ex (.r 1))):=by
   rw[←ln];rfl
  have hs:AJ ((((((({g2 with Aj:=g2.Aj - 1}:GS).lo 1 (48+G.Aj)).A2 Dx 1 (.r 1) (.n 1)).st (48+G.Aj) (.r 1)).An (.r 1)).Aq (.Ga (G.st (48+G.Aj) (.n n)).Af.length)).AM (((({g2 with Aj:=g2.Aj - 1}:GS).lo 1 (48+G.Aj)).A2 Dx 1 (.r 1) (.n 1)).st (48+G.Aj) (.r 1) |>.Ex (.r 1))) G:=(((((h3.Aq _).Aq _).Aq _).Aq _).Aq _).AM _;obtain⟨i1,i2,i3⟩:=ih d CJ _ hw.2.2.2 (hs.block.trans hb) (hs.cells.trans Dp);rw[e];refine⟨i1.trans hs,?_,?_⟩
  ·simp only[GS.Dh,GS.CX,GS.DL,GS.Gi,GS.FJ,GS.FT] at i2 i3⊢;omega
  ·simp only[Ci,GS.Dh,GS.CX,GS.DL,GS.Gi,GS.FJ,GS.FT] at i2 i3⊢;omega
 | atomic b r ib ih=>
  intro d CJ G hw hb Dp;have hi:CJ=false:=hw.1;have h1:AJ G.BV G:=AJ.EO AJ.FR 4 (AJ.refl G);have l1:G.BV.Af.length=G.Af.length+8:=EC (fun i x=>GS.T6 x i) 4 G;have t1:(G.BV.NM).Af.length=G.BV.Af.length+G.BV.cells.toNat*3+3:=by
   unfold GS.NM;simp only[];rw[GS.Gi,GS.LZ,GS.Gi,EC (fun i x=>GS.SJ x i)]
  have t2:G.BV.NM.Ah=G.BV.Ah∧G.BV.NM.cells=G.BV.cells∧G.BV.NM.Aj=G.BV.Aj:=by
   have:=((((AJ.EO AJ.D3 G.BV.cells.toNat (AJ.refl G.BV)).Aq (.store (.n ((GS.EO GS.D3 G.BV.cells.toNat G.BV).Ah+39)) 0 (.n 0))).Aq (.load 1 (.n 16) 0)));exact⟨this.Ah,this.cells,this.Aj⟩
  obtain⟨j1,j2,j3⟩:=ib (d+1) true G.BV.NM hw.2.2.1 rfl (t2.2.1.trans (h1.cells.trans Dp));generalize ln:GS.BX b G.BV.NM=g2 at j1 j2 j3;have si:G.BV.cells.toNat≤6:=by rw[h1.cells,Dp];omega
  have Aaz:g2.cells.toNat≤6:=by rw[j1.cells,t2.2.1];exact si
  have hh:∀p:Bool,AJ (g2.Lv G.BV.Af.length p) {g2 with block:=false}∧g2.Af.length≤(g2.Lv G.BV.Af.length p).Af.length∧(g2.Lv G.BV.Af.length p).Af.length≤g2.Af.length+g2.cells.toNat*41+21:=by
   intro p;have q:AJ (if p then ({g2 with block:=false}:GS).EM else {g2 with block:=false}) {g2 with block:=false}:=by
    cases p
    ·exact AJ.refl _
    ·exact(AJ.refl _).EM
   have ql:g2.Af.length≤(if p then ({g2 with block:=false}:GS).EM else {g2 with block:=false}).Af.length∧(if p then ({g2 with block:=false}:GS).EM else {g2 with block:=false}).Af.length≤g2.Af.length+g2.cells.toNat*37+3:=by
    cases p
    ·exact⟨Nat.le_refl _,by show g2.Af.length≤_;omega⟩
    ·have:=GS.SI {g2 with block:=false};have e2:({g2 with block:=false}:GS).Af.length=g2.Af.length:=rfl;have e3:({g2 with block:=false}:GS).cells=g2.cells:=rfl;rw[e2,e3] at this;simp only[if_true];omega
   unfold GS.Lv;simp only[];generalize (if p then ({g2 with block:=false}:GS).EM else {g2 with block:=false})=g3 at q ql;have u:=(((q.G0.Aq (.Ga 0)).mL g3.G0.Bc.Be).Ke G.BV.Af.length).AM g3.G0.O5;refine⟨u,?_,?_⟩
   ·rw[GS.Dh,GS.OF,Jh,GS.FM,GS.NY];omega
   ·rw[GS.Dh,GS.OF,Jh,GS.FM,GS.NY];have:(g3.G0.Bc.Be.foldl GS.AM g3.G0.Bc).cells=g2.cells:=((q.G0.Aq (.Ga 0)).mL g3.G0.Bc.Be).cells;rw[this];omega
  obtain⟨k1,k2,k3⟩:=hh (Du b);have hs:AJ (g2.Lv G.BV.Af.length (Du b)) G:=⟨k1.Ah.trans (j1.Ah.trans (t2.1.trans h1.Ah)),k1.cells.trans (j1.cells.trans (t2.2.1.trans h1.cells)),k1.block.trans (by rw[hb,hi]),k1.Aj.trans (j1.Aj.trans (t2.2.2.trans h1.Aj))⟩;obtain⟨i1,i2,i3⟩:=ih d CJ _ hw.2.2.2 (hs.block.trans hb) (hs.cells.trans Dp);have e:GS.BX (.atomic b r) G=GS.BX r (g2.Lv G.BV.Af.length (Du b)):=by rw[←ln];rfl
  rw[e];exact⟨i1.trans hs,by omega,by simp only[Ci];omega⟩
theorem NV (k:Nat) (hk:k≤100):(True→wrap64 (8+(k:Int))=8+(k:Int))∧(True→wrap64 (14+(k:Int))=14+(k:Int))∧(True→wrap64 (26+(k:Int))=26+(k:Int))∧(True→wrap64 (32+(k:Int))=32+(k:Int)):=⟨fun _=>ER 8 k (by decide) hk,fun _=>ER 14 k (by decide) hk,fun _=>ER 26 k (by decide) hk,fun _=>ER 32 k (by decide) hk⟩
theorem Tb (k:Nat) (hk:k≤100):(True→IntKind.i64.wrap (8+(k:Int))=8+(k:Int))∧(True→IntKind.i64.wrap (14+(k:Int))=14+(k:Int))∧(True→IntKind.i64.wrap (26+(k:Int))=26+(k:Int))∧(True→IntKind.i64.wrap (32+(k:Int))=32+(k:Int)):=⟨fun _=>kR 8 k (by decide) hk,fun _=>kR 14 k (by decide) hk,fun _=>kR 26 k (by decide) hk,fun _=>kR 32 k (by decide) hk⟩
end Go.Proofs.YtpdfifdlhpmofaaGreatDoor
