/-
  Part 22 of the proof, packed by program out of F2, M1.
-/
import Derived.Test.YtpdfifdlhpmofaaGreatDoorZ15
import Derived.Test.YtpdfifdlhpmofaaGreatDoorZ21
import Derived.Maps.Own
import Derived.Maps.OwnOps
import Derived.Lib.Hide
set_option linter.unusedVariables false
set_option linter.unusedSimpArgs false
set_option maxHeartbeats 3200000
set_option maxRecDepth 100000
namespace Go.Proofs.YtpdfifdlhpmofaaGreatDoor
open Go.RowKit
open Go.Lib (hid)
theorem aG (l:By):(AA l).toList=l:=by rw[ByteArray.toList_eq];exact Cs l
theorem SB (s:ByteArray) (w:World) (hs:s.size≤1000000):
  Calls Tryz.prog 112 #[.string s] w (pL (Bk (bs s)) w):=by
 by_cases h0:(0:Int) < (s.size:Int)
 ·by_cases h6:(s.size:Int)≤6
  ·have hn:Bk (bs s)=(AA (Lib.trimS (bs s) Ll)).toList.isEmpty:=by
    rw[NC,Bu,decide_eq_true (by omega:0 < s.size),decide_eq_true (by omega:s.size≤6),aG];cases Lib.trimS (bs s) Ll with
    | nil=>rfl
    | cons a l=>rfl
   have Hn:=hid hn;clear hn;go_enter Tryz.func112,Tryz.ntmps112;go_wp2_with fail;refine(eu s _ hs).mono ?_;rintro e w1 ⟨rfl,hm⟩;go_wp2;go_ret;exact⟨by rw[Hn.out];rfl,hm⟩
  ·have hn:Bk (bs s)=false:=by
    rw[NC,Bu,decide_eq_false (by omega:¬s.size≤6)];simp
   have Hn:=hid hn;clear hn;go_enter Tryz.func112,Tryz.ntmps112;go_wp2;go_ret;exact⟨by rw[Hn.out];rfl,Av.refl _ _⟩
 ·have hn:Bk (bs s)=false:=by
   rw[NC,Bu,decide_eq_false (by omega:¬0 < s.size)];simp
  have Hn:=hid hn;clear hn;go_enter Tryz.func112,Tryz.ntmps112;go_wp2;go_ret;exact⟨by rw[Hn.out];rfl,Av.refl _ _⟩
theorem Fq.same {M:List Nat} {c Ae:Int} {w w1 w2:World} {e:Ending} (h:Fq [] c Ae w1 e w2) (k:Av M w w1):Fq M c Ae w e w2:=⟨h.1,k.Ac h.2⟩
def Wd.val (a:Wd):Value:= .agg #[.string a.name,.int .i64 a.v]
theorem qL {a:ByteArray} {l:Ws} (h:Bk (bs a)=true):Uh (a::l)=some (a,l):=by show(if _ then _ else _)=_;rw[if_pos h]
theorem qM {a:ByteArray} {l:Ws} (h:Bk (bs a)=false):Uh (a::l)=none:=by show(if _ then _ else _)=_;rw[if_neg (by rw[h];simp)]
theorem uA {a:ByteArray} {l:Ws} (h:Bk (bs a)=true):EG (a::l)=some (⟨a,0⟩,l):=by show(if _ then _ else _)=_;rw[if_pos h]
theorem uB {a:ByteArray} {l:Ws} {v:Int} (h:Bk (bs a)=false) (k:number (bs a)=some v):EG (a::l)=some (⟨⟨#[]⟩,v⟩,l):=by show(if _ then _ else _)=_;rw[if_neg (by rw[h];simp),k]
theorem qw {a:ByteArray} {l:Ws} (h:Bk (bs a)=false) (k:number (bs a)=none):EG (a::l)=none:=by show(if _ then _ else _)=_;rw[if_neg (by rw[h];simp),k]
theorem KE (l:Ws) (w:World) (xb:Nat) (r:PV) (wv:Value) (Ae:Int) (ok:Nat→Prop) (h:V0 w xb r wv Ae) (hs:Sl w ok wv (AY l)) (hx:¬ok xb) (hz:∀a,a∈l→a.size≤1000000):
  Calls Tryz.prog 97 #[.pointer (some ⟨xb,0,none⟩)] w (Lw ((Uh l).map fun p=>(.string p.1,p.2)) xb r Ae ok w):=by
 have hn:=Ig l w xb r wv Ae ok h hs hx;have Hn:=hid hn;clear hn h hs;go_enter Tryz.func97,Tryz.ntmps97;go_wp2_with fail;refine Hn.out.mono ?_;intro e w1 he;cases l with
 | nil=>
  obtain⟨⟨fb,rfl,hb⟩,hm⟩:=he;go_wp2;exact⟨rfl,⟨fb,rfl,hb⟩,hm⟩
 | cons a l=>
  obtain⟨rfl,KT,h1,s1,m1⟩:=he;have tP:=hz a (List.mem_cons_self ..);clear hz;go_wp2_with fail;refine(SB a _ tP).mono ?_;rintro e w2 ⟨rfl,m2⟩;cases hb:Bk (bs a) with
  | true=>
   have Hb:=hid hb;clear hb;go_wp2;go_ret;rw[qL Hb.out];exact⟨rfl,KT,BR.Bh h1 m2 (by simp),s1.Bh m2 (fun b hb hm=>by cases hm),m1.Ac m2⟩
  | false=>
   have Hb:=hid hb;clear hb;go_wp2_with fail;refine(EL _ xb r _ Ae (BR.Bh h1 m2 (by simp))).mono ?_;rintro e w3 ⟨⟨fb,rfl,hb⟩,hm⟩;go_wp2;rw[qM Hb.out];exact⟨rfl,⟨fb,rfl,hb⟩,(m1.Ac m2).Ac hm⟩
theorem gk {v:Int} {s:ByteArray}:((AA (Lib.itoa v)).toList==s.toList)=decide (Lib.itoa v=bs s):=by
 rw[aG,ByteArray.toList_eq,Bool.eq_iff_iff,beq_iff_eq,decide_eq_true_eq]
theorem Kk {xb:Nat} {r:PV} {Ae:Int} {ok:Nat→Prop} {w w2 w3:World} {l:Ws} {v wv:Value} (h1:V0 w2 xb r wv Ae) (s1:Sl w2 (fun b=>ok b∧b < w.heap.size) wv (AY l)) (M:Av [xb] w w2) {nb:Nat} (Y5:w.heap.size≤nb) (hx:xb < w.heap.size) (k:Av [nb] w2 w3):
  Lw (some (v,l)) xb r Ae ok w (.returned v) w3:=
 ⟨rfl,wv,BR.Bh h1 k (by simp;omega),(s1.Bh k (fun b hb hm=>by rw[List.mem_singleton] at hm;have:=hb.2;omega)).mono (fun b _ hb=>hb.1),M.trans k (fun x hx=>by rw[List.mem_singleton] at hx;exact .inr (by omega))⟩
theorem Ie (mb:Nat) (l:Ws) (w:World) (xb:Nat) (r:PV) (wv:Value) (Ae:Int) (ok:Nat→Prop) (h:V0 w xb r wv Ae) (hs:Sl w ok wv (AY l)) (hx:¬ok xb) (hz:∀a,a∈l→a.size≤1000000) (hg:Gl mb w) (IS:xb∉Pf mb):
  Calls Tryz.prog 113 #[.pointer (some ⟨xb,0,none⟩)] w (Lw ((EG l).map fun p=>(p.1.val,p.2)) xb r Ae ok w):=by
 have ha:∀t:Obj,V0 (w.alloc t) xb r wv Ae:=fun t=>BR.Bh h ((Av.refl [] w).alloc t) (by simp)
 have hn:=fun t:Obj=>Ig l (w.alloc t) xb r wv Ae (fun b=>ok b∧b < w.heap.size) (ha t) ((hs.mono (fun b hb ho=>⟨ho,hb⟩)).Bh ((Av.refl [] w).alloc t) (fun b hb hm=>by cases hm)) (fun h=>hx h.1)
 have Hn:=hid hn;have Hg:=hid hg;have GK:=BA h;clear hn h hs ha hg;go_enter Tryz.func113,Tryz.ntmps113;go_wp2_with fail;refine(Hn.out _).mono ?_;intro e w1 he;cases l with
 | nil=>
  obtain⟨⟨fb,rfl,hb⟩,hm⟩:=he;go_wp2;exact⟨rfl,⟨fb,rfl,hb⟩,((Av.refl [xb] w).alloc _).trans hm (fun x hx=> .inl hx)⟩
 | cons a l=>
  obtain⟨rfl,KT,h1,s1,m1⟩:=he;have tP:=hz a (List.mem_cons_self ..);clear hz Hn;have R1:BR w1 w.heap.size #[.string ⟨#[]⟩,.int .i64 0] 230:=BR.Bh (BR.new w _ _) m1 (by simp;omega);have M1:Av [xb] w w1:=((Av.refl [xb] w).alloc _).trans m1 (fun x hx=> .inl hx);have G1:=hid (Hg.out.Bh M1 (fun b hb hm=>by rw[List.mem_singleton] at hm;rw[hm] at hb;exact IS hb));have B1:=hid h1;have S1:=hid s1;have pW:=hid R1;have Kh:=hid M1;clear m1 h1 s1 M1;have rc:=R1.cell;clear R1 rc;go_wp2_with fail;refine(SB a _ tP).mono ?_;rintro e w2 ⟨rfl,m2⟩;have R2:=pW.out.Bh m2 (by simp);have rc:=R2.cell;have rf:=R2.free;have rl:=R2.lt;have ZN:=hid R2;have Gw:=hid (Kh.out.Ac m2);have V9:=hid m2;clear R2 m2;cases hb:Bk (bs a) with
  | true=>
   have Hb:=hid hb;clear hb;go_wp2_with fail;refine bodyPost_ret (v:= .agg #[.string a,.int .i64 0]) (by simp[results,Tryz.results113,go_sem,rc,rf,rl]) rfl ?_;rw[uA Hb.out];exact Kk (B1.out.Bh V9.out (by simp)) (S1.out.Bh V9.out (fun b hb hm=>by cases hm)) Gw.out (Nat.le_refl _) GK (((Av.refl _ _).setCell (.inl (by simp)) _).setCell (.inl (by simp)) _)
  | false=>
   have Hb:=hid hb;clear hb rc rf rl;go_wp2_with fail;refine(bM mb a _ (G1.out.quiet V9.out) tP).mono ?_;rintro e w3 ⟨m3,⟨v,hp,rfl⟩ | ⟨hp,v,t,p,rfl⟩⟩
   ·have h64: -9223372036854775808≤v∧v≤9223372036854775807:=by
     have h:=Lib.parseIntB_bounds hp;rw[show((2 ^ (64 - 1):Nat):Int)=9223372036854775808 from rfl] at h;omega
    have jS:=hid (V9.out.Ac m3);have Hp:=hid hp;have JL:=hid (Gw.out.Ac m3);clear hp m3;go_wp2_with fail;refine(QU v h64 _ (G1.out.quiet jS.out).ym).mono ?_;rintro e w4 ⟨rfl,m4⟩;have uv:=hid (jS.out.Ac m4);have QW:=hid (JL.out.Ac m4);have R4:=pW.out.Bh uv.out (by simp);have rc:=R4.cell;have rf:=R4.free;have rl:=R4.lt;clear m4 R4;have AI:=gk (v:=v) (s:=a);by_cases he:Lib.itoa v=bs a
    ·have hn:number (bs a)=some v:=(Nx _ _).2 ⟨Hp.out,he⟩;rw[decide_eq_true he] at AI;have tn:=hid hn;clear he hn;go_wp2_with fail;refine bodyPost_ret (v:= .agg #[.string ⟨#[]⟩,.int .i64 v]) (by simp[results,Tryz.results113,go_sem,rc,rf,rl]) rfl ?_;rw[uB Hb.out tn.out];exact Kk (B1.out.Bh uv.out (by simp)) (S1.out.Bh uv.out (fun b hb hm=>by cases hm)) QW.out (Nat.le_refl _) GK (((Av.refl _ _).setCell (.inl (by simp)) _).setCell (.inl (by simp)) _)
    ·have hn:number (bs a)=none:=by
      cases hq:number (bs a) with
      | none=>rfl
      | some u=>
       obtain⟨q1,q2⟩:=(Nx _ _).1 hq;rw[Hp.out] at q1;cases q1;exact absurd q2 he
     rw[decide_eq_false he] at AI;have tn:=hid hn;clear he hn rc rf rl;go_wp2_with fail;refine(EL _ xb r _ Ae (B1.out.Bh uv.out (by simp))).mono ?_;rintro e w5 ⟨⟨fb,rfl,hb⟩,hm⟩;go_wp2;rw[qw Hb.out tn.out];exact⟨rfl,⟨fb,rfl,hb⟩,QW.out.Ac hm⟩
   ·have hn:number (bs a)=none:=by
     cases hq:number (bs a) with
     | none=>rfl
     | some u=>exact absurd ((Nx _ _).1 hq).1 (hp u)
    have tn:=hid hn;have jS:=hid (V9.out.Ac m3);have JL:=hid (Gw.out.Ac m3);clear hn hp m3;go_wp2_with fail;refine(EL _ xb r _ Ae (B1.out.Bh jS.out (by simp))).mono ?_;rintro e w5 ⟨⟨fb,rfl,hb⟩,hm⟩;go_wp2;rw[qw Hb.out tn.out];exact⟨rfl,⟨fb,rfl,hb⟩,JL.out.Ac hm⟩
theorem Uz (B7:Int) (mb:Nat) (l:Ws) (w:World) (xb:Nat) (r:PV) (wv:Value) (Ae:Int) (ok:Nat→Prop) (h:V0 w xb r wv Ae) (hs:Sl w ok wv (AY l)) (hx:¬ok xb) (hz:∀a,a∈l→a.size≤1000000) (hg:Gl mb w) (IS:xb∉Pf mb) (hm:B7≤1000):
  Calls Tryz.prog 98 #[.pointer (some ⟨xb,0,none⟩),.int .i64 B7] w (Lw ((Gx B7 l).map fun p=>(.int .i64 p.1,p.2)) xb r Ae ok w):=by
 have Hn:=hid (Ie mb l w xb r wv Ae (fun b=>ok b∧b < w.heap.size) h (hs.mono (fun b hb ho=>⟨ho,hb⟩)) (fun h=>hx h.1) hz hg IS);have GK:=BA h;clear h hs hg hz;go_enter Tryz.func98,Tryz.ntmps98;go_wp2_with fail;refine Hn.out.mono ?_;intro e w1 he;cases hw:EG l with
 | none=>
  have hu:Gx B7 l=none:=by unfold Gx;rw[hw]
  rw[hw] at he;obtain⟨⟨fb,rfl,hb⟩,hm⟩:=he;have Hu:=hid hu;clear hw hu Hn;go_wp2;rw[Hu.out];exact⟨rfl,⟨fb,rfl,hb⟩,hm⟩
 | some q=>
  obtain⟨a,l'⟩:=q;have hu:Gx B7 l=if a.name.size=0∧1≤a.v∧a.v≤B7 then some (a.v,l') else none:=by unfold Gx;rw[hw]
  rw[hw] at he;obtain⟨rfl,KT,h1,s1,m1⟩:=he;have B1:=hid h1;have S1:=hid s1;have M1:=hid m1;have Hu:=hid hu;have Sb:=m1.size;have Aat:=BA h1;obtain⟨nm,v⟩:=a;have Nb:(⟨nm,v⟩:Wd).val= .agg #[.string nm,.int .i64 v]:=rfl;simp only[Nb];clear hw hu Hn h1 s1 m1 Nb;by_cases Gb:nm.size=0
  ·have Y3:nm=⟨#[]⟩:=ByteArray.ext (Array.eq_empty_of_size_eq_zero Gb);subst Y3;clear Gb;by_cases hc:1≤v∧v≤B7
   ·obtain⟨h1,h2⟩:=hc;have hr:Gx B7 l=some (v,l'):=by rw[Hu.out];exact if_pos ⟨rfl,h1,h2⟩
    have Hr:=hid hr;clear hr Hu;go_wp2;go_ret;rw[Hr.out];exact Kk (B1.out) (S1.out) M1.out Sb GK (nb:=w1.heap.size) ((Av.refl _ _).alloc _)
   ·have hr:Gx B7 l=none:=by rw[Hu.out];exact if_neg (fun h=>hc ⟨h.2.1,h.2.2⟩)
    have Hr:=hid hr;clear hr Hu;by_cases h1:v < 1
    ·clear hc;go_wp2_with fail;refine(EL _ xb r _ Ae (B1.out.Bh ((Av.refl [] w1).alloc _) (by simp))).mono ?_;rintro e w5 ⟨⟨fb,rfl,hb⟩,hm⟩;go_wp2;rw[Hr.out];exact⟨rfl,⟨fb,rfl,hb⟩,(M1.out.alloc _).Ac hm⟩
    ·have h2:B7 < v:=by omega
     clear hc;go_wp2_with fail;refine(EL _ xb r _ Ae (B1.out.Bh ((Av.refl [] w1).alloc _) (by simp))).mono ?_;rintro e w5 ⟨⟨fb,rfl,hb⟩,hm⟩;go_wp2;rw[Hr.out];exact⟨rfl,⟨fb,rfl,hb⟩,(M1.out.alloc _).Ac hm⟩
  ·have Y3:¬nm.toList=[]:=by
    rw[ByteArray.toList_eq];intro h;apply Gb;have:=congrArg List.length h;exact(Bu nm).symm.trans this
   have hr:Gx B7 l=none:=by rw[Hu.out];exact if_neg (fun h=>Gb h.1)
   have Hr:=hid hr;clear hr Hu Gb;go_wp2_with fail;refine(EL _ xb r _ Ae (B1.out.Bh ((Av.refl [] w1).alloc _) (by simp))).mono ?_;rintro e w5 ⟨⟨fb,rfl,hb⟩,hm⟩;go_wp2;rw[Hr.out];exact⟨rfl,⟨fb,rfl,hb⟩,(M1.out.alloc _).Ac hm⟩
theorem az (mb:Nat) (l:Ws) (w:World) (xb:Nat) (r:PV) (wv:Value) (Ae:Int) (ok:Nat→Prop) (h:V0 w xb r wv Ae) (hs:Sl w ok wv (AY l)) (hx:¬ok xb) (hz:∀a,a∈l→a.size≤1000000) (hg:Gl mb w) (IS:xb∉Pf mb):
  Calls Tryz.prog 117 #[.pointer (some ⟨xb,0,none⟩)] w (Lw ((jQ l).map fun p=>(p.1.val,p.2)) xb r Ae ok w):=by
 have GK:=BA h;have h0:=h.Bh ((Av.refl [] w).alloc (.cells #[.string ⟨#[]⟩,.int .i64 0] 230)) (by simp);have s0:=(hs.mono (ok':=fun b=>ok b∧b < w.heap.size) (fun b hb ho=>⟨ho,hb⟩)).Bh ((Av.refl [] w).alloc (.cells #[.string ⟨#[]⟩,.int .i64 0] 230)) (fun b hb hm=>by cases hm);have Hi:=hid (lE ⟨#[97,116]⟩ l _ xb r wv Ae (fun b=>ok b∧b < w.heap.size) h0 s0 (fun h=>hx h.1));have Hg:=hid hg;have Hz:=hid hz;clear h hs h0 s0 hg hz;go_enter Tryz.func117,Tryz.ntmps117;go_wp2_with fail;refine Hi.out.mono ?_;rintro e w1 ⟨rfl,KT,h1,s1,m1⟩;have R1:BR w1 w.heap.size #[.string ⟨#[]⟩,.int .i64 0] 230:=BR.Bh (BR.new w _ _) m1 (by simp;omega);have M1:Av [xb] w w1:=((Av.refl [xb] w).alloc _).trans m1 (fun x hx=> .inl hx);have G1:=hid (Hg.out.Bh M1 (fun b hb hm=>by rw[List.mem_singleton] at hm;rw[hm] at hb;exact IS hb));have B1:=hid h1;have S1:=hid s1;have pW:=hid R1;have Kh:=hid M1;have Sb:w.heap.size≤w1.heap.size:=M1.size;clear m1 h1 s1 M1 R1 Hi;by_cases ha:∃a q,l=a::q∧bs a=YY
 ·obtain⟨a,q,rfl,ha⟩:=ha;have e1:mf (bs ⟨#[97,116]⟩) (a::q)=(true,q):=gm (k:=bs ⟨#[97,116]⟩) ha;have e2:jQ (a::q)=EG q:=by show(if _ then _ else _)=_;rw[if_pos ha]
  simp only[e1] at S1⊢;have Hw:=hid (Ie mb q w1 xb r KT Ae (fun b=>ok b∧b < w.heap.size) B1.out S1.out (fun h=>hx h.1) (fun b hb=>Hz.out b (List.mem_cons_of_mem _ hb)) G1.out IS);have E2:=hid e2;clear e1 e2 ha;go_wp2_with fail;refine Hw.out.mono ?_;intro e w2 he;cases hw:EG q with
  | none=>
   rw[hw] at he;obtain⟨⟨fb,rfl,hb⟩,hm⟩:=he;have xu:=hid hw;clear hw;go_wp2;rw[E2.out,xu.out];exact⟨rfl,⟨fb,rfl,hb⟩,Kh.out.trans hm (fun x hx=> .inl hx)⟩
  | some p=>
   obtain⟨b,l'⟩:=p;rw[hw] at he;obtain⟨rfl,UX,h2,s2,m2⟩:=he;have R2:=pW.out.Bh m2 (by simp;omega);have rc:=R2.cell;have rf:=R2.free;have rl:=R2.lt;have B2:=hid h2;have S2:=hid s2;have M2:=hid (Kh.out.trans m2 (fun x hx=> .inl hx));have xu:=hid hw;obtain⟨nm,v⟩:=b;have Nb:(⟨nm,v⟩:Wd).val= .agg #[.string nm,.int .i64 v]:=rfl;simp only[Nb];clear h2 s2 m2 hw Nb R2;go_wp2_with fail;refine bodyPost_ret (v:= .agg #[.string nm,.int .i64 v]) (by simp[results,Tryz.results117,go_sem,rc,rf,rl]) rfl ?_;rw[E2.out,xu.out];exact Kk B2.out S2.out M2.out (Nat.le_refl _) GK (((Av.refl _ _).setCell (.inl (by simp)) _).setCell (.inl (by simp)) _)
 ·have e1:mf (bs ⟨#[97,116]⟩) l=(false,l):=by
   cases l with
   | nil=>rfl
   | cons a q=>exact me (k:=bs ⟨#[97,116]⟩) (fun h=>ha ⟨a,q,rfl,h⟩)
  have e2:jQ l=some (.zero,l):=by
   cases l with
   | nil=>rfl
   | cons a q=>show(if _ then _ else _)=_;rw[if_neg (fun h=>ha ⟨a,q,rfl,h⟩)]
  simp only[e1] at S1⊢;have E2:=hid e2;clear e1 e2 ha;have rc:=pW.out.cell;have rf:=pW.out.free;have rl:=pW.out.lt;go_wp2_with fail;refine bodyPost_ret (v:= .agg #[.string ⟨#[]⟩,.int .i64 0]) (by simp[results,Tryz.results117,go_sem,rc,rf,rl]) rfl ?_;rw[E2.out];exact Kk B1.out S1.out Kh.out (Nat.le_refl _) GK (((Av.refl _ _).setCell (.inl (by simp)) _).setCell (.inl (by simp)) _)
def RJ (l:List (ByteArray×Value)):List MapEntry:=l.mapIdx fun i p=>{key:= .string p.1,val:=p.2,born:=i}
def G9 (l:List (ByteArray×Value)):Obj:= .map (RJ l).toArray l.length
def Ts (l:List (ByteArray×Value)) (s:ByteArray):Option Value:=(l.find? fun p=>decide (p.1=s)).map (·.2)
theorem YN (l:List (ByteArray×Value)) (s:ByteArray) (v:Value):RJ (l++[(s,v)])=RJ l++[{key:= .string s,val:=v,born:=l.length}]:=by
 simp[RJ,List.mapIdx_append]
theorem NI (s:ByteArray):∀(l:List (ByteArray×Value)) (f:Nat→Nat) (i:Nat),
  Instr.findNow .string (.string s) (l.mapIdx fun i p=>({key:= .string p.1,val:=p.2,born:=f i}:MapEntry)) i=some ((l.findIdx? fun p=>decide (p.1=s)).bind fun j=>l[j]?.map fun p=>(i+j,p.2))
 | [],f,i=>by simp[Instr.findNow]
 | p::l,f,i=>by
  rw[List.mapIdx_cons];obtain⟨r,hr,rY⟩:=MapKept.sameNow_of_keys (d:= .string) (a:= .string s) (b:= .string p.1) (by simp[MapKept.IsKey]) (by simp[MapKept.IsKey]);simp only[Instr.findNow,hr];cases r with
  | true=>
   have h:p.1=s:=by have:=rY.1 rfl;injection this with h;exact h.symm
   simp[List.findIdx?_cons,h]
  | false=>
   have h:¬p.1=s:=fun e=>by have:=rY.2 (by rw[e]);cases this
   simp only[];rw[NI s l (fun i=>f (i+1)) (i+1)];simp only[List.findIdx?_cons,h,decide_false,Bool.false_eq_true,if_false];cases hf:l.findIdx? fun p=>decide (p.1=s) with
   | none=>simp
   | some j=>simp;congr 1;funext p;congr 1;omega
theorem iP {α:Type} (f:α→Bool) (l:List α):l.find? f=(l.findIdx? f).bind fun j=>l[j]?:=by
 induction l with
 | nil=>rfl
 | cons a l ih=>
  rw[List.find?_cons,List.findIdx?_cons];cases f a with
  | true=>simp
  | false=>simp[ih];cases l.findIdx? f <;>simp
section
variable {P:Program} {t k e:TypeId} {w:World} {b:Nat} {l:List (ByteArray×Value)}
theorem LR (ht:P.underlying t=some (.map k e)) (hk:P.underlying k=some .string) {z:Value} (hz:(zeroValue e).run P w= .ok z w) (hb:w.heap[b]?=some (G9 l)) (s:ByteArray) (c:Bool):
  (Instr.lookup t (.map (some b)) (.string s) c).run P w= .ok (if c then .tuple #[(Ts l s).getD z,.bool (Ts l s).isSome] else (Ts l s).getD z) w:=by
 have hc:∀em,(Instr.checkKey em 10000 k (.string s)).run P w= .ok () w:=fun em=>MapKept.run_checkKey (k:= .string s) hk (by simp[MapKept.IsKey]) em 9999
 have hf:=MapKept.run_findKey (w:=w) hk (NI s l id 0);unfold G9 at hb;unfold Ts;rw[iP];simp only[id] at hf;unfold RJ at hb;cases hj:l.findIdx? fun p=>decide (p.1=s) with
 | none=>
  rw[hj] at hf;simp only[Option.bind_none] at hf;cases c <;>simp[Instr.lookup,run_underlying ht,MapKept.run_getObj_map hb,hc,hf,hz,Result.andThen]
 | some j=>
  rw[hj] at hf;have Bi:j < l.length:=(List.findIdx?_eq_some_iff_findIdx_eq.1 hj).1;simp only[Option.bind_some,List.getElem?_eq_getElem Bi,Option.map_some] at hf;cases c <;>simp[Instr.lookup,run_underlying ht,MapKept.run_getObj_map hb,hc,hf,hz,Result.andThen,List.getElem?_eq_getElem Bi]
theorem b8 {l:List (ByteArray×Value)} {s:ByteArray} (h:Ts l s=none):(l.findIdx? fun p=>decide (p.1=s))=none:=by
 unfold Ts at h;rw[Option.map_eq_none_iff,List.find?_eq_none] at h;rw[List.findIdx?_eq_none_iff];intro x hx;have:=h x hx;simpa using this
theorem JT (ht:P.underlying t=some (.map k e)) (hk:P.underlying k=some .string) (hb:w.heap[b]?=some (G9 l)) (s:ByteArray) (v:Value) (hn:Ts l s=none):
  (Instr.mapUpdate t (.map (some b)) (.string s) v).run P w= .ok () {w with heap:=w.heap.setIfInBounds b (G9 (l++[(s,v)]))}:=by
 have hc:∀em,(Instr.checkKey em 10000 k (.string s)).run P w= .ok () w:=fun em=>MapKept.run_checkKey (k:= .string s) hk (by simp[MapKept.IsKey]) em 9999
 have hf:=MapKept.run_findKey (w:=w) hk (NI s l id 0);simp only[id,b8 hn,Option.bind_none] at hf;unfold G9 at hb⊢;rw[YN];have cS:(Instr.findKey k (.string s) (RJ l)).run P w= .ok none w:=hf;simp[Instr.mapUpdate,run_underlying ht,MapKept.run_getObj_map hb,hc,cS,MapKept.run_setObj_map _ hb,Result.andThen]
end
end Go.Proofs.YtpdfifdlhpmofaaGreatDoor
