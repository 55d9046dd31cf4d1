/-
  Part 16 of the proof.
-/
import Derived.Test.YtpdfifdlhpmofaaGreatDoorZ15
set_option linter.unusedVariables false
set_option linter.unusedSimpArgs false
set_option maxHeartbeats 3200000
set_option maxRecDepth 100000
namespace Go.Proofs.YtpdfifdlhpmofaaGreatDoor
open Go.RowKit Tryz
open Go.Lib (hid)
theorem ma4 {p:Prop} (h:p:=by
 clear hc;go_wp2_with fail;refine(Fi _ xb r _ Ae (B1.Bf ((Av.refl [] w1).alloc _) EQ)).mono ?_;rintro e w5 ⟨⟨fb,rfl,hb⟩,hm⟩;go_wp2;rw[Hr.out];exact⟨rfl,⟨fb,rfl,hb⟩,(M1.alloc _).Ad hm⟩):p:=h
theorem mbN {p:Prop} (h:p:=by
 have Hn:=hid hn;clear hn;go_enter func112,ntmps112;go_wp2;go_ret;exact⟨by rw[Hn.out];rfl,Av.refl _ _⟩):p:=h
variable {Ae v:Int} {w w2:World} {a s:ByteArray} {l:Ws}
theorem lI (l:By):(Ay l).toList=l:=by rw[ByteArray.toList_eq];exact Cw l
theorem WY (s:ByteArray) (w:World) (hs:s.size<=1000000):
  Calls prog 112 #[.string s] w (AcG (Bg (bs s)) w):=by
 by_cases h0:(0:Int) < (s.size:Int)
 ·by_cases h6:(s.size:Int)<=6
  ·have hn:Bg (bs s)=(Ay (Lib.trimS (bs s) M9)).toList.isEmpty:=by
    rw[Qx,Bw,Qa0 (by omega:0 < s.size),Qa0 (by omega:s.size<=6),lI];cases Lib.trimS (bs s) M9 with
    | nil=>rfl
    | cons a l=>rfl
   have Hn:=hid hn;clear hn;go_enter func112,ntmps112;go_wp2_with fail;refine(qR s _ hs).mono ?_;rintro e w1 ⟨rfl,hm⟩;go_wp2;go_ret;exact⟨by rw[Hn.out];rfl,hm⟩
  ·have hn:Bg (bs s)=false:=by
    rw[Qx,Bw,Qal (by omega:¬s.size<=6)];simp
   exact mbN
 ·have hn:Bg (bs s)=false:=by
   rw[Qx,Bw,Qal (by omega:¬0 < s.size)];simp
  exact mbN
theorem F1.same {M:List Nat} {c:Int} {w1:World} {e:Ending} (h:F1 [] c Ae w1 e w2) (k:Av M w w1):F1 M c Ae w e w2:=⟨h.1,k.Ad h.2⟩
def Wd.val (a:Wd):Value:= .agg #[.string a.name,i5 a.v]
theorem Ada (h:Bg (bs a)=true):YW (a::l)=some (a,l):=by show(if _ then _ else _)=_;rw[In h]
theorem Adb (h:Bg (bs a)=false):YW (a::l)=none:=by show(if _ then _ else _)=_;rw[I (by rw[h];simp)]
theorem AeS (h:Bg (bs a)=true):Ff (a::l)=some (⟨a,0⟩,l):=by show(if _ then _ else _)=_;rw[In h]
theorem AeT (h:Bg (bs a)=false) (k:number (bs a)=some v):Ff (a::l)=some (⟨⟨#[]⟩,v⟩,l):=by show(if _ then _ else _)=_;rw[I (by rw[h];simp),k]
theorem AcP (h:Bg (bs a)=false) (k:number (bs a)=none):Ff (a::l)=none:=by show(if _ then _ else _)=_;rw[I (by rw[h];simp),k]
theorem Md (l:Ws) (w:World) (xb:Nat) (r:PV) (wv:Value) (Ae:Int) (ok:Nat->Prop) (h:b9 w xb r wv Ae) (hs:Sl w ok wv (A3 l)) (hx:¬ok xb) (hz:∀a,a∈l->a.size<=1000000):
  Calls prog 97 #[i6 xb] w (Nv ((YW l).map fun p=>(.string p.1,p.2)) xb r Ae ok w):=by
 have hn:=Je l w xb r wv Ae ok h hs hx;have Hn:=hid hn;clear hn h hs;go_enter func97,ntmps97;go_wp2_with fail;refine Hn.mono ?_;intro e w1 he;cases l with
 | nil=>
  obtain⟨⟨fb,rfl,hb⟩,hm⟩:=he;go_wp2;exact mbg
 | cons a l=>
  obtain⟨rfl,Mx,h1,s1,m1⟩:=he;have hza:=hz a (J ..);clear hz;go_wp2_with fail;refine(WY a _ hza).mono ?_;rintro e w2 ⟨rfl,m2⟩;cases hb:Bg (bs a) with
  | true=>
   have Hb:=hid hb;clear hb;go_wp2;go_ret;rw[Ada Hb.out];exact⟨rfl,Mx,BM.Bf h1 m2 EQ,s1.Bf m2 (fun b hb hm=>by cases hm),m1.Ad m2⟩
  | false=>
   have Hb:=hid hb;clear hb;go_wp2_with fail;refine(Fi _ xb r _ Ae (BM.Bf h1 m2 EQ)).mono ?_;rintro e w3 ⟨⟨fb,rfl,hb⟩,hm⟩;go_wp2;rw[Adb Hb.out];exact⟨rfl,⟨fb,rfl,hb⟩,(m1.Ad m2).Ad hm⟩
theorem tM:((Ay (Lib.itoa v)).toList==s.toList)=decide (Lib.itoa v=bs s):=by
 rw[lI,ByteArray.toList_eq,Qcp,Qbu,Qad]
theorem LJ {xb:Nat} {r:PV} {ok:Nat->Prop} {w3:World} {v wv:Value} (h1:b9 w2 xb r wv Ae) (s1:Sl w2 (fun b=>ok b/\b < w.heap.size) wv (A3 l)) (M:Av [xb] w w2) {nb:Nat} (Vf:w.heap.size<=nb) (hx:xb < w.heap.size) (k:Av [nb] w2 w3):
  Nv (some (v,l)) xb r Ae ok w (.returned v) w3:=
 ⟨rfl,wv,BM.Bf h1 k (by simp;omega),(s1.Bf k (fun b hb hm=>by rw[Z] at hm;have:=hb.2;omega)).mono (fun b _ hb=>hb.1),M.trans k (fun x hx=>by rw[Z] at hx;exact .inr Y)⟩
theorem Jd (mb:Nat) (l:Ws) (w:World) (xb:Nat) (r:PV) (wv:Value) (Ae:Int) (ok:Nat->Prop) (h:b9 w xb r wv Ae) (hs:Sl w ok wv (A3 l)) (hx:¬ok xb) (hz:∀a,a∈l->a.size<=1000000) (hg:Gl mb w) (JZ:xb∉Td mb):
  Calls prog 113 #[i6 xb] w (Nv ((Ff l).map fun p=>(p.1.val,p.2)) xb r Ae ok w):=by
 have ha:∀t:Obj,b9 (w.alloc t) xb r wv Ae:=fun t=>BM.Bf h ((Av.refl [] w).alloc t) EQ
 have hn:=fun t:Obj=>Je l (w.alloc t) xb r wv Ae (fun b=>ok b/\b < w.heap.size) (ha t) ((hs.mono (fun b hb ho=>⟨ho,hb⟩)).Bf ((Av.refl [] w).alloc t) (fun b hb hm=>by cases hm)) (fun h=>hx h.1)
 have Hn:=hid hn;have Hg:=hid hg;have Ia:=BA h;clear hn h hs ha hg;go_enter func113,ntmps113;go_wp2_with fail;refine(Hn _).mono ?_;intro e w1 he;cases l with
 | nil=>
  obtain⟨⟨fb,rfl,hb⟩,hm⟩:=he;go_wp2;exact⟨rfl,⟨fb,rfl,hb⟩,((Av.refl [xb] w).alloc _).trans hm (fun x hx=> .inl hx)⟩
 | cons a l=>
  obtain⟨rfl,Mx,h1,s1,m1⟩:=he;have hza:=hz a (J ..);clear hz Hn;have R1:BM w1 w.heap.size #[.string ⟨#[]⟩,i5 0] 230:=BM.Bf (BM.new w _ _) m1 (by simp;omega);have M1:Av [xb] w w1:=((Av.refl [xb] w).alloc _).trans m1 (fun x hx=> .inl hx);have G1:=hid (Hg.Bf M1 (fun b hb hm=>by rw[Z] at hm;rw[hm] at hb;exact JZ hb));have B1:=hid h1;have S1:=hid s1;have HR1:=hid R1;have LD:=hid M1;clear m1 h1 s1 M1;have rc:=R1.cell;clear R1 rc;go_wp2_with fail;refine(WY a _ hza).mono ?_;rintro e w2 ⟨rfl,m2⟩;have R2:=HR1.Bf m2 EQ;have rc:=R2.cell;have rf:=R2.free;have rl:=R2.lt;have jR:=hid R2;have Ik:=hid (LD.Ad m2);have ZT:=hid m2;clear R2 m2;cases hb:Bg (bs a) with
  | true=>
   have Hb:=hid hb;clear hb;go_wp2_with fail;refine bodyPost_ret (v:= .agg #[.string a,i5 0]) (by simp[results,results113,go_sem,rc,rf,rl]) rfl ?_;rw[AeS Hb.out];exact LJ (B1.Bf ZT EQ) (S1.Bf ZT (fun b hb hm=>by cases hm)) Ik (LE _) Ia (((Av.refl _ _).setCell (.inl EQ) _).setCell (.inl EQ) _)
  | false=>
   have Hb:=hid hb;clear hb rc rf rl;go_wp2_with fail;refine(mZ mb a _ (G1.quiet ZT) hza).mono ?_;rintro e w3 ⟨m3,⟨v,hp,rfl⟩ | ⟨hp,v,t,p,rfl⟩⟩
   ·have h64: -9223372036854775808<=v/\v<=9223372036854775807:=by
     have h:=Lib.parseIntB_bounds hp;rw[show((2 ^ (64 - 1):Nat):Int)=9223372036854775808 from rfl] at h;omega
    have xu:=hid (ZT.Ad m3);have Hp:=hid hp;have KV:=hid (Ik.Ad m3);clear hp m3;go_wp2_with fail;refine(Vk v h64 _ (G1.quiet xu).tab).mono ?_;rintro e w4 ⟨rfl,m4⟩;have Hm4:=hid (xu.Ad m4);have Vo:=hid (KV.Ad m4);have R4:=HR1.Bf Hm4 EQ;have rc:=R4.cell;have rf:=R4.free;have rl:=R4.lt;clear m4 R4;have AD:=tM (v:=v) (s:=a);by_cases he:Lib.itoa v=bs a
    ·have hn:number (bs a)=some v:=(Qs _ _).2 ⟨Hp,he⟩;rw[Qa0 he] at AD;have Hn2:=hid hn;clear he hn;go_wp2_with fail;refine bodyPost_ret (v:= .agg #[.string ⟨#[]⟩,i5 v]) (by simp[results,results113,go_sem,rc,rf,rl]) rfl ?_;rw[AeT Hb.out Hn2.out];exact LJ (B1.Bf Hm4 EQ) (S1.Bf Hm4 (fun b hb hm=>by cases hm)) Vo (LE _) Ia (((Av.refl _ _).setCell (.inl EQ) _).setCell (.inl EQ) _)
    ·have hn:number (bs a)=none:=by
      cases hq:number (bs a) with
      | none=>rfl
      | some u=>
       obtain⟨q1,q2⟩:=(Qs _ _).1 hq;rw[Hp.out] at q1;cases q1;exact UV q2 he
     rw[Qal he] at AD;have Hn2:=hid hn;clear he hn rc rf rl;go_wp2_with fail;refine(Fi _ xb r _ Ae (B1.Bf Hm4 EQ)).mono ?_;rintro e w5 ⟨⟨fb,rfl,hb⟩,hm⟩;go_wp2;rw[AcP Hb.out Hn2.out];exact⟨rfl,⟨fb,rfl,hb⟩,Vo.Ad hm⟩
   ·have hn:number (bs a)=none:=by
     cases hq:number (bs a) with
     | none=>rfl
     | some u=>exact UV ((Qs _ _).1 hq).1 (hp u)
    have Hn2:=hid hn;have xu:=hid (ZT.Ad m3);have KV:=hid (Ik.Ad m3);clear hn hp m3;go_wp2_with fail;refine(Fi _ xb r _ Ae (B1.Bf xu EQ)).mono ?_;rintro e w5 ⟨⟨fb,rfl,hb⟩,hm⟩;go_wp2;rw[AcP Hb.out Hn2.out];exact⟨rfl,⟨fb,rfl,hb⟩,KV.Ad hm⟩
theorem Zm (BH:Int) (mb:Nat) (l:Ws) (w:World) (xb:Nat) (r:PV) (wv:Value) (Ae:Int) (ok:Nat->Prop) (h:b9 w xb r wv Ae) (hs:Sl w ok wv (A3 l)) (hx:¬ok xb) (hz:∀a,a∈l->a.size<=1000000) (hg:Gl mb w) (JZ:xb∉Td mb) (hm:BH<=1000):
  Calls prog 98 #[i6 xb,i5 BH] w (Nv ((Il BH l).map fun p=>(i5 p.1,p.2)) xb r Ae ok w):=by
 have Hn:=hid (Jd mb l w xb r wv Ae (fun b=>ok b/\b < w.heap.size) h (hs.mono (fun b hb ho=>⟨ho,hb⟩)) (fun h=>hx h.1) hz hg JZ);have Ia:=BA h;clear h hs hg hz;go_enter func98,ntmps98;go_wp2_with fail;refine Hn.mono ?_;intro e w1 he;cases hw:Ff l with
 | none=>
  have hu:Il BH l=none:=by unfold Il;rw[hw]
  rw[hw] at he;obtain⟨⟨fb,rfl,hb⟩,hm⟩:=he;have Hu:=hid hu;clear hw hu Hn;go_wp2;rw[Hu.out];exact mbg
 | some q=>
  obtain⟨a,l'⟩:=q;have hu:Il BH l=if a.name.size=0/\1<=a.v/\a.v<=BH then some (a.v,l') else none:=by unfold Il;rw[hw]
  rw[hw] at he;obtain⟨rfl,Mx,h1,s1,m1⟩:=he;have B1:=hid h1;have S1:=hid s1;have M1:=hid m1;have Hu:=hid hu;have Wz:=m1.size;have AgL:=BA h1;obtain⟨nm,v⟩:=a;have Kk:(⟨nm,v⟩:Wd).val= .agg #[.string nm,i5 v]:=rfl;simp only[Kk];clear hw hu Hn h1 s1 m1 Kk;by_cases Gu:nm.size=0
  ·have WH:nm=⟨#[]⟩:=ByteArray.ext (Array.eq_empty_of_size_eq_zero Gu);subst WH;clear Gu;by_cases hc:1<=v/\v<=BH
   ·obtain⟨h1,h2⟩:=hc;have hr:Il BH l=some (v,l'):=by rw[Hu.out];exact In ⟨rfl,h1,h2⟩
    have Hr:=hid hr;clear hr Hu;go_wp2;go_ret;rw[Hr.out];exact LJ (B1) (S1) M1 Wz Ia (nb:=w1.heap.size) ((Av.refl _ _).alloc _)
   ·have hr:Il BH l=none:=by rw[Hu.out];exact I (fun h=>hc ⟨h.2.1,h.2.2⟩)
    have Hr:=hid hr;clear hr Hu;by_cases h1:v < 1
    ·exact ma4
    ·have h2:BH < v:=Y
     exact ma4
  ·have WH:¬nm.toList=[]:=by
    rw[ByteArray.toList_eq];intro h;apply Gu;have:=Qao List.length h;exact(Bw nm).symm.trans this
   have hr:Il BH l=none:=by rw[Hu.out];exact I (fun h=>Gu h.1)
   have Hr:=hid hr;clear hr Hu Gu;go_wp2_with fail;refine(Fi _ xb r _ Ae (B1.Bf ((Av.refl [] w1).alloc _) EQ)).mono ?_;rintro e w5 ⟨⟨fb,rfl,hb⟩,hm⟩;go_wp2;rw[Hr.out];exact⟨rfl,⟨fb,rfl,hb⟩,(M1.alloc _).Ad hm⟩
theorem lj (mb:Nat) (l:Ws) (w:World) (xb:Nat) (r:PV) (wv:Value) (Ae:Int) (ok:Nat->Prop) (h:b9 w xb r wv Ae) (hs:Sl w ok wv (A3 l)) (hx:¬ok xb) (hz:∀a,a∈l->a.size<=1000000) (hg:Gl mb w) (JZ:xb∉Td mb):
  Calls prog 117 #[i6 xb] w (Nv ((xr l).map fun p=>(p.1.val,p.2)) xb r Ae ok w):=by
 have Ia:=BA h;have h0:=h.Bf ((Av.refl [] w).alloc (.cells #[.string ⟨#[]⟩,i5 0] 230)) EQ;have s0:=(hs.mono (ok':=fun b=>ok b/\b < w.heap.size) (fun b hb ho=>⟨ho,hb⟩)).Bf ((Av.refl [] w).alloc (.cells #[.string ⟨#[]⟩,i5 0] 230)) (fun b hb hm=>by cases hm);have Hi:=hid (zN ⟨#[97,116]⟩ l _ xb r wv Ae (fun b=>ok b/\b < w.heap.size) h0 s0 (fun h=>hx h.1));have Hg:=hid hg;have Hz:=hid hz;clear h hs h0 s0 hg hz;go_enter func117,ntmps117;go_wp2_with fail;refine Hi.mono ?_;rintro e w1 ⟨rfl,Mx,h1,s1,m1⟩;have R1:BM w1 w.heap.size #[.string ⟨#[]⟩,i5 0] 230:=BM.Bf (BM.new w _ _) m1 (by simp;omega);have M1:Av [xb] w w1:=((Av.refl [xb] w).alloc _).trans m1 (fun x hx=> .inl hx);have G1:=hid (Hg.Bf M1 (fun b hb hm=>by rw[Z] at hm;rw[hm] at hb;exact JZ hb));have B1:=hid h1;have S1:=hid s1;have HR1:=hid R1;have LD:=hid M1;have Wz:w.heap.size<=w1.heap.size:=M1.size;clear m1 h1 s1 M1 R1 Hi;by_cases ha:∃a q,l=a::q/\bs a=iF
 ·obtain⟨a,q,rfl,ha⟩:=ha;have e1:isF (bs ⟨#[97,116]⟩) (a::q)=(true,q):=tN (k:=bs ⟨#[97,116]⟩) ha;have e2:xr (a::q)=Ff q:=by show(if _ then _ else _)=_;rw[In ha]
  simp only[e1] at S1⊢;have Hw:=hid (Jd mb q w1 xb r Mx Ae (fun b=>ok b/\b < w.heap.size) B1 S1 (fun h=>hx h.1) (fun b hb=>Hz.out b (U _ hb)) G1 JZ);have E2:=hid e2;clear e1 e2 ha;go_wp2_with fail;refine Hw.mono ?_;intro e w2 he;cases hw:Ff q with
  | none=>
   rw[hw] at he;obtain⟨⟨fb,rfl,hb⟩,hm⟩:=he;have Hwn:=hid hw;clear hw;go_wp2;rw[E2.out,Hwn.out];exact⟨rfl,⟨fb,rfl,hb⟩,LD.trans hm (fun x hx=> .inl hx)⟩
  | some p=>
   obtain⟨b,l'⟩:=p;rw[hw] at he;obtain⟨rfl,ZX,h2,s2,m2⟩:=he;have R2:=HR1.Bf m2 (by simp;omega);have rc:=R2.cell;have rf:=R2.free;have rl:=R2.lt;have B2:=hid h2;have S2:=hid s2;have M2:=hid (LD.trans m2 (fun x hx=> .inl hx));have Hwn:=hid hw;obtain⟨nm,v⟩:=b;have Kk:(⟨nm,v⟩:Wd).val= .agg #[.string nm,i5 v]:=rfl;simp only[Kk];clear h2 s2 m2 hw Kk R2;go_wp2_with fail;refine bodyPost_ret (v:= .agg #[.string nm,i5 v]) (by simp[results,results117,go_sem,rc,rf,rl]) rfl ?_;rw[E2.out,Hwn.out];exact LJ B2 S2 M2 (LE _) Ia (((Av.refl _ _).setCell (.inl EQ) _).setCell (.inl EQ) _)
 ·have e1:isF (bs ⟨#[97,116]⟩) l=(false,l):=by
   cases l with
   | nil=>rfl
   | cons a q=>exact Aaz (k:=bs ⟨#[97,116]⟩) (fun h=>ha ⟨a,q,rfl,h⟩)
  have e2:xr l=some (.zero,l):=by
   cases l with
   | nil=>rfl
   | cons a q=>show(if _ then _ else _)=_;rw[I (fun h=>ha ⟨a,q,rfl,h⟩)]
  simp only[e1] at S1⊢;have E2:=hid e2;clear e1 e2 ha;have rc:=HR1.cell;have rf:=HR1.free;have rl:=HR1.lt;go_wp2_with fail;refine bodyPost_ret (v:= .agg #[.string ⟨#[]⟩,i5 0]) (by simp[results,results117,go_sem,rc,rf,rl]) rfl ?_;rw[E2.out];exact LJ B1 S1 LD (LE _) Ia (((Av.refl _ _).setCell (.inl EQ) _).setCell (.inl EQ) _)
def Wi (l:List (ByteArray×Value)):List MapEntry:=l.mapIdx fun i p=>{key:= .string p.1,val:=p.2,born:=i}
def IM (l:List (ByteArray×Value)):Obj:= .map (Wi l).toArray l.length
def XX (l:List (ByteArray×Value)) (s:ByteArray):Option Value:=(l.find? fun p=>decide (p.1=s)).map (·.2)
theorem ik (l:List (ByteArray×Value)) (s:ByteArray) (v:Value):Wi (l++[(s,v)])=Wi l++[{key:= .string s,val:=v,born:=l.length}]:=by
 simp[Wi,List.mapIdx_append]
theorem QK (s:ByteArray):∀(l:List (ByteArray×Value)) (f:Nat->Nat) (i:Nat),
  Instr.findNow .string (.string s) (l.mapIdx fun i p=>({key:= .string p.1,val:=p.2,born:=f i}:MapEntry)) i=some ((l.findIdx? fun p=>decide (p.1=s)).bind fun j=>l[j]?.map fun p=>(i+j,p.2))
 | [],f,i=>by simp[Instr.findNow]
 | p::l,f,i=>by
  rw[List.mapIdx_cons];obtain⟨r,hr,AdX⟩:=MapKept.sameNow_of_keys (d:= .string) (a:= .string s) (b:= .string p.1) (by simp[MapKept.IsKey]) (by simp[MapKept.IsKey]);simp only[Instr.findNow,hr];cases r with
  | true=>
   have h:p.1=s:=by have:=AdX.1 rfl;injection this with h;exact h.symm
   simp[Qdr,h]
  | false=>
   have h:¬p.1=s:=fun e=>by have:=AdX.2 (by rw[e]);cases this
   simp only[];rw[QK s l (fun i=>f (i+1)) (i+1)];simp only[Qdr,h,decide_false,Qah,y4];cases hf:l.findIdx? fun p=>decide (p.1=s) with
   | none=>simp
   | some j=>simp;congr 1;funext p;congr 1;omega
theorem vt {α:Type} (f:α->Bool) (l:List α):l.find? f=(l.findIdx? f).bind fun j=>l[j]?:=by
 induction l with
 | nil=>rfl
 | cons a l ih=>
  rw[Qcz,Qdr];cases f a with
  | true=>simp
  | false=>simp[ih];cases l.findIdx? f <;>simp
section
variable {P:Program} {t k e:TypeId} {w:World} {b:Nat} {l:List (ByteArray×Value)}
theorem N9 (ht:P.underlying t=some (.map k e)) (hk:P.underlying k=some .string) {z:Value} (hz:(zeroValue e).run P w= .ok z w) (hb:w.heap[b]?=some (IM l)) (s:ByteArray) (c:Bool):
  (Instr.lookup t (.map (some b)) (.string s) c).run P w= .ok (if c then .tuple #[(XX l s).getD z,.bool (XX l s).isSome] else (XX l s).getD z) w:=by
 have hc:∀em,(Instr.checkKey em 10000 k (.string s)).run P w= .ok () w:=fun em=>MapKept.run_checkKey (k:= .string s) hk (by simp[MapKept.IsKey]) em 9999
 have hf:=MapKept.run_findKey (w:=w) hk (QK s l id 0);unfold IM at hb;unfold XX;rw[vt];simp only[id] at hf;unfold Wi at hb;cases hj:l.findIdx? fun p=>decide (p.1=s) with
 | none=>
  rw[hj] at hf;simp only[Option.bind_none] at hf;cases c <;>simp[Instr.lookup,run_underlying ht,MapKept.run_getObj_map hb,hc,hf,hz,Result.andThen]
 | some j=>
  rw[hj] at hf;have AX:j < l.length:=(List.findIdx?_eq_some_iff_findIdx_eq.1 hj).1;simp only[Option.bind_some,Id AX,Qc0] at hf;cases c <;>simp[Instr.lookup,run_underlying ht,MapKept.run_getObj_map hb,hc,hf,hz,Result.andThen,Id AX]
theorem nA {l:List (ByteArray×Value)} (h:XX l s=none):(l.findIdx? fun p=>decide (p.1=s))=none:=by
 unfold XX at h;rw[Option.map_eq_none_iff,Qds] at h;rw[List.findIdx?_eq_none_iff];intro x hx;have:=h x hx;simpa using this
theorem Le (ht:P.underlying t=some (.map k e)) (hk:P.underlying k=some .string) (hb:w.heap[b]?=some (IM l)) (s:ByteArray) (v:Value) (hn:XX l s=none):
  (Instr.mapUpdate t (.map (some b)) (.string s) v).run P w= .ok () {w with heap:=w.heap.setIfInBounds b (IM (l++[(s,v)]))}:=by
 have hc:∀em,(Instr.checkKey em 10000 k (.string s)).run P w= .ok () w:=fun em=>MapKept.run_checkKey (k:= .string s) hk (by simp[MapKept.IsKey]) em 9999
 have hf:=MapKept.run_findKey (w:=w) hk (QK s l id 0);simp only[id,nA hn,Option.bind_none] at hf;unfold IM at hb⊢;rw[ik];have WN:(Instr.findKey k (.string s) (Wi l)).run P w= .ok none w:=hf;simp[Instr.mapUpdate,run_underlying ht,MapKept.run_getObj_map hb,hc,WN,MapKept.run_setObj_map _ hb,Result.andThen]
end
end Go.Proofs.YtpdfifdlhpmofaaGreatDoor
