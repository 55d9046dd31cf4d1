/-
  Part 18 of the proof.
-/
import Derived.Test.YtpdfifdlhpmofaaGreatDoorZ17
set_option linter.unusedVariables false
set_option linter.unusedSimpArgs false
set_option maxHeartbeats 3200000
set_option maxRecDepth 100000
namespace Go.Proofs.YtpdfifdlhpmofaaGreatDoor
open Go.RowKit Tryz
open Go.Lib (hid)
theorem maA {p:Prop} (h:p:=by
 clear J0 S0;intro cs al i s w1 hi hJ;have RV:=hJ.sub i hi;simp only[Pi,Qcb,or_false] at RV;rcases RV with rfl | rfl
 ·refine Eb rfl (fun K hK=> ?_);simp only[Ji.Oi,FQ];go_simp;have h2:=hJ.a1 AC;refine hK _ _ ⟨h2.Mj MX 0,_,?_,h2⟩;simp only[Ji.Oi,fM,FQ]
 ·refine Eb rfl (fun K hK=> ?_);simp only[Ji.Oi,FQ];go_simp;have h2:=hJ.a2 AC;refine hK _ _ ⟨h2.Mj MX 0,_,?_,h2⟩;simp only[Ji.Oi,fM,FQ]):p:=h
theorem maC {p:Prop} (h:p:=by
 go_wp2_with fail;refine(AQ _ _ _).mono ?_;rintro e w5 ⟨⟨fb,rfl,hb⟩,hm⟩;go_wp2;rw[hr.out];exact⟨rfl,A7 ⟨⟨fb,rfl,hb⟩,KV.Ad hm⟩⟩):p:=h
theorem maT {p:Prop} (h:p:=by
 simp only[Qc0,Qbp,Qce] at IU;clear Tb Hr hx;go_wp2_with fail;refine(AQ _ _ _).mono ?_;rintro e w5 ⟨⟨fb,rfl,hb⟩,hm⟩;go_wp2;rw[hr.out];exact⟨rfl,A7 ⟨⟨fb,rfl,hb⟩,(KV.alloc _).Ad hm⟩⟩):p:=h
theorem maY {p:Prop} (h:p:=by
 exact⟨rfl,A7 (hR.fail ⟨⟨fb,rfl,hb⟩,hm⟩)⟩):p:=h
theorem maZ {p:Prop} (h:p:=by
 obtain⟨rfl,_⟩:=he;refine hK _ _ ⟨h2.Mj MX 0,_,?_,h2⟩;simp only[Ji.Oi,FQ]):p:=h
theorem mbE {p:Prop} (h:p:=by
 refine hK _ _ ⟨h2.Mj MX 0,_,?_,h2⟩;simp only[Ji.ny,Ji.Oi,fM,FQ]):p:=h
theorem mbH {p:Prop} (h:p:=by
 exact ho.swap (i:=0) rfl (h.Bf.mono (fun y hy=> .inl (by simpa[Ob.fp] using hy))) h1 (by simp[Ob.fp]) (fun b hb=> .inl hb)):p:=h
theorem mbJ {p:Prop} (h:p:=by
 exact ho.swap (i:=0) rfl (hm.mono (fun y hy=> .inl (by simpa[Ob.fp] using hy))) h1 (by simp[Ob.fp]) (fun b hb=> .inl hb)):p:=h
theorem mcc {p:Prop} (h:p:=by
 obtain⟨rfl,_⟩:=he;refine hK _ _ ⟨h2.Mj MX 0,_,?_,h2⟩;simp only[Ji.ny,Ji.Oi,FQ]):p:=h
variable {i b n s:Nat} {p:Option Nat} {E F:List (Nat×Obj)} {o:Obj} {l l1 r:Ws} {c:Array Value} {T:TypeId} {v wv:Value} {al':List Nat} {w w0 W:World} {Ae:Int} {g:FG} {x:qr} {L:List Ob} {xs:List Value}
structure Ji where
 v1:Value
 v2:Value
 p1:Option Nat
 p2:Option Nat
 p3:Option Nat
def fM:Option Nat->Value
 | none=>undef
 | some b=> i6 b
def Ji.Oi (i1 i2 a1 a2:Nat) (T:Array Value) (s:Ji):Array Value:=(((T.setIfInBounds i1 s.v1).setIfInBounds i2 s.v2).setIfInBounds a1 (fM s.p1)).setIfInBounds a2 (fM s.p2)
def Ji.ny (i1 i2 a1 a2 a3:Nat) (T:Array Value) (s:Ji):Array Value:=(Ji.Oi i1 i2 a1 a2 T s).setIfInBounds a3 (fM s.p3)
def ky (l:Ws):Option (Value×Ws):=(YW l).map fun p=>(.string p.1,p.2)
def TC (l:Ws):Option (Value×Ws):=(Ff l).map fun p=>(p.1.val,p.2)
def RgC (f1 f2:Ws->Option (Value×Ws)) (ws:Ws) (c1 c2:Nat) (cs:List Nat) (s:Ji) (l:Ws):Prop:=
 (cs=[c1,c2]/\l=ws)\/(cs=[c2]/\f1 ws=some (s.v1,l))\/(cs=[]/\∃l1,f1 ws=some (s.v1,l1)/\f2 l1=some (s.v2,l))
def xt (i:Nat) (al:List Nat) (p:Option Nat) (E:List (Nat×Obj)) (o:Obj):Prop:=(i∈al/\p=none)\/(i∉al/\∃b,p=some b/\(b,o)∈E)
structure QQ (w0:World) (xb:Nat) (r:PV) (Ae:Int) (f1 f2:Ws->Option (Value×Ws)) (ws:Ws) (c1 c2 i1 i2 i3:Nat) (o1 o2 o3:Obj) (is:List Nat) (E0:List (Nat×Obj)) (cs al:List Nat) (s:Ji) (w:World):Prop where
 ex:∃E l,Rd w0 xb r Ae E l w/\cd E0 E/\RgC f1 f2 ws c1 c2 cs s l/\xt i1 al s.p1 E o1/\xt i2 al s.p2 E o2/\xt i3 al s.p3 E o3
 nd:al.Nodup
 sub:∀i,i∈al->i∈is
 UM:∀b,s.p1=some b->s.p2=some b->False
 bO:∀b,s.p1=some b->s.p3=some b->False
 Zz:∀b,s.p2=some b->s.p3=some b->False
section
variable {w0:World} {xb:Nat} {r:PV} {Ae:Int} {f1 f2:Ws->Option (Value×Ws)} {ws:Ws} {c1 c2 i1 i2 i3:Nat} {o1 o2 o3:Obj} {is:List Nat} {E0:List (Nat×Obj)} {cs al:List Nat} {s:Ji} {w:World}
theorem xt.same (h:xt i al p E o) {j:Nat} (hj:i≠j) (nb:Nat×Obj):xt i (al.erase j) p (nb::E) o:=by
 rcases h with⟨h1,h2⟩ | ⟨h1,b,h2,h3⟩
 ·exact .inl ⟨(List.mem_erase_of_ne hj).2 h1,h2⟩
 ·exact .inr ⟨fun h=>h1 ((List.mem_erase_of_ne hj).1 h),b,h2,U _ h3⟩
theorem xt.JA (hd:al.Nodup) (E:List (Nat×Obj)) (o:Obj) (b:Nat):xt i (al.erase i) (some b) ((b,o)::E) o:=
 .inr ⟨fun h=>(List.Nodup.mem_erase_iff hd).1 h |>.1 rfl,b,rfl,J ..⟩
theorem xt.lt (h:xt i al p E o) (hR:Rd w0 xb r Ae E l w):p=some w.heap.size->False:=by
 rintro rfl;rcases h with⟨_,h2⟩ | ⟨_,b,h2,h3⟩
 ·cases h2
 ·cases h2;exact Qdy _ (hR.pw h3)
theorem QQ.a1 (hn:i1≠i2/\i1≠i3/\i2≠i3) (h:QQ w0 xb r Ae f1 f2 ws c1 c2 i1 i2 i3 o1 o2 o3 is E0 cs al s w):QQ w0 xb r Ae f1 f2 ws c1 c2 i1 i2 i3 o1 o2 o3 is E0 cs (al.erase i1) {s with p1:=some w.heap.size} (w.alloc o1):=by
 obtain⟨⟨E,l,hR,hM,hC,h1,h2,h3⟩,nd,sub,UM,bO,Zz⟩:=h;exact⟨⟨_,l,hR.Uy o1,fun y hy=>U _ (hM y hy),hC,.JA nd E o1 _,h2.same (Ne.symm hn.1) _,h3.same (Ne.symm hn.2.1) _⟩,nd.erase _,fun i hi=>sub i (Qda hi),
   fun b hb=>by cases hb;exact h2.lt hR,fun b hb=>by cases hb;exact h3.lt hR,Zz⟩
theorem QQ.a2 (hn:i1≠i2/\i1≠i3/\i2≠i3) (h:QQ w0 xb r Ae f1 f2 ws c1 c2 i1 i2 i3 o1 o2 o3 is E0 cs al s w):QQ w0 xb r Ae f1 f2 ws c1 c2 i1 i2 i3 o1 o2 o3 is E0 cs (al.erase i2) {s with p2:=some w.heap.size} (w.alloc o2):=by
 obtain⟨⟨E,l,hR,hM,hC,h1,h2,h3⟩,nd,sub,UM,bO,Zz⟩:=h;exact⟨⟨_,l,hR.Uy o2,fun y hy=>U _ (hM y hy),hC,h1.same hn.1 _,.JA nd E o2 _,h3.same (Ne.symm hn.2.2) _⟩,nd.erase _,fun i hi=>sub i (Qda hi),
   fun b hb hc=>by cases hc;exact h1.lt hR hb,bO,fun b hb=>by cases hb;exact h3.lt hR⟩
theorem QQ.a3 (hn:i1≠i2/\i1≠i3/\i2≠i3) (h:QQ w0 xb r Ae f1 f2 ws c1 c2 i1 i2 i3 o1 o2 o3 is E0 cs al s w):QQ w0 xb r Ae f1 f2 ws c1 c2 i1 i2 i3 o1 o2 o3 is E0 cs (al.erase i3) {s with p3:=some w.heap.size} (w.alloc o3):=by
 obtain⟨⟨E,l,hR,hM,hC,h1,h2,h3⟩,nd,sub,UM,bO,Zz⟩:=h;exact⟨⟨_,l,hR.Uy o3,fun y hy=>U _ (hM y hy),hC,h1.same hn.2.1 _,h2.same hn.2.2 _,.JA nd E o3 _⟩,nd.erase _,fun i hi=>sub i (Qda hi),
   UM,fun b hb hc=>by cases hc;exact h1.lt hR hb,fun b hb hc=>by cases hc;exact h2.lt hR hb⟩
theorem QQ.Mj (h:QQ w0 xb r Ae f1 f2 ws c1 c2 i1 i2 i3 o1 o2 o3 is E0 cs al s w) (hb:(b,Obj.cells c T (0,0))∈E0) (i:Nat):w.cell? ⟨b,i,none⟩=c[i]?:=by
 obtain⟨⟨E,l,hR,hM,_⟩,_⟩:=h;exact hR.cell (hM _ hb) i
theorem QQ.done (h:QQ w0 xb r Ae f1 f2 ws c1 c2 i1 i2 i3 o1 o2 o3 is E0 [] [] s w):∃E l l1 b1 b2 b3,Rd w0 xb r Ae E l w/\cd E0 E/\f1 ws=some (s.v1,l1)/\f2 l1=some (s.v2,l)/\s.p1=some b1/\s.p2=some b2/\s.p3=some b3/\(b1,o1)∈E/\(b2,o2)∈E/\(b3,o3)∈E/\b1≠b2/\b1≠b3/\b2≠b3:=by
 obtain⟨⟨E,l,hR,hM,hC,h1,h2,h3⟩,nd,sub,UM,bO,Zz⟩:=h;rcases hC with⟨h,_⟩ | ⟨h,_⟩ | ⟨_,l1,k1,k2⟩
 ·cases h
 ·cases h
 rcases h1 with⟨h,_⟩ | ⟨_,b1,e1,m1⟩
 ·cases h
 rcases h2 with⟨h,_⟩ | ⟨_,b2,e2,m2⟩
 ·cases h
 rcases h3 with⟨h,_⟩ | ⟨_,b3,e3,m3⟩
 ·cases h
 exact⟨E,l,l1,b1,b2,b3,hR,hM,k1,k2,e1,e2,e3,m1,m2,m3,fun e=>UM b1 e1 (e▸e2),fun e=>bO b1 e1 (e▸e3),fun e=>Zz b2 e2 (e▸e3)⟩
theorem QQ.vU (h:QQ w0 xb r Ae f1 f2 ws c1 c2 i1 i2 i3 o1 o2 o3 is E0 [c1,c2] al s w) (hf:f1 ws=some (v,l1)) {w':World} (hw:∀E,Rd w0 xb r Ae E ws w->Rd w0 xb r Ae E l1 w'):QQ w0 xb r Ae f1 f2 ws c1 c2 i1 i2 i3 o1 o2 o3 is E0 [c2] al {s with v1:=v} w':=by
 obtain⟨⟨E,l,hR,hM,hC,h1,h2,h3⟩,nd,sub,UM,bO,Zz⟩:=h;rcases hC with⟨_,rfl⟩ | ⟨h,_⟩ | ⟨h,_⟩
 ·exact⟨⟨E,l1,hw E hR,hM,.inr (.inl ⟨rfl,hf⟩),h1,h2,h3⟩,nd,sub,UM,bO,Zz⟩
 ·cases h
 ·cases h
theorem QQ.vT (h:QQ w0 xb r Ae f1 f2 ws c1 c2 i1 i2 i3 o1 o2 o3 is E0 [c2] al s w) (P5:f1 ws=some (s.v1,l)) (hf:f2 l=some (v,l1)) {w':World} (hw:∀E,Rd w0 xb r Ae E l w->Rd w0 xb r Ae E l1 w'):QQ w0 xb r Ae f1 f2 ws c1 c2 i1 i2 i3 o1 o2 o3 is E0 [] al {s with v2:=v} w':=by
 obtain⟨⟨E,l',hR,hM,hC,h1,h2,h3⟩,nd,sub,UM,bO,Zz⟩:=h;rcases hC with⟨h,_⟩ | ⟨_,h⟩ | ⟨h,_⟩
 ·cases h
 ·rw[P5] at h;cases h;exact⟨⟨E,l1,hw E hR,hM,.inr (.inr ⟨rfl,_,P5,hf⟩),h1,h2,h3⟩,nd,sub,UM,bO,Zz⟩
 ·cases h
theorem QQ.at1 (h:QQ w0 xb r Ae f1 f2 ws c1 c2 i1 i2 i3 o1 o2 o3 is E0 [c1,c2] al' s w):∃E,Rd w0 xb r Ae E ws w:=by
 obtain⟨⟨E,l,hR,hM,hC,_⟩,_⟩:=h;rcases hC with⟨_,rfl⟩ | ⟨h,_⟩ | ⟨h,_⟩
 ·exact⟨E,hR⟩
 ·cases h
 ·cases h
theorem QQ.at2 (h:QQ w0 xb r Ae f1 f2 ws c1 c2 i1 i2 i3 o1 o2 o3 is E0 [c2] al' s w):∃E l,Rd w0 xb r Ae E l w/\f1 ws=some (s.v1,l):=by
 obtain⟨⟨E,l,hR,hM,hC,_⟩,_⟩:=h;rcases hC with⟨h,_⟩ | ⟨_,h⟩ | ⟨h,_⟩
 ·cases h
 ·exact⟨E,l,hR,h⟩
 ·cases h
theorem QQ.qO {c:Nat} {cs':List Nat} (h:QQ w0 xb r Ae f1 f2 ws c1 c2 i1 i2 i3 o1 o2 o3 is E0 (c::cs') al s w):(c=c1/\cs'=[c2])\/(c=c2/\cs'=[]):=by
 obtain⟨⟨E,l,hR,hM,hC,_⟩,_⟩:=h;rcases hC with⟨h,_⟩ | ⟨h,_⟩ | ⟨h,_⟩
 ·cases h;exact .inl ⟨rfl,rfl⟩
 ·cases h;exact .inr ⟨rfl,rfl⟩
 ·cases h
end
theorem Eb {P:Program} {Bh:Array Oper} {Q:Exit->Act->World->Prop} {o:Oper} {K:Act->World->Prop} {a:Act} (ho:Bh[i]?=some o)
  (h:∀K':Act->World->Prop,(∀a' w',K a' w'->K' a' w')->if Region.wanted o (yielded Bh a.tmps)=true then Oper.wp P o a w K' Q else K' (a.put o.dst undef) w):wpOp P Bh Q i K a w:=lX ho (h K fun _ _ h=>h)
theorem Lg {n:ByteArray} (h:YW l=some (n,l1)):∀a,a∈l1->a∈l:=by
 cases l with
 | nil=>cases h
 | cons a q=>
  cases hb:Bg (bs a) with
  | true=>rw[Ada hb] at h;cases h;exact fun b hb=>U _ hb
  | false=>rw[Adb hb] at h;cases h
theorem Yl {n:Wd} (h:Ff l=some (n,l1)):∀a,a∈l1->a∈l:=by
 cases l with
 | nil=>cases h
 | cons a q=>
  rw[BY] at h;split at h
  ·cases h;exact fun b hb=>U _ hb
  ·cases h
theorem KF (h:ky l=some (v,l1)):∃n,YW l=some (n,l1)/\v= .string n:=by
 unfold ky at h;cases hn:YW l with
 | none=>rw[hn] at h;cases h
 | some p=>obtain⟨n,l2⟩:=p;rw[hn] at h;cases h;exact⟨n,rfl,rfl⟩
theorem Vu (h:TC l=some (v,l1)):∃a,Ff l=some (a,l1)/\v=a.val:=by
 unfold TC at h;cases hn:Ff l with
 | none=>rw[hn] at h;cases h
 | some p=>obtain⟨n,l2⟩:=p;rw[hn] at h;cases h;exact⟨n,rfl,rfl⟩
theorem qP:∀op,op∈Cj->¬op.size=0:=by decide+kernel
theorem Rd.ne {xb:Nat} {r:PV} (h:Rd w0 xb r Ae E l w) {b c:Nat} {o p:Obj} (h1:(b,o)∈E) (h2:(c,p)∈E) (ho:o≠p):b≠c:=by
 rintro rfl;exact ho (h.Xx h1 h2)
theorem zJ (nm:ByteArray) (ws:Ws) (mb:Nat) (w:World) (g:FG) (x:qr) (wv:Value) (Ae:Int) (F:List (Nat×Obj)) (r:PV) (h:qu F g x wv Ae w r) (hs:Sl w (fun b=>b≠g.xb) wv (A3 ws)) (hz:∀a,a∈ws->a.size<=1000000) (hg:Gl mb w) (JZ:g.xb∉Td mb) (hb:Xq g) (AD:0<=x.Ah/\x.Ah<=1000) (hk:bs nm=CF):
  Calls prog 101 #[i6 g.xb,.string nm] w (Qa (x.AL nm ws) F g x wv Ae w):=by
 have H:=hid h;have Hz:=hid hz;have Hg:=hid hg;have Hb:=hid hb;have Hk:=hid hk;have HX:=hid JZ;have oF:∀(fn:Fn) (first cap:Array Value) (w:World),(Instr.makeFunc fn first cap).run prog w= .ok (.func fn first cap) w:=fun _ _ _ _=>rfl
 have R0:=hid ((Rd.start (r:=r) h.px hs).Uy (.cells #[i6 g.xb] 143));have AX:=BA h.px;obtain⟨bx,JK⟩:∃b,b=w.heap.size:=⟨_,rfl⟩;have Hbx:=hid JK;have q0:=An (x:=nm) (k:=CY) (by rw[hk];decide);unfold CY at q0;have q1:=BO hk;unfold CF at q1;have qa:=An (x:=nm) (k:=AH) (by rw[hk];decide);unfold AH at qa;clear h hs hz hg JZ hb hk JK;go_enter func101,ntmps101;have SZ:Hid ((w.heap.size,Obj.cells #[i6 g.xb] 143 (0,0))∈[(w.heap.size,Obj.cells #[i6 g.xb] 143 (0,0))]):=hid (J ..);obtain⟨E,hE⟩:∃E,E=[(w.heap.size,Obj.cells #[i6 g.xb] 143 (0,0))]:=⟨_,rfl⟩;rw[<-hE] at SZ R0;clear hE;have MX:=SZ;clear SZ;go_upto_region 15 with fail
 have S0:=R0.quiet (Av.refl [] _).drew;refine My [0,2] [1,3] [4,5] [(6,false),(7,false)] (fun W=>W.cell? ⟨w.heap.size,0,none⟩=some (i6 g.xb)) 7 (S0.cell MX 0) ?_;refine Kf (v:= ?_) rfl rfl rfl (fun W hW=> ?_) ?_;rotate_left
 ·go_simp;rfl
 simp only[FQ];refine Kf (v:= ?_) rfl rfl rfl (fun W hW=> ?_) ?_;rotate_left
 ·go_simp;rfl
 simp only[FQ];simp only[TB];have J0:QQ w g.xb r Ae ky ky ws 1 3 4 5 99 (Obj.cells #[.string ⟨#[]⟩] 9 (0,0)) (Obj.cells #[.string ⟨#[]⟩] 9 (0,0)) (Obj.cells #[i6 g.xb] 143 (0,0)) [4,5] E [1,3] [4,5] ⟨undef,undef,none,none,some w.heap.size⟩ _:=⟨⟨E,ws,S0,fun _ h=>h,.inl ⟨rfl,rfl⟩,.inl ⟨AC,rfl⟩,.inl ⟨AC,rfl⟩,.inr ⟨AC,_,rfl,MX⟩⟩,AC,fun _ h=>h,EQ,EQ,EQ⟩;refine Sx (Ji.Oi 49 51 10 11) (QQ w g.xb r Ae ky ky ws 1 3 4 5 99 (Obj.cells #[.string ⟨#[]⟩] 9 (0,0)) (Obj.cells #[.string ⟨#[]⟩] 9 (0,0)) (Obj.cells #[i6 g.xb] 143 (0,0)) [4,5] E) ?_ ?_ ?_ rfl _ (by simp only[Ji.Oi,fM,FQ]) J0
 ·clear J0 S0;intro c cs al s w1 hJ;rcases hJ.qO with⟨rfl,rfl⟩ | ⟨rfl,rfl⟩
  ·refine Eb rfl (fun K hK=> ?_);simp only[Ji.Oi,FQ];go_simp;obtain⟨E1,hR⟩:=hJ.at1;obtain⟨Mx,p1,s1⟩:=hR.px;refine(Md ws _ g.xb r Mx Ae _ p1 s1 (fun h=>h.1 rfl) Hz).mono ?_;intro e w2 he;cases hf:YW ws with
   | none=>
    rw[hf] at he;obtain⟨⟨fb,rfl,hb⟩,hm⟩:=he;rw[Ck (x:=x) (w:=nm) (r:=ws) (by rw[Oc Hk.out];unfold Kz;rw[hf])];exact maY
   | some p=>
    obtain⟨n,l1⟩:=p;rw[hf] at he;have h2:=hJ.vU (v:= .string n) (l1:=l1) (by unfold ky;rw[hf];rfl) (fun E hE=>(hE.Eg he).2);exact maZ
  ·refine Eb rfl (fun K hK=> ?_);simp only[Ji.Oi,FQ];go_simp;obtain⟨E1,l1,hR,P5⟩:=hJ.at2;obtain⟨n,hn,hv⟩:=KF P5;obtain⟨Mx,p1,s1⟩:=hR.px;refine(Md l1 _ g.xb r Mx Ae _ p1 s1 (fun h=>h.1 rfl) (fun q hq=>Hz.out q (Lg hn q hq))).mono ?_;intro e w2 he;cases hf:YW l1 with
   | none=>
    rw[hf] at he;obtain⟨⟨fb,rfl,hb⟩,hm⟩:=he;rw[Ck (x:=x) (w:=nm) (r:=ws) (by rw[Oc Hk.out];unfold Kz;rw[hn];simp only[];rw[hf])];exact maY
   | some p=>
    obtain⟨a,l2⟩:=p;rw[hf] at he;have h2:=hJ.vT (v:= .string a) (l1:=l2) P5 (by unfold ky;rw[hf];rfl) (fun E hE=>(hE.Eg he).2);exact maZ
 ·exact maA
 clear J0 S0;intro s w1 hJ;obtain⟨E1,l,l1,b1,b2,b3,R1,hM,P5,WN,e1,e2,e3,m1,m2,m3,UM,bO,Zz⟩:=hJ.done;obtain⟨v1,v2,q1,q2,q3⟩:=s;simp only at P5 WN e1 e2 e3;subst e1;subst e2;subst e3;obtain⟨n,hn,rfl⟩:=KF P5;obtain⟨a,ha,rfl⟩:=KF WN;clear hJ P5 WN;simp only[Ji.Oi,fM,FQ];have n1:w.heap.size≠b1:=R1.ne (hM _ MX) m1 (by intro h;injection h with _ h;exact UV h AC);have n2:w.heap.size≠b2:=R1.ne (hM _ MX) m2 (by intro h;injection h with _ h;exact UV h AC);have mX:=hM _ MX.out;have c1:=R1.cell m1;have f1:=R1.free m1;have t1:=R1.pw m1;refine Ai rfl (fun K hK=> ?_);go_simp;clear c1 f1 t1;obtain⟨E2,R2,m1',k2⟩:=R1.NA m1 0 (.string n);replace mX:=k2 _ mX n1;replace m2:=k2 _ m2 (Ne.symm UM)
 skip
 refine hK _ _ (fun _=>R2.cell mX 0) ?_;clear hK;have c2:=R2.cell m2;have f2:=R2.free m2;have t2:=R2.pw m2;refine Ai rfl (fun K hK=> ?_);go_simp;clear c2 f2 t2;obtain⟨E4,R4,m2',k4⟩:=R2.NA m2 0 (.string a);replace mX:=k4 _ mX n2;replace m1':=k4 _ m1' UM;refine hK _ _ (fun h=>UV rfl h) ?_;clear hK;simp only[BB];generalize (World.setCell (World.setCell w1 ⟨b1,0,none⟩ (.string n)) ⟨b2,0,none⟩ (.string a))=w4 at R4⊢;have R:=hid R4;replace MX:=hid mX;have MA:=hid m1';have MB:=hid m2';have Hn:=hid hn;have Ha:=hid ha;clear R1 R2 R4 hM m1 m1' m2 m2' m3 mX k2 k4 hn ha n1 n2 UM bO Zz R0;obtain⟨Mx,p1,s1⟩:=R.px;have cb:=R.cell MX 0;have fH:=hid (lj mb l _ g.xb r Mx Ae _ p1 s1 (fun h=>h.1 rfl) (fun q hq=>Hz.out q (Lg Hn q (Lg Ha q hq))) (Hg.Bf R.Bf (fun b hb hm=>by rw[Z] at hm;rw[hm] at hb;exact HX.out hb)) HX);clear p1 s1;go_wp2_with fail;refine fH.mono ?_;intro e w5 he;clear cb fH;cases hw:xr l with
 | none=>
  rw[hw] at he;obtain⟨⟨fb,rfl,hb⟩,hm⟩:=he;have hr:=hid (Ck (x:=x) (w:=nm) (r:=ws) (by rw[Oc Hk.out];unfold Kz;rw[Hn.out];simp only[];rw[Ha.out];simp only[];rw[hw]));clear hw;exact mas
 | some p=>
  obtain⟨i,l⟩:=p;rw[hw] at he;obtain⟨rfl,R1⟩:=R.Eg he;obtain⟨E2,R2,m2,more2⟩:=R1.aK (.cells #[.string i.name,i5 i.v] 230);have Kk:i.val= .agg #[.string i.name,i5 i.v]:=rfl;simp only[Kk];clear R;have R:=hid R2;have MI:=hid m2;replace MX:=hid (more2 _ MX);replace MA:=hid (more2 _ MA);replace MB:=hid (more2 _ MB);have Hw:=hid hw;clear hw R1 R2 m2 more2 he Kk;obtain⟨ZX,p2,s2⟩:=R.px;have cb:=R.cell MX 0;have LC:=hid (DU l _ g.xb r ZX Ae _ p2 s2);clear p2 s2;go_wp2_with fail;refine LC.mono ?_;intro e w3 he;clear cb;cases l with
  | cons b l2=>
   obtain⟨⟨fb,rfl,hb⟩,hm⟩:=he;have hr:=hid (Ck (x:=x) (w:=nm) (r:=ws) (by rw[Oc Hk.out];unfold Kz;rw[Hn.out];simp only[];rw[Ha.out];simp only[];rw[Hw.out];rfl));exact mas
  | nil=>
   obtain⟨rfl,R3⟩:=R.Eg he;have Hr:=hid (FM (x:=x) (w:=nm) (r:=ws) (s:= .get n a i) (by rw[Oc Hk.out];unfold Kz;rw[Hn.out];simp only[];rw[Ha.out];simp only[];rw[Hw.out];rfl));rcases H.out with⟨hS,rfl⟩ | ⟨hN,hP⟩;rotate_left
   ·exact mag
   obtain⟨LF,S3,MQ⟩:=R3.GK hS;have Mr:=hid hS.FB.ne;clear hS;obtain⟨wvq,p3,_⟩:=R3.px;have x5:w3.cell? ⟨g.xb,5,none⟩=some (.slice (some ⟨g.ob,0,none⟩) (g.fr.length+1) g.oc):=p3.cell 5;have x1:w3.cell? ⟨g.xb,1,none⟩=some (i5 Ae):=p3.cell 1;have xl:g.xb < w3.heap.size:=p3.lt;have cb:=R3.cell MX 0;have Gu:((g.fr.length:Int)+1==0)=false:=by rw[NE];omega
   have Ke:=hid S3;have Gi:=hid MQ;clear S3 MQ p3 he R3 R LC;have Hin:=hid (OJ _ g x LF Ae Ke.Am Hb.fr);go_wp2_with fail;refine Hin.mono ?_;rintro e w3b ⟨rfl,PE⟩;clear Hin;replace x5:=AU PE x5;replace x1:=AU PE x1;replace cb:=AU PE cb;have um:=PE.size;replace xl:g.xb < w3b.heap.size:=Y
   have Ue:=hid (Gi.trans (Ak.quiet Ke.Am PE));have dX:=hid (Ke.quiet PE);clear Gi Ke PE um;have Gi:=Ue;have Ke:=dX;clear Ue dX;cases Fs:g.fr.any Jk.Au with
   | true=>
    have lU:=hid Fs;clear Fs;have Hp:=hid (Hr.trans (Ip Ke.FB (fun _=>lU.out) (fun h=>by rw[Hk.out] at h;exact UV h AC)));clear Hr lU;go_wp2_with fail;refine(vu n a i _ g x LF Ae _ Ke Hb _ _ _ _ (D _ MX) (D _ MB) (D _ MI) (D _ MA)).mono ?_;intro e w4 he;clear cb x5 x1 xl Gu;unfold OX at he;cases CN:x.finish (.get n a i) with
    | error c=>
     exact mam
    | ok y=>
     exact mab
   | false=>
    have lU:=hid Fs;clear Fs;have hr:=hid (Hr.trans (SJ Ke.FB (by exact .inl ⟨rfl,lU⟩)));go_wp2_with fail;refine(AQ _ _ _).mono ?_;rintro e w5 ⟨⟨fb,rfl,hb⟩,hm⟩;exact mav
theorem zH (nm:ByteArray) (ws:Ws) (mb:Nat) (w:World) (g:FG) (x:qr) (wv:Value) (Ae:Int) (F:List (Nat×Obj)) (r:PV) (h:qu F g x wv Ae w r) (hs:Sl w (fun b=>b≠g.xb) wv (A3 ws)) (hz:∀a,a∈ws->a.size<=1000000) (hg:Gl mb w) (JZ:g.xb∉Td mb) (hb:Xq g) (AD:0<=x.Ah/\x.Ah<=1000) (hk:bs nm=CZ):
  Calls prog 101 #[i6 g.xb,.string nm] w (Qa (x.AL nm ws) F g x wv Ae w):=by
 have H:=hid h;have Hz:=hid hz;have Hg:=hid hg;have Hb:=hid hb;have Hk:=hid hk;have HX:=hid JZ;have oF:∀(fn:Fn) (first cap:Array Value) (w:World),(Instr.makeFunc fn first cap).run prog w= .ok (.func fn first cap) w:=fun _ _ _ _=>rfl
 have R0:=hid ((Rd.start (r:=r) h.px hs).Uy (.cells #[i6 g.xb] 143));have AX:=BA h.px;obtain⟨bx,JK⟩:∃b,b=w.heap.size:=⟨_,rfl⟩;have Hbx:=hid JK;have q0:=An (x:=nm) (k:=CY) (by rw[hk];decide);unfold CY at q0;have q1:=An (x:=nm) (k:=CF) (by rw[hk];decide);unfold CF at q1;have q2:=BO hk;unfold CZ at q2;have qa:=An (x:=nm) (k:=AH) (by rw[hk];decide);unfold AH at qa;clear h hs hz hg JZ hb hk JK;go_enter func101,ntmps101;have SZ:Hid ((w.heap.size,Obj.cells #[i6 g.xb] 143 (0,0))∈[(w.heap.size,Obj.cells #[i6 g.xb] 143 (0,0))]):=hid (J ..);obtain⟨E,hE⟩:∃E,E=[(w.heap.size,Obj.cells #[i6 g.xb] 143 (0,0))]:=⟨_,rfl⟩;rw[<-hE] at SZ R0;clear hE;have MX:=SZ;clear SZ;go_upto_region 20 with fail
 have S0:=R0.quiet (Av.refl [] _).drew;refine My [0,2] [1,3] [4,5] [(6,false),(7,false)] (fun W=>W.cell? ⟨w.heap.size,0,none⟩=some (i6 g.xb)) 7 (S0.cell MX 0) ?_;refine Kf (v:= ?_) rfl rfl rfl (fun W hW=> ?_) ?_;rotate_left
 ·go_simp;rfl
 simp only[FQ];refine Kf (v:= ?_) rfl rfl rfl (fun W hW=> ?_) ?_;rotate_left
 ·go_simp;rfl
 simp only[FQ];simp only[TB];have J0:QQ w g.xb r Ae ky TC ws 1 3 4 5 99 (Obj.cells #[.string ⟨#[]⟩] 9 (0,0)) (Obj.cells #[.string ⟨#[]⟩,i5 0] 230 (0,0)) (Obj.cells #[i6 g.xb] 143 (0,0)) [4,5] E [1,3] [4,5] ⟨undef,undef,none,none,some w.heap.size⟩ _:=⟨⟨E,ws,S0,fun _ h=>h,.inl ⟨rfl,rfl⟩,.inl ⟨AC,rfl⟩,.inl ⟨AC,rfl⟩,.inr ⟨AC,_,rfl,MX⟩⟩,AC,fun _ h=>h,EQ,EQ,EQ⟩;refine Sx (Ji.Oi 58 60 13 14) (QQ w g.xb r Ae ky TC ws 1 3 4 5 99 (Obj.cells #[.string ⟨#[]⟩] 9 (0,0)) (Obj.cells #[.string ⟨#[]⟩,i5 0] 230 (0,0)) (Obj.cells #[i6 g.xb] 143 (0,0)) [4,5] E) ?_ ?_ ?_ rfl _ (by simp only[Ji.Oi,fM,FQ]) J0
 ·clear J0 S0;intro c cs al s w1 hJ;rcases hJ.qO with⟨rfl,rfl⟩ | ⟨rfl,rfl⟩
  ·refine Eb rfl (fun K hK=> ?_);simp only[Ji.Oi,FQ];go_simp;obtain⟨E1,hR⟩:=hJ.at1;obtain⟨Mx,p1,s1⟩:=hR.px;refine(Md ws _ g.xb r Mx Ae _ p1 s1 (fun h=>h.1 rfl) Hz).mono ?_;intro e w2 he;cases hf:YW ws with
   | none=>
    rw[hf] at he;obtain⟨⟨fb,rfl,hb⟩,hm⟩:=he;rw[Ck (x:=x) (w:=nm) (r:=ws) (by rw[Oa Hk.out];unfold Kx;rw[hf])];exact maY
   | some p=>
    obtain⟨n,l1⟩:=p;rw[hf] at he;have h2:=hJ.vU (v:= .string n) (l1:=l1) (by unfold ky;rw[hf];rfl) (fun E hE=>(hE.Eg he).2);exact maZ
  ·refine Eb rfl (fun K hK=> ?_);simp only[Ji.Oi,FQ];go_simp;obtain⟨E1,l1,hR,P5⟩:=hJ.at2;obtain⟨n,hn,hv⟩:=KF P5;obtain⟨Mx,p1,s1⟩:=hR.px;refine(Jd mb l1 _ g.xb r Mx Ae _ p1 s1 (fun h=>h.1 rfl) (fun q hq=>Hz.out q (Lg hn q hq)) (Hg.Bf hR.Bf (fun b hb hm=>by rw[Z] at hm;rw[hm] at hb;exact HX.out hb)) HX).mono ?_;intro e w2 he;cases hf:Ff l1 with
   | none=>
    rw[hf] at he;obtain⟨⟨fb,rfl,hb⟩,hm⟩:=he;rw[Ck (x:=x) (w:=nm) (r:=ws) (by rw[Oa Hk.out];unfold Kx;rw[hn];simp only[];rw[hf])];exact maY
   | some p=>
    obtain⟨a,l2⟩:=p;rw[hf] at he;have h2:=hJ.vT (v:=a.val) (l1:=l2) P5 (by unfold TC;rw[hf];rfl) (fun E hE=>(hE.Eg he).2);exact maZ
 ·exact maA
 clear J0 S0;intro s w1 hJ;obtain⟨E1,l,l1,b1,b2,b3,R1,hM,P5,WN,e1,e2,e3,m1,m2,m3,UM,bO,Zz⟩:=hJ.done;obtain⟨v1,v2,q1,q2,q3⟩:=s;simp only at P5 WN e1 e2 e3;subst e1;subst e2;subst e3;obtain⟨n,hn,rfl⟩:=KF P5;obtain⟨a,ha,rfl⟩:=Vu WN;clear hJ P5 WN;simp only[Ji.Oi,fM,FQ];have n1:w.heap.size≠b1:=R1.ne (hM _ MX) m1 (by intro h;injection h with _ h;exact UV h AC);have n2:w.heap.size≠b2:=R1.ne (hM _ MX) m2 (by intro h;injection h with _ h;exact UV h AC);have Kk:a.val= .agg #[.string a.name,i5 a.v]:=rfl;simp only[Kk];clear Kk;have mX:=hM _ MX.out;have c1:=R1.cell m1;have f1:=R1.free m1;have t1:=R1.pw m1;refine Ai rfl (fun K hK=> ?_);go_simp;clear c1 f1 t1;obtain⟨E2,R2,m1',k2⟩:=R1.NA m1 0 (.string n);replace mX:=k2 _ mX n1;replace m2:=k2 _ m2 (Ne.symm UM)
 skip
 refine hK _ _ (fun _=>R2.cell mX 0) ?_;clear hK;have c2:=R2.cell m2;have f2:=R2.free m2;have t2:=R2.pw m2;refine Ai rfl (fun K hK=> ?_);go_simp;clear c2 f2 t2;obtain⟨E3,R3,m2',k3⟩:=R2.NA m2 0 (.string a.name);obtain⟨E4,R4,m2'',k4⟩:=R3.NA m2' 1 (i5 a.v);replace mX:=k4 _ (k3 _ mX n2) n2;replace m1':=k4 _ (k3 _ m1' UM) UM;refine hK _ _ (fun h=>UV rfl h) ?_;clear hK;simp only[BB];generalize (World.setCell (World.setCell (World.setCell w1 ⟨b1,0,none⟩ (.string n)) ⟨b2,0,none⟩ (.string a.name)) ⟨b2,1,none⟩ (i5 a.v))=w4 at R4⊢;have R:=hid R4;replace MX:=hid mX;have MA:=hid m1';have MB:=hid m2'';have Hn:=hid hn;have Ha:=hid ha;clear R1 R2 R3 R4 k3 m2' hM m1 m1' m2 m2'' m3 mX k2 k4 hn ha n1 n2 UM bO Zz R0;obtain⟨Mx,p1,s1⟩:=R.px;have cb:=R.cell MX 0;have fH:=hid (lj mb l _ g.xb r Mx Ae _ p1 s1 (fun h=>h.1 rfl) (fun q hq=>Hz.out q (Lg Hn q (Yl Ha q hq))) (Hg.Bf R.Bf (fun b hb hm=>by rw[Z] at hm;rw[hm] at hb;exact HX.out hb)) HX);clear p1 s1;go_wp2_with fail;refine fH.mono ?_;intro e w5 he;clear cb fH;cases hw:xr l with
 | none=>
  rw[hw] at he;obtain⟨⟨fb,rfl,hb⟩,hm⟩:=he;have hr:=hid (Ck (x:=x) (w:=nm) (r:=ws) (by rw[Oa Hk.out];unfold Kx;rw[Hn.out];simp only[];rw[Ha.out];simp only[];rw[hw]));clear hw;exact mas
 | some p=>
  obtain⟨i,l⟩:=p;rw[hw] at he;obtain⟨rfl,R1⟩:=R.Eg he;obtain⟨E2,R2,m2,more2⟩:=R1.aK (.cells #[.string i.name,i5 i.v] 230);have Kk:i.val= .agg #[.string i.name,i5 i.v]:=rfl;simp only[Kk];clear R;have R:=hid R2;have MI:=hid m2;replace MX:=hid (more2 _ MX);replace MA:=hid (more2 _ MA);replace MB:=hid (more2 _ MB);have Hw:=hid hw;clear hw R1 R2 m2 more2 he Kk;obtain⟨ZX,p2,s2⟩:=R.px;have cb:=R.cell MX 0;have LC:=hid (DU l _ g.xb r ZX Ae _ p2 s2);clear p2 s2;go_wp2_with fail;refine LC.mono ?_;intro e w3 he;clear cb;cases l with
  | cons b l2=>
   obtain⟨⟨fb,rfl,hb⟩,hm⟩:=he;have hr:=hid (Ck (x:=x) (w:=nm) (r:=ws) (by rw[Oa Hk.out];unfold Kx;rw[Hn.out];simp only[];rw[Ha.out];simp only[];rw[Hw.out];rfl));exact mas
  | nil=>
   obtain⟨rfl,R3⟩:=R.Eg he;have Hr:=hid (FM (x:=x) (w:=nm) (r:=ws) (s:= .put n a i) (by rw[Oa Hk.out];unfold Kx;rw[Hn.out];simp only[];rw[Ha.out];simp only[];rw[Hw.out];rfl));rcases H.out with⟨hS,rfl⟩ | ⟨hN,hP⟩;rotate_left
   ·exact mag
   obtain⟨LF,S3,MQ⟩:=R3.GK hS;have Mr:=hid hS.FB.ne;clear hS;obtain⟨wvq,p3,_⟩:=R3.px;have x5:w3.cell? ⟨g.xb,5,none⟩=some (.slice (some ⟨g.ob,0,none⟩) (g.fr.length+1) g.oc):=p3.cell 5;have x1:w3.cell? ⟨g.xb,1,none⟩=some (i5 Ae):=p3.cell 1;have xl:g.xb < w3.heap.size:=p3.lt;have cb:=R3.cell MX 0;have Gu:((g.fr.length:Int)+1==0)=false:=by rw[NE];omega
   have Ke:=hid S3;have Gi:=hid MQ;clear S3 MQ p3 he R3 R LC;have Hin:=hid (OJ _ g x LF Ae Ke.Am Hb.fr);go_wp2_with fail;refine Hin.mono ?_;rintro e w3b ⟨rfl,PE⟩;clear Hin;replace x5:=AU PE x5;replace x1:=AU PE x1;replace cb:=AU PE cb;have um:=PE.size;replace xl:g.xb < w3b.heap.size:=Y
   have Ue:=hid (Gi.trans (Ak.quiet Ke.Am PE));have dX:=hid (Ke.quiet PE);clear Gi Ke PE um;have Gi:=Ue;have Ke:=dX;clear Ue dX;cases Fs:g.fr.any Jk.Au with
   | true=>
    have lU:=hid Fs;clear Fs;have Hp:=hid (Hr.trans (Ip Ke.FB (fun _=>lU.out) (fun h=>by rw[Hk.out] at h;exact UV h AC)));clear Hr lU;go_wp2_with fail;refine(vk n a i _ g x LF Ae _ Ke Hb _ _ _ _ (D _ MX) (D _ MA) (D _ MI) (D _ MB)).mono ?_;intro e w4 he;clear cb x5 x1 xl Gu;unfold OX at he;cases CN:x.finish (.put n a i) with
    | error c=>
     exact mam
    | ok y=>
     exact mab
   | false=>
    have lU:=hid Fs;clear Fs;have hr:=hid (Hr.trans (SJ Ke.FB (by exact .inl ⟨rfl,lU⟩)));go_wp2_with fail;refine(AQ _ _ _).mono ?_;rintro e w5 ⟨⟨fb,rfl,hb⟩,hm⟩;exact mav
theorem zG (nm:ByteArray) (ws:Ws) (mb:Nat) (w:World) (g:FG) (x:qr) (wv:Value) (Ae:Int) (F:List (Nat×Obj)) (r:PV) (h:qu F g x wv Ae w r) (hs:Sl w (fun b=>b≠g.xb) wv (A3 ws)) (hz:∀a,a∈ws->a.size<=1000000) (hg:Gl mb w) (JZ:g.xb∉Td mb) (hb:Xq g) (AD:0<=x.Ah/\x.Ah<=1000) (hk:bs nm=CY):
  Calls prog 101 #[i6 g.xb,.string nm] w (Qa (x.AL nm ws) F g x wv Ae w):=by
 have H:=hid h;have Hz:=hid hz;have Hg:=hid hg;have Hb:=hid hb;have Hk:=hid hk;have HX:=hid JZ;have oF:∀(fn:Fn) (first cap:Array Value) (w:World),(Instr.makeFunc fn first cap).run prog w= .ok (.func fn first cap) w:=fun _ _ _ _=>rfl
 have R0:=hid ((Rd.start (r:=r) h.px hs).Uy (.cells #[i6 g.xb] 143));have AX:=BA h.px;obtain⟨bx,JK⟩:∃b,b=w.heap.size:=⟨_,rfl⟩;have Hbx:=hid JK;have q0:=BO hk;unfold CY at q0;have qa:=An (x:=nm) (k:=AH) (by rw[hk];decide);unfold AH at qa;clear h hs hz hg JZ hb hk JK;go_enter func101,ntmps101;have SZ:Hid ((w.heap.size,Obj.cells #[i6 g.xb] 143 (0,0))∈[(w.heap.size,Obj.cells #[i6 g.xb] 143 (0,0))]):=hid (J ..);obtain⟨E,hE⟩:∃E,E=[(w.heap.size,Obj.cells #[i6 g.xb] 143 (0,0))]:=⟨_,rfl⟩;rw[<-hE] at SZ R0;clear hE;have MX:=SZ;clear SZ;go_upto_region 6 with fail
 have S0:=R0.quiet (Av.refl [] _).drew;refine My [0,2] [1,3] [4,5,6] [(7,false),(8,false),(9,false)] (fun W=>W.cell? ⟨w.heap.size,0,none⟩=some (i6 g.xb)) 9 (S0.cell MX 0) ?_;refine Kf (v:= ?_) rfl rfl rfl (fun W hW=> ?_) ?_;rotate_left
 ·go_simp;rfl
 simp only[FQ];refine Kf (v:= ?_) rfl rfl rfl (fun W hW=> ?_) ?_;rotate_left
 ·go_simp;rfl
 simp only[FQ];simp only[TB];have J0:QQ w g.xb r Ae ky TC ws 1 3 4 5 6 (Obj.cells #[.string ⟨#[]⟩] 9 (0,0)) (Obj.cells #[.string ⟨#[]⟩,i5 0] 230 (0,0)) (Obj.cells #[.string ⟨#[]⟩] 9 (0,0)) [4,5,6] E [1,3] [4,5,6] ⟨undef,undef,none,none,none⟩ _:=⟨⟨E,ws,S0,fun _ h=>h,.inl ⟨rfl,rfl⟩,.inl ⟨AC,rfl⟩,.inl ⟨AC,rfl⟩,.inl ⟨AC,rfl⟩⟩,AC,fun _ h=>h,EQ,EQ,EQ⟩;refine Sx (Ji.ny 25 27 6 7 8) (QQ w g.xb r Ae ky TC ws 1 3 4 5 6 (Obj.cells #[.string ⟨#[]⟩] 9 (0,0)) (Obj.cells #[.string ⟨#[]⟩,i5 0] 230 (0,0)) (Obj.cells #[.string ⟨#[]⟩] 9 (0,0)) [4,5,6] E) ?_ ?_ ?_ rfl _ (by simp only[Ji.ny,Ji.Oi,fM,FQ]) J0
 ·clear J0 S0;intro c cs al s w1 hJ;rcases hJ.qO with⟨rfl,rfl⟩ | ⟨rfl,rfl⟩
  ·refine Eb rfl (fun K hK=> ?_);simp only[Ji.ny,Ji.Oi,FQ];go_simp;obtain⟨E1,hR⟩:=hJ.at1;obtain⟨Mx,p1,s1⟩:=hR.px;refine(Md ws _ g.xb r Mx Ae _ p1 s1 (fun h=>h.1 rfl) Hz).mono ?_;intro e w2 he;cases hf:YW ws with
   | none=>
    rw[hf] at he;obtain⟨⟨fb,rfl,hb⟩,hm⟩:=he;rw[Ck (x:=x) (w:=nm) (r:=ws) (by rw[Ky Hk.out];unfold I6;rw[hf])];exact maY
   | some p=>
    obtain⟨n,l1⟩:=p;rw[hf] at he;have h2:=hJ.vU (v:= .string n) (l1:=l1) (by unfold ky;rw[hf];rfl) (fun E hE=>(hE.Eg he).2);exact mcc
  ·refine Eb rfl (fun K hK=> ?_);simp only[Ji.ny,Ji.Oi,FQ];go_simp;obtain⟨E1,l1,hR,P5⟩:=hJ.at2;obtain⟨n,hn,hv⟩:=KF P5;obtain⟨Mx,p1,s1⟩:=hR.px;refine(Jd mb l1 _ g.xb r Mx Ae _ p1 s1 (fun h=>h.1 rfl) (fun q hq=>Hz.out q (Lg hn q hq)) (Hg.Bf hR.Bf (fun b hb hm=>by rw[Z] at hm;rw[hm] at hb;exact HX.out hb)) HX).mono ?_;intro e w2 he;cases hf:Ff l1 with
   | none=>
    rw[hf] at he;obtain⟨⟨fb,rfl,hb⟩,hm⟩:=he;rw[Ck (x:=x) (w:=nm) (r:=ws) (by rw[Ky Hk.out];unfold I6;rw[hn];simp only[];rw[hf])];exact maY
   | some p=>
    obtain⟨a,l2⟩:=p;rw[hf] at he;have h2:=hJ.vT (v:=a.val) (l1:=l2) P5 (by unfold TC;rw[hf];rfl) (fun E hE=>(hE.Eg he).2);exact mcc
 ·clear J0 S0;intro cs al i s w1 hi hJ;have RV:=hJ.sub i hi;simp only[Pi,Qcb,or_false] at RV;rcases RV with rfl | rfl | rfl
  ·refine Eb rfl (fun K hK=> ?_);simp only[Ji.ny,Ji.Oi,FQ];go_simp;have h2:=hJ.a1 AC;exact mbE
  ·refine Eb rfl (fun K hK=> ?_);simp only[Ji.ny,Ji.Oi,FQ];go_simp;have h2:=hJ.a2 AC;exact mbE
  ·refine Eb rfl (fun K hK=> ?_);simp only[Ji.ny,Ji.Oi,FQ];go_simp;have h2:=hJ.a3 AC;exact mbE
 clear J0 S0;intro s w1 hJ;obtain⟨E1,l,l1,b1,b2,b3,R1,hM,P5,WN,e1,e2,e3,m1,m2,m3,UM,bO,Zz⟩:=hJ.done;obtain⟨v1,v2,q1,q2,q3⟩:=s;simp only at P5 WN e1 e2 e3;subst e1;subst e2;subst e3;obtain⟨n,hn,rfl⟩:=KF P5;obtain⟨a,ha,rfl⟩:=Vu WN;clear hJ P5 WN;simp only[Ji.ny,Ji.Oi,fM,FQ];have n1:w.heap.size≠b1:=R1.ne (hM _ MX) m1 (by intro h;injection h with _ h;exact UV h AC);have n2:w.heap.size≠b2:=R1.ne (hM _ MX) m2 (by intro h;injection h with _ h;exact UV h AC);have n3:w.heap.size≠b3:=R1.ne (hM _ MX) m3 (by intro h;injection h with _ h;exact UV h AC);have Kk:a.val= .agg #[.string a.name,i5 a.v]:=rfl;simp only[Kk];clear Kk;have mX:=hM _ MX.out;have c1:=R1.cell m1;have f1:=R1.free m1;have t1:=R1.pw m1;refine Ai rfl (fun K hK=> ?_);go_simp;clear c1 f1 t1;obtain⟨E2,R2,m1',k2⟩:=R1.NA m1 0 (.string n);replace mX:=k2 _ mX n1;replace m2:=k2 _ m2 (Ne.symm UM);replace m3:=k2 _ m3 (Ne.symm bO);refine hK _ _ (fun _=>R2.cell mX 0) ?_;clear hK;have c2:=R2.cell m2;have f2:=R2.free m2;have t2:=R2.pw m2;refine Ai rfl (fun K hK=> ?_);go_simp;clear c2 f2 t2;obtain⟨E3,R3,m2',k3⟩:=R2.NA m2 0 (.string a.name);obtain⟨E4,R4,m2'',k4⟩:=R3.NA m2' 1 (i5 a.v);replace mX:=k4 _ (k3 _ mX n2) n2;replace m1':=k4 _ (k3 _ m1' UM) UM;replace m3:=k4 _ (k3 _ m3 (Ne.symm Zz)) (Ne.symm Zz);refine hK _ _ (fun _=>R4.cell mX 0) ?_;clear hK;have c3:=R4.cell m3;have f3:=R4.free m3;have t3:=R4.pw m3;refine Ai rfl (fun K hK=> ?_);go_simp;clear c3 f3 t3;obtain⟨E5,R5,m3',k5⟩:=R4.NA m3 0 (.string ⟨#[]⟩);replace mX:=k5 _ mX n3;replace m1':=k5 _ m1' bO;replace m2'':=k5 _ m2'' Zz;refine hK _ _ (fun h=>UV rfl h) ?_;clear hK;simp only[BB];generalize (World.setCell (World.setCell (World.setCell (World.setCell w1 ⟨b1,0,none⟩ (.string n)) ⟨b2,0,none⟩ (.string a.name)) ⟨b2,1,none⟩ (i5 a.v)) ⟨b3,0,none⟩ (.string ⟨#[]⟩))=w4 at R5⊢;have R:=hid R5;replace MX:=hid mX;have MA:=hid m1';have MB:=hid m2'';have Hn:=hid hn;have Ha:=hid ha;have MO:=hid m3';have D12:=hid UM;have D13:=hid bO;have D23:=hid Zz;have N3:=hid n3;clear R1 R2 R3 R4 R5 k3 k5 m2' m3' n3 hM m1 m1' m2 m2'' m3 mX k2 k4 hn ha n1 n2 UM bO Zz R0;cases l with
 | nil=>
  obtain⟨Mx,p1,s1⟩:=R.px;obtain⟨sp,sc,rfl,_,_⟩:=s1.KO;have x0:w4.cell? ⟨g.xb,0,none⟩=some (.slice sp 0 sc):=p1.cell 0;have xl0:g.xb < w4.heap.size:=p1.lt;have cb0:=R.cell MX 0;have cl0:=R.pw MX.out;obtain⟨E6,R6,mC,more6⟩:=R.aK (.cells #[.string ⟨#[]⟩,i5 0] 230);replace R:=hid R6;have MC:=hid mC;replace MX:=hid (more6 _ MX);replace MA:=hid (more6 _ MA);replace MB:=hid (more6 _ MB);replace MO:=hid (more6 _ MO);clear p1 s1 R6 mC more6;obtain⟨ZX,p2,s2⟩:=R.px;have cb:=R.cell MX 0;have LC:=hid (DU [] _ g.xb r ZX Ae _ p2 s2);clear p2 s2;go_wp2_with fail;refine LC.mono ?_;intro e w3 he;clear cb x0 xl0 cb0 cl0;obtain⟨rfl,R3⟩:=R.Eg he;have Hr:=hid (FM (x:=x) (w:=nm) (r:=ws) (s:= .set n a ⟨#[]⟩ .zero) (by rw[Ky Hk.out];unfold I6;rw[Hn.out];simp only[];rw[Ha.out]));rcases H.out with⟨hS,rfl⟩ | ⟨hN,hP⟩;rotate_left
  ·exact mag
  obtain⟨LF,S3,MQ⟩:=R3.GK hS;have Mr:=hid hS.FB.ne;clear hS;obtain⟨wvq,p3,_⟩:=R3.px;have x5:w3.cell? ⟨g.xb,5,none⟩=some (.slice (some ⟨g.ob,0,none⟩) (g.fr.length+1) g.oc):=p3.cell 5;have x1:w3.cell? ⟨g.xb,1,none⟩=some (i5 Ae):=p3.cell 1;have xl:g.xb < w3.heap.size:=p3.lt;have cb:=R3.cell MX 0;have Gu:((g.fr.length:Int)+1==0)=false:=by rw[NE];omega
  have Ke:=hid S3;have Gi:=hid MQ;clear S3 MQ p3 he R3 R LC;have Hp:=hid (Hr.trans (Ip Ke.FB (fun h=>by cases h) (fun h=>by rw[Hk.out] at h;exact UV h AC)));clear Hr;go_wp2_with fail;refine(eK n ⟨#[]⟩ a .zero _ g x LF Ae _ Ke Hb _ _ _ _ _ (D _ MO) (D _ MX) (D _ MB) (D _ MC) (D _ MA)).mono ?_;intro e w4 he;clear cb x5 x1 xl Gu;unfold OX at he;cases CN:x.finish (.set n a ⟨#[]⟩ .zero) with
  | error c=>
   exact mam
  | ok y=>
   exact mab
 | cons o l=>
  obtain⟨Mx,p1,s1⟩:=R.px;obtain⟨sp,sc,rfl,_,_⟩:=s1.KO;have x0:w4.cell? ⟨g.xb,0,none⟩=some (.slice sp (l.length+1) sc):=(p1.cell 0).trans (by simp[PV.cells,A3]);have xl0:g.xb < w4.heap.size:=p1.lt;have cb0:=R.cell MX 0;have cl0:=R.pw MX.out;have Mu:(0:Int) < (l.length:Int)+1:=Y
  have KL:0 < l.length+1:=Y
  obtain⟨bc,zu⟩:∃b,b=w4.heap.size:=⟨_,rfl⟩;have ne4:∀q:Nat×Obj,q∈_->q.1≠bc:=fun q hq e=>by
   have:=R.pw hq;rw[e,zu] at this;exact Qdy _ this
  have HX1:=hid (ne4 _ MX);have HA1:=hid (ne4 _ MA);have Ps:=hid (ne4 _ MB);have QW:=hid (ne4 _ MO);clear ne4;obtain⟨E6,R6,mC,more6⟩:=R.aK (.cells #[.string ⟨#[]⟩,i5 0] 230);rw[<-zu] at mC;have HBW:=hid zu;have HR6:=hid R6;have MC:=hid mC;replace MX:=hid (more6 _ MX);replace MA:=hid (more6 _ MA);replace MB:=hid (more6 _ MB);replace MO:=hid (more6 _ MO);clear p1 s1 R6 mC more6 R zu;go_upto_region 9 with fail
  clear x0 xl0 cb0 cl0 Mu KL;rw[<-HBW.out];have S6:=HR6.quiet (Av.refl [] _).drew;have G6:=(Hg.Bf S6.Bf (fun b hb hm=>by rw[Z] at hm;rw[hm] at hb;exact HX.out hb));obtain⟨om,hom,IU⟩:=G6.opm;refine Ap (l:=[(0,true),(1,true),(2,false),(3,true),(4,false)]) (fun W=>W.cell? ⟨1,0,none⟩=some (.map (some mb))/\W.cell? ⟨w.heap.size,0,none⟩=some (i6 g.xb)/\W.heap[mb]?=some om) 4 ⟨G6.Bh,S6.cell MX 0,hom⟩ ?_;refine detE ?_;intro K hK;obtain⟨wv6,p6,s6⟩:=S6.px;refine(Je (o::l) _ g.xb r wv6 Ae _ p6 s6 (fun h=>h.1 rfl)).mono ?_;intro e w5 he;obtain⟨rfl,wv7,h71,h72,h73⟩:=he;obtain⟨_,R7⟩:=S6.Eg (v:= .string o) (l':=l) ⟨rfl,wv7,h71,h72,h73⟩;have G7:=(Hg.Bf R7.Bf (fun b hb hm=>by rw[Z] at hm;rw[hm] at hb;exact HX.out hb));have PE:mb∉[g.xb]:=fun h=>by rw[Z] at h;exact HX.out (h▸by simp[Td])
  refine hK _ w5 (fun _=>⟨G7.Bh,R7.cell MX 0,h73.heap hom PE⟩) ?_;clear hK;repeat
   refine I0 (v:= ?_) rfl rfl rfl (fun W hW=> ?_) ?_;rotate_left
   ·obtain⟨s1,s2,s3⟩:=hW;have hl:=IU W s3 o;go_simp;rfl
   simp only[FQ]
  have c3:=R7.cell MO.out;have f3:=R7.free MO.out;have t3:=R7.pw MO.out;refine Ai rfl (fun K hK=> ?_);go_simp;refine hK _ _ (fun h=>UV rfl h) ?_;clear hK c3 f3 t3;simp only[BB];obtain⟨E8,R8,mO,k8⟩:=R7.NA MO 0 (.string ((kv o).getD ⟨#[]⟩));have AfM:b1≠b3:=D13.out;replace MX:=hid (k8 _ MX N3);replace MA:=hid (k8 _ MA D13);replace MB:=hid (k8 _ MB D23);replace MC:=hid (k8 _ MC (Ne.symm QW));generalize World.setCell w5 ⟨b3,0,none⟩ (.string ((kv o).getD ⟨#[]⟩))=w6 at R8⊢;replace MO:=hid mO;have R:=hid R8;clear R8 mO k8 R7 h71 h72 h73 hom IU G7 G6 S6 HR6 p6 s6 AfM PE;have c8:=R.cell MO.out;have cb:=R.cell MX 0;cases Kj:kv o with
  | none=>
   rw[Kj] at c8;have hr:=hid (Ck (x:=x) (w:=nm) (r:=ws) (by rw[Ky Hk.out];unfold I6;rw[Hn.out];simp only[];rw[Ha.out];simp only[];rw[Kj]));clear Kj;obtain⟨Mx,p1,s1⟩:=R.px;have Hnn:=hid (Fi _ g.xb r _ Ae p1);clear p1 s1;simp only[Qcm] at c8;go_wp2_with fail;refine Hnn.mono ?_;rintro e w7 ⟨⟨fb,rfl,hb⟩,hm⟩;go_wp2;rw[hr.out];exact⟨rfl,A7 ⟨⟨fb,rfl,hb⟩,R.Bf.Ad hm⟩⟩
  | some op=>
   rw[Kj] at c8 MO;have AbT:=Wt (qP op (sj Kj));have Afj:¬op.toList=[]:=fun h=>by rw[h] at AbT;cases AbT
   have Hop:=hid Kj;clear Kj;simp only[Qbp] at c8 MO;obtain⟨Mx,p1,s1⟩:=R.px;have fH:=hid (Jd mb l _ g.xb r Mx Ae _ p1 s1 (fun h=>h.1 rfl) (fun q hq=>Hz.out q (Lg Hn q (Yl Ha q (U _ hq)))) (Hg.Bf R.Bf (fun b hb hm=>by rw[Z] at hm;rw[hm] at hb;exact HX.out hb)) HX);clear p1 s1;go_wp2_with fail;refine fH.mono ?_;intro e w7 he;clear cb fH c8 Afj AbT;cases hw:Ff l with
   | none=>
    rw[hw] at he;obtain⟨⟨fb,rfl,hb⟩,hm⟩:=he;have hr:=hid (Ck (x:=x) (w:=nm) (r:=ws) (by rw[Ky Hk.out];unfold I6;rw[Hn.out];simp only[];rw[Ha.out];simp only[];rw[Hop.out];simp only[];rw[hw]));clear hw;exact mas
   | some p=>
    obtain⟨c,l⟩:=p;rw[hw] at he;obtain⟨rfl,R1⟩:=R.Eg he;have Kk:c.val= .agg #[.string c.name,i5 c.v]:=rfl;simp only[Kk];have c9:=R1.cell MC.out;have f9:=R1.free MC.out;have t9:=R1.pw MC.out;have cb9:=R1.cell MX 0;obtain⟨E9,R9,mC,k9⟩:=R1.NA MC 0 (.string c.name);obtain⟨Ea,Ra,mCa,ka⟩:=R9.NA mC 1 (i5 c.v);have hx9:w.heap.size≠bc:=HX1.out;replace MX:=hid (ka _ (k9 _ MX HX1) HX1);replace MA:=hid (ka _ (k9 _ MA HA1) HA1);replace MB:=hid (ka _ (k9 _ MB Ps) Ps);replace MO:=hid (ka _ (k9 _ MO QW) QW);replace MC:=hid mCa;have Hw:=hid hw;clear R;have R:=hid Ra;clear R1 R9 mC k9 Ra mCa ka hw he Kk;obtain⟨ZX,p2,s2⟩:=R.px;have cb:=R.cell MX 0;have LC:=hid (DU l _ g.xb r ZX Ae _ p2 s2);clear p2 s2;go_wp2_with fail;refine LC.mono ?_;intro e w3 he;clear cb c9 f9 t9 cb9 hx9;cases l with
    | cons b l2=>
     obtain⟨⟨fb,rfl,hb⟩,hm⟩:=he;have hr:=hid (Ck (x:=x) (w:=nm) (r:=ws) (by rw[Ky Hk.out];unfold I6;rw[Hn.out];simp only[];rw[Ha.out];simp only[];rw[Hop.out];simp only[];rw[Hw.out];rfl));exact mas
    | nil=>
     obtain⟨rfl,R3⟩:=R.Eg he;have Hr:=hid (FM (x:=x) (w:=nm) (r:=ws) (s:= .set n a op c) (by rw[Ky Hk.out];unfold I6;rw[Hn.out];simp only[];rw[Ha.out];simp only[];rw[Hop.out];simp only[];rw[Hw.out];rfl));rcases H.out with⟨hS,rfl⟩ | ⟨hN,hP⟩;rotate_left
     ·exact mag
     obtain⟨LF,S3,MQ⟩:=R3.GK hS;have Mr:=hid hS.FB.ne;clear hS;obtain⟨wvq,p3,_⟩:=R3.px;have x5:w3.cell? ⟨g.xb,5,none⟩=some (.slice (some ⟨g.ob,0,none⟩) (g.fr.length+1) g.oc):=p3.cell 5;have x1:w3.cell? ⟨g.xb,1,none⟩=some (i5 Ae):=p3.cell 1;have xl:g.xb < w3.heap.size:=p3.lt;have cb:=R3.cell MX 0;have Gu:((g.fr.length:Int)+1==0)=false:=by rw[NE];omega
     have Ke:=hid S3;have Gi:=hid MQ;clear S3 MQ p3 he R3 R LC;have Hp:=hid (Hr.trans (Ip Ke.FB (fun h=>by cases h) (fun h=>by rw[Hk.out] at h;exact UV h AC)));clear Hr;go_wp2_with fail;refine(eK n op a c _ g x LF Ae _ Ke Hb _ _ _ _ _ (D _ MO) (D _ MX) (D _ MB) (D _ MC) (D _ MA)).mono ?_;intro e w4 he;clear cb x5 x1 xl Gu;unfold OX at he;cases CN:x.finish (.set n a op c) with
     | error c=>
      exact mam
     | ok y=>
      exact mab
theorem Acj (nm:ByteArray) (ws:Ws) (mb:Nat) (w:World) (g:FG) (x:qr) (wv:Value) (Ae:Int) (F:List (Nat×Obj)) (r:PV) (h:qu F g x wv Ae w r) (hs:Sl w (fun b=>b≠g.xb) wv (A3 ws)) (hz:∀a,a∈ws->a.size<=1000000) (hg:Gl mb w) (JZ:g.xb∉Td mb) (hb:Xq g) (AD:0<=x.Ah/\x.Ah<=1000) (h0:¬bs nm=CY) (h1:¬bs nm=CF) (h2:¬bs nm=CZ) (h3:¬bs nm=DI) (h4:¬bs nm=AH) (h5:¬bs nm=Kb) (h6:¬bs nm=Dp):
  Calls prog 101 #[i6 g.xb,.string nm] w (Qa (x.AL nm ws) F g x wv Ae w):=by
 have q0:=An (x:=nm) (k:=CY) h0;unfold CY at q0;have q1:=An (x:=nm) (k:=CF) h1;unfold CF at q1;have q2:=An (x:=nm) (k:=CZ) h2;unfold CZ at q2;have q3:=An (x:=nm) (k:=DI) h3;unfold DI at q3;have q4:=An (x:=nm) (k:=AH) h4;unfold AH at q4;have q5:=An (x:=nm) (k:=Kb) h5;unfold Kb at q5;have q6:=An (x:=nm) (k:=Dp) h6;unfold Dp at q6;have hr:=hid (Ck (x:=x) (w:=nm) (r:=ws) (by unfold IA;rw[I h0,I h1,I h2,I h3,I h4,I h5,I h6]));have R0:=hid ((Rd.start (r:=r) h.px hs).Uy (.cells #[i6 g.xb] 143));obtain⟨Mx,p1,_⟩:=R0.px;have Hn:=hid (Fi _ g.xb r _ Ae p1);clear h hs hz hg JZ hb p1 h0 h1 h2 h3 h4 h5 h6;go_enter func101,ntmps101;go_wp2_with fail;refine Hn.mono ?_;rintro e w1 ⟨⟨fb,rfl,hb⟩,hm⟩;go_wp2;rw[hr.out];exact⟨rfl,A7 ⟨⟨fb,rfl,hb⟩,R0.Bf.Ad hm⟩⟩
theorem WT (nm:ByteArray) (ws:Ws) (mb:Nat) (w:World) (g:FG) (x:qr) (wv:Value) (Ae:Int) (F:List (Nat×Obj)) (r:PV) (h:qu F g x wv Ae w r) (hs:Sl w (fun b=>b≠g.xb) wv (A3 ws)) (hz:∀a,a∈ws->a.size<=1000000) (hg:Gl mb w) (JZ:g.xb∉Td mb) (hb:Xq g) (AD:0<=x.Ah/\x.Ah<=1000):
  Calls prog 101 #[i6 g.xb,.string nm] w (Qa (x.AL nm ws) F g x wv Ae w):=by
 by_cases h0:bs nm=CY
 ·exact zG nm ws mb w g x wv Ae F r h hs hz hg JZ hb AD h0
 by_cases h1:bs nm=CF
 ·exact zJ nm ws mb w g x wv Ae F r h hs hz hg JZ hb AD h1
 by_cases h2:bs nm=CZ
 ·exact zH nm ws mb w g x wv Ae F r h hs hz hg JZ hb AD h2
 by_cases h3:bs nm=DI
 ·exact zI nm ws mb w g x wv Ae F r h hs hz hg JZ hb AD h3
 by_cases h4:bs nm=AH
 ·exact jd nm ws mb w g x wv Ae F r h hs hz hg JZ hb AD h4
 by_cases h5:bs nm=Kb
 ·exact Ack nm ws mb w g x wv Ae F r h hs hz hg JZ hb AD h5
 by_cases h6:bs nm=Dp
 ·exact vh nm ws mb w g x wv Ae F r h hs hz hg JZ hb AD h6
 exact Acj nm ws mb w g x wv Ae F r h hs hz hg JZ hb AD h0 h1 h2 h3 h4 h5 h6
def FG.QX (g:FG) (x:qr) (wv:Value) (Ae:Int):List Ob:=if x.Aa=[] then g.sA x wv Ae else g.Ar x wv Ae
structure PA (F:List (Nat×Obj)) (g:FG) (x:qr) (wv:Value) (Ae:Int) (w:World):Prop where
 Am:Az w (g.QX x wv Ae)
 AN:A5 w (g.QX x wv Ae) F
 FB:x.Aa≠[]->Xp F g x
 none:x.Aa=[]->x.Af=[]/\x.AA=[]/\x.Ah=0
def FG.pv0 (g:FG):PV:=⟨i6 g.pb,.map (some g.sb),.map none,.slice none 0 0,i5 0⟩
def FG.mR (g:FG) (x:qr):PV:=if x.Aa=[] then g.pv0 else g.pv x
theorem GO (h:x.Aa=[]):g.QX x wv Ae=g.sA x wv Ae:=In h
theorem F7 (h:x.Aa≠[]):g.QX x wv Ae=g.Ar x wv Ae:=I h
theorem PA.st (h:PA F g x wv Ae w) (hx:x.Aa≠[]):PQ F g x wv Ae w:=
 ⟨F7 hx▸h.Am,F7 (g:=g) (wv:=wv) (Ae:=Ae) hx▸h.AN,h.FB hx⟩
theorem PA.of (h:PQ F g x wv Ae w):PA F g x wv Ae w:=
 ⟨by rw[F7 h.FB.ne];exact h.Am,by rw[F7 h.FB.ne];exact h.AN,fun _=>h.FB,fun e=>UV e h.FB.ne⟩
theorem PA.yi (h:PA F g x wv Ae w):qu F g x wv Ae w (g.mR x):=by
 by_cases hx:x.Aa=[]
 ·refine .inr ⟨⟨hx,by unfold FG.mR;rw[In hx];rfl⟩,?_⟩;have:=h.Am;rw[GO hx] at this;unfold FG.mR;rw[In hx];exact this.Au (i:=0) rfl
 ·refine .inl ⟨h.st hx,?_⟩;unfold FG.mR;rw[I hx]
def ZU (res:Except Int qr) (F:List (Nat×Obj)) (g:FG) (x:qr) (wv:Value) (Ae:Int) (w:World) (e:Ending) (w':World):Prop:=match res with
 | .error c=>F1 (PM g x wv Ae) c Ae w e w'
 | .ok y=>e= .returned (.tuple #[])/\∃g' F' wv',g'.xb=g.xb/\cd F F'/\Ak w (g.QX x wv Ae) w' (g'.QX y wv' Ae)/\PA F' g' y wv' Ae w'
theorem zL {res:Except Int qr} {e:Ending} {w':World} (hx:x.Aa≠[]) (h:Qa res F g x wv Ae w e w'):ZU res F g x wv Ae w e w':=by
 cases res with
 | error c=>exact h
 | ok y=>
  obtain⟨h1,g',F',wv',h2,h3,h4,h5⟩:=h;refine⟨h1,g',F',wv',h2,h3,?_,.of h5⟩;rw[F7 hx,F7 h5.FB.ne];exact h4
theorem Rd.Gg (h0:PA F g x wv Ae w0) (h:Rd w0 g.xb (g.mR x) Ae E l w):
  ∃wv',PA F g x wv' Ae w/\Ak w0 (g.QX x wv Ae) w (g.QX x wv' Ae):=by
 obtain⟨wv',h1,_⟩:=h.px;have st:Ak w0 (g.QX x wv Ae) w (g.QX x wv' Ae):=by
  have ho:=h0.Am;by_cases hx:x.Aa=[]
  ·unfold FG.mR at h1;rw[In hx] at h1;rw[GO hx] at ho;rw[GO hx,GO hx];exact mbH
  ·unfold FG.mR at h1;rw[I hx] at h1;rw[F7 hx] at ho;rw[F7 hx,F7 hx];exact mbH
 exact⟨wv',⟨st.Am,h0.AN.step st,h0.FB,h0.none⟩,st⟩
theorem cU (l:List fF) (s:fF):F4 (l++[s])=F4 l++[(s.name,.agg #[i5 s.first,i5 s.size])]:=by simp[F4]
theorem Aa2 {l:List fF} (h:W.heap[b]?=some (IM (F4 l))) (n:ByteArray) (hp:(l.find? fun s=>decide (bs s.name=bs n))=none) (f z:Int):(Instr.mapUpdate 147 (.map (some b)) (.string n) (.agg #[i5 f,i5 z])).run prog W= .ok () {W with heap:=W.heap.setIfInBounds b (IM (F4 (l++[⟨n,f,z⟩])))}:=by
 rw[cU];exact Le (k:=9) (e:=200) Fd Fd h n _ (by rw[kz,hp];rfl)
theorem Vx {l:List fF} (h:Az W L) (hi:L[i]?=some (.SH b (IM (F4 l)))) (n:ByteArray) (hp:(l.find? fun s=>decide (bs s.name=bs n))=none) (f z:Int):
  ∃w5,(Instr.mapUpdate 147 (.map (some b)) (.string n) (.agg #[i5 f,i5 z])).run prog W= .ok () w5/\Ak W L w5 (L.set i (.SH b (IM (F4 (l++[⟨n,f,z⟩]))))):=
 ⟨_,Aa2 (h.get hi) n hp f z,h.rD hi _⟩
theorem gE (h:YW r=none):x.D6 r= .error 2:=by unfold qr.D6;rw[h]
theorem Vy {BH v:Int} (h:Il BH l=some (v,r)):1<=v/\v<=BH:=by
 unfold Il at h;split at h
 ·cases h
 ·split at h
  ·rename_i hc;cases h;exact hc.2
  ·cases h
def qr.FU (x:qr) (n:ByteArray) (z:Int):Except Int qr:=
 if x.Aa≠[] then .error 3 else if (x.Ti n).isSome then .error 4 else .ok {x with As:=x.As++[⟨n,x.cells,z⟩],cells:=x.cells+z}
theorem Ir {w:ByteArray} (h:bs w=AK):x.row (w::r)=x.D6 r:=by
 show(if _ then _ else _)=_;rw[In h]
theorem WU (nm:ByteArray) (ws:Ws) (mb:Nat) (w:World) (g:FG) (x:qr) (wv:Value) (Ae:Int) (F:List (Nat×Obj)) (h:PA F g x wv Ae w) (hs:Sl w (fun b=>b≠g.xb) wv (A3 (nm::ws))) (hz:∀a,a∈ws->a.size<=1000000) (hg:Gl mb w) (JZ:g.xb∉Td mb) (Db:0<=x.cells/\x.cells<=100000) (Adt:g.tv.length<=3000) (hk:bs nm=AK):
  Calls prog 74 #[i6 g.xb] w (ZU (x.row (nm::ws)) F g x wv Ae w):=by
 have R00:=hid (Rd.start h.yi.px hs);have H:=hid h;have Hk:=hid hk;have Hz:=hid hz;have Hg:=hid hg;have HX:=hid JZ;have q0:=BO hk;unfold AK at q0;obtain⟨wv0,p0,s0⟩:=R00.px;have Hn:=hid (Je (nm::ws) _ g.xb _ wv0 Ae _ p0 s0 (fun h=>h.1 rfl));clear h hs hk p0 s0;clear hz hg JZ;go_enter func74,ntmps74;go_wp2_with fail;refine Hn.mono ?_;intro e w1 he;obtain⟨rfl,R1⟩:=R00.Eg (v:= .string nm) (l':=ws) he;have R:=hid R1;clear Hn he R1 R00;obtain⟨Mx,p1,s1⟩:=R.px;have Hnm:=hid (Md ws _ g.xb _ Mx Ae _ p1 s1 (fun h=>h.1 rfl) Hz);clear p1 s1;go_wp2_with fail;refine Hnm.mono ?_;intro e w2 he;clear Hnm;cases hn:YW ws with
 | none=>
  rw[hn] at he;obtain⟨⟨fb,rfl,hb⟩,hm⟩:=he;have hr:=hid (show x.row (nm::ws)= .error 2 by rw[Ir Hk.out];exact gE hn);clear hn;exact mas
 | some p=>
  obtain⟨n,l⟩:=p;rw[hn] at he;obtain⟨rfl,R2⟩:=R.Eg he;have Hn:=hid hn;clear R he;have R:=hid R2;clear R2 hn;obtain⟨Mx,p1,s1⟩:=R.px;obtain⟨sp,sc,rfl,_,_⟩:=s1.KO;have xl0:g.xb < w2.heap.size:=p1.lt;cases l with
  | nil=>
   have x0:w2.cell? ⟨g.xb,0,none⟩=some (.slice sp 0 sc):=p1.cell 0;have LC:=hid (DU [] _ g.xb _ _ Ae _ p1 s1);clear p1 s1;go_wp2_with fail;refine LC.mono ?_;intro e w3 he;clear x0 xl0 LC;obtain⟨rfl,R3⟩:=R.Eg he;have KV:=hid R3.Bf;have Hr:=hid (show x.row (nm::ws)=x.FU n 1 by rw[Ir Hk.out];unfold qr.D6;rw[Hn.out];rfl);obtain⟨LF,hP,MQ⟩:=R3.Gg H.out;by_cases hx:x.Aa=[]
   ·have ho:=hP.Am;rw[GO hx] at ho;obtain⟨hc,hf,AX,Ve,uA,bt,IT⟩:=W0 ho;have IU:=Va IT n;have Ho:=hid ho;have HP:=hid hP;have KT:=hid MQ;have Hx:=hid hx;have Hsh:=hid IT;have Ae0:True->wrap64 (x.cells+1)=x.cells+1:=fun _=>IntWalk.wrap64_in _ Y
    clear ho hP MQ IT R3 he;cases Tb:x.As.find? (fun s=>decide (bs s.name=bs n)) with
    | some s=>
     rw[Tb] at IU;have hr:=hid (Hr.trans (show x.FU n 1= .error 4 by unfold qr.FU;rw[I (fun h=>h Hx.out),In (by show(x.As.find? _).isSome=true;rw[Tb];rfl)]));exact maT
    | none=>
     rw[Tb] at IU;have hr:=hid (Hr.trans (show x.FU n 1= .ok {x with As:=x.As++[⟨n,x.cells,1⟩],cells:=x.cells+1} by unfold qr.FU;rw[I (fun h=>h Hx.out),I (by show¬(x.As.find? _).isSome=true;rw[Tb];simp)]));simp only[Qdj,Qcm,Qb1] at IU;have Hfd:=hid Tb;clear Tb Hr hx;go_upto_region 13 with fail
     refine Ap (l:=[(0,true),(1,true),(2,true),(3,true),(4,true),(5,true),(6,true),(7,true),(8,true),(9,true),(10,true),(11,true),(12,true),(13,true),(14,false)]) (fun W=>W.cell? ⟨g.xb,3,none⟩=some (.map (some g.sb))/\W.cell? ⟨g.xb,2,none⟩=some (i6 g.pb)/\W.cell? ⟨g.pb,1,none⟩=some (i5 x.cells)) 14 ⟨by go_simp,by go_simp,by go_simp⟩ ?_;refine AY ?_;refine Ai rfl (fun K hK=> ?_);have t1:=Ak.alloc Ho (.cells #[i5 0,i5 0] 200);have t2:=t1.trans (Ak.drew t1.Am);obtain⟨w5,hup,t3'⟩:=Vx t2.Am (i:=2) rfl n Hfd x.cells 1;go_simp;refine hK _ _ (fun h=>UV rfl h) ?_;clear hK hup;simp only[BB];have t3:=t2.trans t3';clear t1 t2 t3' IU hc hf AX Ve uA bt;have PD:=t3.Am.Au (i:=0) rfl;have WD:=t3.Am.Au (i:=1) rfl;have hc:=PD.cell;have AX:=PD.lt;have Ve:=WD.cell;have uA:=WD.free;have Cq:=WD.lt;have T3:=hid t3;clear PD WD t3;go_wp2
     go_end0
     rw[hr.out];have t4:=T3.trans (T3.Am.set (i:=1) rfl 1 (i5 (x.cells+1)));have hy:({x with As:=x.As++[⟨n,x.cells,1⟩],cells:=x.cells+1}:qr).Aa=[]:=Hx.out;have t5:Ak w3 (g.QX x LF Ae) (World.setCell w5 ⟨g.pb,1,none⟩ (i5 (x.cells+1))) (g.QX {x with As:=x.As++[⟨n,x.cells,1⟩],cells:=x.cells+1} LF Ae):=by
      rw[GO Hx.out,GO hy];exact t4
     exact⟨rfl,g,F,LF,rfl,fun _ h=>h,KT.trans t5,⟨t5.Am,HP.AN.step t5,fun h=>UV hy h,fun _=>HP.none Hx⟩⟩
   ·have hS:=hP.st hx;obtain⟨hc,hf,AX,Ve,uA,bt,IT,WK⟩:=GU hS.Am;have Ou:(0:Int) < (g.tv.length:Int)+1:=Y
    have hr:=hid (Hr.trans (show x.FU n 1= .error 3 by unfold qr.FU;rw[In hx]));clear Hr hx hS hP MQ R3 he IT WK;exact maC
  | cons a l=>
   have x0:w2.cell? ⟨g.xb,0,none⟩=some (.slice sp (l.length+1) sc):=(p1.cell 0).trans (by simp[PV.cells,A3]);have Mu:(0:Int) < (l.length:Int)+1:=Y
   have KL:0 < l.length+1:=Y
   have Hup:=hid (Zm 6 mb (a::l) _ g.xb _ _ Ae _ p1 s1 (fun h=>h.1 rfl) (fun q hq=>Hz.out q (Lg Hn q hq)) (Hg.Bf R.Bf (fun b hb hm=>by rw[Z] at hm;rw[hm] at hb;exact HX.out hb)) HX AC);clear p1 s1;go_wp2_with fail;refine Hup.mono ?_;intro e w3 he;clear x0 xl0 Hup Mu KL;cases hu:Il 6 (a::l) with
   | none=>
    rw[hu] at he;obtain⟨⟨fb,rfl,hb⟩,hm⟩:=he;have hr:=hid (show x.row (nm::ws)= .error 2 by rw[Ir Hk.out];unfold qr.D6;rw[Hn.out];simp only[];rw[hu]);clear hu;exact mas
   | some p=>
    obtain⟨z,l2⟩:=p;rw[hu] at he;obtain⟨rfl,R2⟩:=R.Eg he;have hzr:=Vy hu;have Hu:=hid hu;clear R he hu;have R:=hid R2;clear R2;obtain⟨ZX,p2,s2⟩:=R.px;have LC:=hid (DU l2 _ g.xb _ _ Ae _ p2 s2);clear p2 s2;go_wp2_with fail;refine LC.mono ?_;intro e w3 he;clear LC;cases l2 with
    | cons b l3=>
     obtain⟨⟨fb,rfl,hb⟩,hm⟩:=he;have hr:=hid (show x.row (nm::ws)= .error 2 by rw[Ir Hk.out];unfold qr.D6;rw[Hn.out];simp only[];rw[Hu.out]);exact mas
    | nil=>
     obtain⟨rfl,R3⟩:=R.Eg he;have KV:=hid R3.Bf;have Hr:=hid (show x.row (nm::ws)=x.FU n z by rw[Ir Hk.out];unfold qr.D6;rw[Hn.out];simp only[];rw[Hu.out];rfl);obtain⟨LF,hP,MQ⟩:=R3.Gg H.out;by_cases hx:x.Aa=[]
     ·have ho:=hP.Am;rw[GO hx] at ho;obtain⟨hc,hf,AX,Ve,uA,bt,IT⟩:=W0 ho;have IU:=Va IT n;have Ho:=hid ho;have HP:=hid hP;have KT:=hid MQ;have Hx:=hid hx;have Hsh:=hid IT;have Ae0:True->wrap64 (x.cells+z)=x.cells+z:=fun _=>IntWalk.wrap64_in _ Y
      clear ho hP MQ IT R3 he;cases Tb:x.As.find? (fun s=>decide (bs s.name=bs n)) with
      | some s=>
       rw[Tb] at IU;have hr:=hid (Hr.trans (show x.FU n z= .error 4 by unfold qr.FU;rw[I (fun h=>h Hx.out),In (by show(x.As.find? _).isSome=true;rw[Tb];rfl)]));exact maT
      | none=>
       rw[Tb] at IU;have hr:=hid (Hr.trans (show x.FU n z= .ok {x with As:=x.As++[⟨n,x.cells,z⟩],cells:=x.cells+z} by unfold qr.FU;rw[I (fun h=>h Hx.out),I (by show¬(x.As.find? _).isSome=true;rw[Tb];simp)]));simp only[Qdj,Qcm,Qb1] at IU;have Hfd:=hid Tb;clear Tb Hr hx;go_upto_region 13 with fail
       refine Ap (l:=[(0,true),(1,true),(2,true),(3,true),(4,true),(5,true),(6,true),(7,true),(8,true),(9,true),(10,true),(11,true),(12,true),(13,true),(14,false)]) (fun W=>W.cell? ⟨g.xb,3,none⟩=some (.map (some g.sb))/\W.cell? ⟨g.xb,2,none⟩=some (i6 g.pb)/\W.cell? ⟨g.pb,1,none⟩=some (i5 x.cells)) 14 ⟨by go_simp,by go_simp,by go_simp⟩ ?_;refine AY ?_;refine Ai rfl (fun K hK=> ?_);have t1:=Ak.alloc Ho (.cells #[i5 0,i5 0] 200);have t2:=t1.trans (Ak.drew t1.Am);obtain⟨w5,hup,t3'⟩:=Vx t2.Am (i:=2) rfl n Hfd x.cells z;go_simp;refine hK _ _ (fun h=>UV rfl h) ?_;clear hK hup;simp only[BB];have t3:=t2.trans t3';clear t1 t2 t3' IU hc hf AX Ve uA bt;have PD:=t3.Am.Au (i:=0) rfl;have WD:=t3.Am.Au (i:=1) rfl;have hc:=PD.cell;have AX:=PD.lt;have Ve:=WD.cell;have uA:=WD.free;have Cq:=WD.lt;have T3:=hid t3;clear PD WD t3;go_wp2
       go_end0
       rw[hr.out];have t4:=T3.trans (T3.Am.set (i:=1) rfl 1 (i5 (x.cells+z)));have hy:({x with As:=x.As++[⟨n,x.cells,z⟩],cells:=x.cells+z}:qr).Aa=[]:=Hx.out;have t5:Ak w3 (g.QX x LF Ae) (World.setCell w5 ⟨g.pb,1,none⟩ (i5 (x.cells+z))) (g.QX {x with As:=x.As++[⟨n,x.cells,z⟩],cells:=x.cells+z} LF Ae):=by
        rw[GO Hx.out,GO hy];exact t4
       exact⟨rfl,g,F,LF,rfl,fun _ h=>h,KT.trans t5,⟨t5.Am,HP.AN.step t5,fun h=>UV hy h,fun _=>HP.none Hx⟩⟩
     ·have hS:=hP.st hx;obtain⟨hc,hf,AX,Ve,uA,bt,IT,WK⟩:=GU hS.Am;have Ou:(0:Int) < (g.tv.length:Int)+1:=Y
      have hr:=hid (Hr.trans (show x.FU n z= .error 3 by unfold qr.FU;rw[In hx]));clear Hr hx hS hP MQ R3 he IT WK;exact maC
def lg (g:FG) (x:qr) (wv:Value) (Ae:Int) (lv ov sv:Value) (tp:Option Addr) (tc:Nat) (rows:List Value):List Ob:=
 [.Au g.xb #[wv,i5 Ae,i6 g.pb,.map (some g.sb),lv,ov,sv] 151,
  .Au g.pb #[.slice tp rows.length tc,i5 x.cells] 146,
  .SH g.sb (IM (F4 x.As)),
  .row (.slice tp rows.length tc) 165 1 rows.length rows]
structure AeK (F:List (Nat×Obj)) (g:FG) (x:qr) (wv:Value) (Ae:Int) (w:World) (lv ov sv:Value) (tp:Option Addr) (tc:Nat) (rows:List Value) (F':List (Nat×Obj)):Prop where
 dC:cd F F'
 st:Ak w (g.QX x wv Ae) w (lg g x wv Ae lv ov sv tp tc rows)
 AN:A5 w (lg g x wv Ae lv ov sv tp tc rows) F'
 xI:GX F' x.Aa rows
theorem Ak.Tl {A C:List Ob} {b:Ob} (h:Az w (A++b::C)):Ak w (A++b::C) w (A++C):=by
 have:=Ak.drop (A:=A) (B:=[b]) (C:=C) (by simpa using h);simpa using this
theorem lf (h:PA F g x wv Ae w) (ho:x.Af=[]):∃lv ov sv tp tc rows F',AeK F g x wv Ae w lv ov sv tp tc rows F':=by
 by_cases hx:x.Aa=[]
 ·have hw:=h.Am;have hk:=h.AN;rw[GO hx] at hw hk;have t:=Ak.SM (A:=g.sA x wv Ae) (B:=[]) (by rw[i7];exact hw) 165 1;rw[i7] at t;refine⟨.map none,.slice none 0 0,i5 0,none,0,[],F,fun _ h=>h,?_,hk.step t,by rw[hx];rfl⟩;rw[GO hx];exact t
 ·obtain⟨hw,hk,hf⟩:=h.st hx;have Ni:g.fr=[]:=RK (by rw[<-hf.frs.len,ho];rfl);rw[M5 g x wv Ae Ni] at hw hk;have t1:Ak w (g.LV x wv Ae) w _:=Ak.Tl (A:=[_,_,_,_]) (b:= .SH g.lb _) (C:=[_,_]) hw;have t2:=t1.trans (Ak.Tl (A:=[_,_,_,_]) (C:=[_]) t1.Am);obtain⟨E,K,hr⟩:=Qm (A:=[_,_,_,_]) (B:=[]) t2.Am (hk.step t2);have t3:=t2.trans (Ak.Tl (A:=[_,_,_,_]) (C:=[]) t2.Am);obtain⟨⟨ts,t,e1,e2,e3⟩,_⟩:=hf;have el:(g.tv++[Value.slice g.c.p g.cs.length g.c.c]).length=g.tv.length+1:=EQ
  have e5:lg g x wv Ae (.map (some g.lb)) (.slice (some ⟨g.ob,0,none⟩) (g.fr.length+1) g.oc) (i5 x.Ah) (some ⟨g.tb,0,none⟩) g.tc (g.tv++[.slice g.c.p g.cs.length g.c.c])=[.Au g.xb #[wv,i5 Ae,i6 g.pb,.map (some g.sb),.map (some g.lb),.slice (some ⟨g.ob,0,none⟩) (g.fr.length+1) g.oc,i5 x.Ah] 151,
    .Au g.pb #[.slice (some ⟨g.tb,0,none⟩) (g.tv.length+1) g.tc,i5 x.cells] 146,
    .SH g.sb (IM (F4 x.As)),
    .row (.slice (some ⟨g.tb,0,none⟩) (g.tv.length+1) g.tc) 165 1 (g.tv.length+1) (g.tv++[.slice g.c.p g.cs.length g.c.c])]:=by unfold lg;rw[el]
  refine⟨.map (some g.lb),.slice (some ⟨g.ob,0,none⟩) (g.fr.length+1) g.oc,i5 x.Ah,some ⟨g.tb,0,none⟩,g.tc,g.tv++[.slice g.c.p g.cs.length g.c.c],E++F,fun _ h=>GT _ h,?_,?_,?_⟩
  rotate_right
  ·rw[e1];exact(e2.sub fun _ h=>GT _ h).x6 hr (e3.sub fun _ h=>GT _ h)
  ·rw[F7 hx,e5,M5 g x wv Ae Ni];exact t3
  ·rw[e5];exact K
theorem vW (hc:c.size=n*s) (hn:n<=maxLen) (h1:∀u,u∈c.toList->u.oneCell'=true) (h:Az w (L++[.Au b c T])):
  Ak w (L++[.Au b c T]) w (L++[.row (.slice (some ⟨b,0,none⟩) n n) T s n c.toList]):=by
 have k:=h.swap (i:=L.length) (o':= .row (.slice (some ⟨b,0,none⟩) n n) T s n c.toList) (o:= .Au b c T) EQ (Av.refl _ _) ?_ (by simp[Ob.fp,Value.ownBlock]) (fun x hx=> .inl (by simpa[Ob.fp,Value.ownBlock] using hx))
 ·simpa using k
 ·exact mbe
theorem tU:(prog.info? 165).map (fun i=>(i.zero,i.size,i.bytes))=some (some (.slice none 0 0),1,24):=Fd
theorem Lo {w:ByteArray} (h:bs w=AE):x.row (w::r)=if r≠[] then .error 2 else if x.Af≠[] then .error 3 else .ok {x with Aa:=x.Aa++[.nil],AA:=[],Ah:=0,Af:=[]}:=by
 show(if _ then _ else _)=_;rw[I (by rw[h];decide),In h]
theorem ks (h:PA F g x wv Ae w) (hl:g.fr.length<=100):
  Calls prog 75 #[i6 g.xb] w (wJ (if x.Af=[] then none else some 3) Ae w):=by
 by_cases hx:x.Aa=[]
 ·have:=h.Am;rw[GO hx] at this;rw[In (h.none hx).1];exact jf w g x wv Ae this
 ·have hS:=h.st hx;have e:=hS.FB.frs.len;refine(o5 w g x wv Ae hS.Am hl).mono fun e' w' he=> ?_
  by_cases ho:x.Af=[]
  ·rw[In ho];rw[I (by rw[<-e,ho];simp)] at he;exact he
  ·rw[I ho];rw[In (by rw[<-e];exact Qae.2 ho)] at he;exact he
theorem UI (nm:ByteArray) (ws:Ws) (mb:Nat) (w:World) (g:FG) (x:qr) (wv:Value) (Ae:Int) (F:List (Nat×Obj)) (h:PA F g x wv Ae w) (hs:Sl w (fun b=>b≠g.xb) wv (A3 (nm::ws))) (hb:g.fr.length<=100) (Ou:x.Aa.length<=3000) (hk:bs nm=AE):
  Calls prog 74 #[i6 g.xb] w (ZU (x.row (nm::ws)) F g x wv Ae w):=by
 have R00:=hid (Rd.start h.yi.px hs);have H:=hid h;have Hk:=hid hk;have q0:=An (x:=nm) (k:=AK) (by rw[hk];decide);unfold AK at q0;have q1:=BO hk;unfold AE at q1;have oD:= @run_makeMap prog;obtain⟨j0,hj,KW,Fo,K7⟩:=info_parts tU;obtain⟨wv0,p0,s0⟩:=R00.px;have Hn:=hid (Je (nm::ws) _ g.xb _ wv0 Ae _ p0 s0 (fun h=>h.1 rfl));clear h hs hk p0 s0;go_enter func74,ntmps74;go_wp2_with fail;refine Hn.mono ?_;intro e w1 he;obtain⟨rfl,R1⟩:=R00.Eg (v:= .string nm) (l':=ws) he;have R:=hid R1;clear Hn he R1 R00;obtain⟨ZX,p2,s2⟩:=R.px;have LC:=hid (DU ws _ g.xb _ _ Ae _ p2 s2);clear p2 s2;go_wp2_with fail;refine LC.mono ?_;intro e w3 he;clear LC;cases ws with
 | cons b l3=>
  obtain⟨⟨fb,rfl,hb⟩,hm⟩:=he;have hr:=hid (show x.row (nm::b::l3)= .error 2 by rw[Lo Hk.out,In EQ]);exact mas
 | nil=>
  obtain⟨rfl,R3⟩:=R.Eg he;have KV:=hid R3.Bf;obtain⟨LF,hP,MQ⟩:=R3.Gg H.out;have He:=hid (ks hP hb);have HP:=hid hP;have KT:=hid MQ;clear he R3 R hP MQ;go_wp2_with fail;refine He.mono ?_;intro e w4 he;by_cases ho:x.Af=[];rotate_left
  ·rw[I ho] at he;obtain⟨⟨fb,rfl,hb⟩,hm⟩:=he;have hr:=hid (show x.row [nm]= .error 3 by rw[Lo Hk.out,I EQ,In ho]);clear ho;go_wp2;rw[hr.out];exact⟨rfl,A7 ⟨⟨fb,rfl,hb⟩,KV.Ad hm⟩⟩
  rw[In ho] at he;obtain⟨rfl,hm⟩:=he;have hr:=hid (show x.row [nm]= .ok {x with Aa:=x.Aa++[.nil],AA:=[],Ah:=0,Af:=[]} by rw[Lo Hk.out,I EQ,I (fun h=>h ho)]);have SB:=Ak.quiet HP.Am hm;have hP4:PA F g x LF Ae w4:=⟨SB.Am,HP.AN.quiet hm,HP.FB,HP.none⟩;obtain⟨lv,ov,sv,tp,tc,rows,F',hF⟩:=lf hP4 ho;have P2:rows.length<=3000:=by rw[hF.xI.len];exact Ou
  have HF:=hid hF;have Aez:=hid (KT.trans (SB.trans hF.st));have PD:=hF.st.Am.Au (i:=0) rfl;have WD:=hF.st.Am.Au (i:=1) rfl;have x2:w4.cell? ⟨g.xb,2,none⟩=some (i6 g.pb):=PD.cell 2;have p0:w4.cell? ⟨g.pb,0,none⟩=some (.slice tp rows.length tc):=WD.cell 0;clear ho hm SB hP4 hF He PD WD;go_upto_region 18 with fail
  refine Ap (l:=[(0,true),(1,true),(2,true),(3,true),(4,true),(5,true),(6,true),(7,true),(8,true),(9,true),(10,true),(11,false),(12,false),(13,true),(14,true),(15,false)]) (fun W=>W.cell? ⟨g.xb,2,none⟩=some (i6 g.pb)/\W.cell? ⟨g.pb,0,none⟩=some (.slice tp rows.length tc)) 15 ⟨x2,p0⟩ ?_;refine detE ?_;intro K hK;have Hb0:=HF.st.Am.Au (i:=0) rfl;have Hb1:=HF.st.Am.Au (i:=1) rfl;have Fa:=Hb0.lt;have Cq:=Hb1.lt;refine hK _ _ (fun _=>⟨by go_simp,by go_simp⟩) ?_;clear hK Hb0 Hb1 Fa Cq x2 p0;refine Ai rfl (fun K hK=> ?_);refine B5 24 _ _ _ j0 _ #[.slice none 0 0] _ HF.st.Am (k:=3) rfl Do Do underlying144 hj KW Fo K7 rfl Y Do Do rfl (by simp[Value.oneCell']) (by unfold maxLen;omega) Y ?_;intro g6 AZ w6 AD _;have z1:w6.cell? ⟨g.xb,2,none⟩=some (i6 g.pb):=(AD.Am.Au (i:=0) rfl).cell 2;have z2:w6.cell? ⟨g.pb,0,none⟩=some (.slice tp rows.length tc):=(AD.Am.Au (i:=1) rfl).cell 0;have zf:w6.frozen? ⟨g.pb,0,none⟩=false:=(AD.Am.Au (i:=1) rfl).free 0;have zl:g.pb < w6.heap.size:=(AD.Am.Au (i:=1) rfl).lt;refine hK _ _ (fun _=>⟨z1,z2⟩) (D9 rfl ?_);clear hK;simp only[FQ];refine detE ?_;intro K hK;refine hK _ _ (fun h=>UV rfl h) ?_;clear hK;simp only[BB];have t5:=Aez.trans (AD.trans (AD.Am.set (i:=1) rfl 0 (.slice (some ⟨g6,0,none⟩) (rows.length+1) AZ)));have k5:=HF.AN.step (AD.trans (AD.Am.set (i:=1) rfl 0 (.slice (some ⟨g6,0,none⟩) (rows.length+1) AZ)));clear z1 z2 zf zl AD Aez;generalize World.setCell w6 ⟨g.pb,0,none⟩ (.slice (some ⟨g6,0,none⟩) (rows.length+1) AZ)=w7 at t5 k5⊢;have ow:=t5.Am.Au (i:=0) rfl;have xl:=ow.lt;have xf:=ow.free;have xc:=ow.cell;have t6:=t5.trans (t5.Am.set (i:=0) rfl 4 (.map (some w7.heap.size)));have t7:=t6.trans (t6.Am.set (i:=0) rfl 6 (i5 0));have t8:=t7.trans (Ak.new t7.Am (.map #[] 0));have k8:=k5.step ((t5.Am.set (i:=0) rfl 4 (.map (some w7.heap.size))).trans ((t6.Am.set (i:=0) rfl 6 (i5 0)).trans (Ak.new t7.Am (.map #[] 0))));have Ia:(World.heap (World.setCell (World.setCell w7 ⟨g.xb,4,none⟩ (.map (some w7.heap.size))) ⟨g.xb,6,none⟩ (i5 0))).size=w7.heap.size:=by simp[World.setCell]
  rw[Ia] at t8 k8;have T8:=hid t8;have HK:=hid k8;clear t5 t6 t7 t8 k5 k8 Ia ow;go_upto_region 20 with fail
  have t8:=T8.out;have k8:=HK.out;clear T8 HK xl xf xc;obtain⟨lb,NH⟩:∃b,b=w7.heap.size:=⟨_,rfl⟩;rw[<-NH] at t8 k8⊢;generalize World.alloc (World.setCell (World.setCell w7 ⟨g.xb,4,none⟩ (.map (some lb))) ⟨g.xb,6,none⟩ (i5 0)) (.map #[] 0)=w8 at t8 k8⊢;have FT:=t8.Am.Au (i:=0) rfl;have J2:=t8.Am.Au (i:=1) rfl;have x2:w8.cell? ⟨g.xb,2,none⟩=some (i6 g.pb):=FT.cell 2;have p0:w8.cell? ⟨g.pb,0,none⟩=some (.slice (some ⟨g6,0,none⟩) (rows.length+1) AZ):=J2.cell 0;have xc:=FT.cell;have xl:=FT.lt;have xf:=FT.free;have pl:=J2.lt;have T8:=hid t8;have HK:=hid k8;have HLB:=hid NH;have hw:True->IntKind.i64.wrap (rows.length:Int)=rows.length:=fun _=>IntWalk.i64_in _ Y
  have h0:(0:Int)<=(rows.length:Int):=Y
  have h1:(rows.length:Int) < (rows.length:Int)+1:=Y
  clear t8 k8 FT J2 NH;refine Ap (l:=[(0,true),(1,true),(2,true),(3,true),(4,true),(5,true),(6,true),(7,true),(8,true),(9,true),(10,true),(11,true),(12,true),(13,true),(14,true),(15,true),(16,true),(17,true),(18,true),(19,false),(20,true),(21,true),(22,false)]) (fun W=>W.cell? ⟨g.xb,2,none⟩=some (i6 g.pb)/\W.cell? ⟨g.pb,0,none⟩=some (.slice (some ⟨g6,0,none⟩) (rows.length+1) AZ)) 22 ⟨x2,p0⟩ ?_;refine detE ?_;intro K hK;refine hK _ _ (fun _=>⟨by go_simp,by go_simp⟩) ?_;clear hK;refine detE ?_;intro K hK;refine hK _ _ (fun h=>UV rfl h) ?_;clear hK hw h0 h1 x2 p0 xc xf xl pl;simp only[BB];go_wp2
  go_end0
  rw[hr.out];have t8:=T8.out;have s9:=t8.Am.set (i:=0) rfl 5 (.slice (some ⟨w8.heap.size,0,none⟩) 1 1);have s10:=Ak.new s9.Am (.cells #[.pointer (some ⟨g6,rows.length,none⟩),.nilFunc,.bool false] 205);have Ia:(World.heap (World.setCell w8 ⟨g.xb,5,none⟩ (.slice (some ⟨w8.heap.size,0,none⟩) 1 1))).size=w8.heap.size:=by simp[World.setCell]
  rw[Ia] at s10;have s11:=s9.trans (s10.trans (Ak.drew s10.Am));have s12:=s11.trans (vW (n:=1) (s:=3) rfl (by unfold maxLen;omega) (by simp[Value.oneCell']) s11.Am);have s13:=s12.trans (Ak.SM (B:=[]) (by rw[i7];exact s12.Am) 208 1 |> fun h=>by rw[i7] at h;exact h);have t13:=t8.trans s13;have el:(x.Aa++[Bt.nil])≠[]:=EQ
  have ee:g.xb=g.xb:=rfl;obtain⟨ob,Afn⟩:∃b,b=w8.heap.size:=⟨_,rfl⟩;rw[<-Afn] at t13 s13⊢;have CN:Xp F' {g with tb:=g6,tc:=AZ,tv:=rows,c:=⟨none,0⟩,cs:=[],lb:=lb,ob:=ob,oc:=1,fr:=[]} {x with Aa:=x.Aa++[.nil],AA:=[],Ah:=0,Af:=[]}:=⟨⟨x.Aa,.nil,rfl,HF.xI,rfl⟩,rfl⟩;refine⟨rfl,{g with tb:=g6,tc:=AZ,tv:=rows,c:=⟨none,0⟩,cs:=[],lb:=lb,ob:=ob,oc:=1,fr:=[]},F',LF,rfl,HF.dC,?_,.of ⟨?_,?_,CN⟩⟩
  ·rw[F7 (x:={x with Aa:=x.Aa++[.nil],AA:=[],Ah:=0,Af:=[]}) el,M5 _ _ _ _ rfl];exact t13
  ·rw[M5 _ _ _ _ rfl];exact t13.Am
  ·rw[M5 _ _ _ _ rfl];exact HK.step s13
theorem WX {w:ByteArray} (h:bs w=Ey):x.row (w::r)=if r≠[] then .error 2 else match x.Af.getLast? with
  | none=> .error 3
  | some f=> .ok ({x with Af:=x.Af.dropLast}.add f.done):=by
 show(if _ then _ else _)=_;rw[I (by rw[h];decide),I (by rw[h];decide),In h];rfl
theorem jw {k:JJ} {fn:Fn} {cap:Array Value} (h:Pt F k fn cap):∃j,fn= .func j/\(∀(args:Array Value) (w:World),(callFunc j args).run prog w= .ok (.enter j args) w)/\∀(b:Bt) (p:Option Addr) (n c:Nat) (w:World),(∀q o,(q,o)∈F->w.heap[q]?=some o)->Calls prog j (#[.slice p n c]++cap) w (Vp k b (.slice p n c) w):=by
 cases k with
 | atomic=>obtain⟨rfl,rfl⟩:=h;exact⟨_,rfl,fun _ _=>Fd,fun b p n c w _=>UN b p n c w⟩
 | EA a=>obtain⟨rfl,cb,rfl,hm⟩:=h;exact⟨_,rfl,fun _ _=>Fd,fun b p n c w hF=>fj a cb b p n c w (hF _ _ hm)⟩
 | loop n=>obtain⟨rfl,cb,rfl,hm⟩:=h;exact⟨_,rfl,fun _ _=>Fd,fun b p m c w hF=>X9 n cb b p m c w (hF _ _ hm)⟩
theorem aq {e:TypeId} {cap g:Nat} (h:w.ownsRow 0 e s (.slice (some ⟨g,0,none⟩) n cap) n xs):n<=cap/\cap<=maxLen:=by
 obtain⟨p,c,hv,h1,h2⟩:=Rl h;cases hv;exact⟨h1,h2⟩
theorem Mi (h:∀j,(hj:j < xs.length)->w.cell? ⟨b,j,none⟩=some xs[j]) (e:xs[i]?=some v):w.cell? ⟨b,i,none⟩=some v:=by
 obtain⟨h1,h2⟩:=d9.1 e;rw[h i h1,h2]
theorem vD {fs:List Jk} {f:Jk} {os:List Fr} {o:Fr} (hS:PQ F g x wv Ae w) (Ni:g.fr=fs++[f]) (Kj:x.Af=os++[o]) (w5:World)
  (h5:∃obj,w5=(World.alloc (World.setCell w ⟨g.xb,5,none⟩ (.slice (some ⟨g.ob,0,none⟩) (fs.length+1) g.oc)) obj).drew.drew/\obj=Obj.cells #[i6 f.bb,.func f.fn #[] f.cap,.bool f.Au] 205 (0,0)):
  ∃E,Ak w (g.Ar x wv Ae) w5 (FG.Ar {g with fr:=fs} {x with Af:=os} wv Ae)/\A5 w5 (FG.Ar {g with fr:=fs} {x with Af:=os} wv Ae) (E++F)/\EE (E++F) (.slice f.s.p f.us.length f.s.c) f.us/\Xp (E++F) {g with fr:=fs} {x with Af:=os}/\BM w5 f.bb #[.slice f.s.p f.us.length f.s.c] 165/\BM w5 w.heap.size #[i6 f.bb,.func f.fn #[] f.cap,.bool f.Au] 205:=by
 obtain⟨obj,rfl,Afo⟩:=h5;obtain⟨hw,hk,hf⟩:=hS;obtain⟨oz,UE⟩:=hf;have uG:g.fr.length=fs.length+1:=by rw[Ni];simp
 have eo:g.Dk.take ((fs.length+1)*3)=FG.Dk {g with fr:=fs}:=by
  have e1:g.Dk=FG.Dk {g with fr:=fs}++f.cells:=by unfold FG.Dk;rw[Ni,Qba];simp
  have e2:(FG.Dk {g with fr:=fs}).length=(fs.length+1)*3:=by rw[gQ];show 3*(fs.length+1)=_;omega
  rw[e1,<-e2,List.take_left]
 rw[Ni,Kj] at UE;obtain⟨r,o',e,hr,_⟩:=UE.CM;obtain⟨rfl,_⟩:=Qca e rfl;rw[LZ g x wv Ae Ni] at hw hk⊢;have a1:=hw.set (i:=0) rfl 5 (.slice (some ⟨g.ob,0,none⟩) (fs.length+1) g.oc);have a2:=a1.trans (Ak.alloc a1.Am obj);have a3:=(a2.trans (Ak.drew a2.Am)).trans (Ak.drew (Ak.drew a2.Am).Am);have a4:=a3.trans (a3.Am.take (i:=5) rfl (fs.length+1) Y);rw[eo] at a4;have a5:=a4.trans (Ak.Tl (A:=[_,_,_,_,_,_,_]) a4.Am);obtain⟨E,K,hri⟩:=Qm (A:=[_,_,_,_,_,_,_]) a5.Am (hk.step a5);have a6:=a5.trans (Ak.Tl (A:=[_,_,_,_,_,_,_]) a5.Am);have CN:Xp F {g with fr:=fs} {x with Af:=os}:=⟨oz,hr⟩;have Ia:(World.heap (World.setCell w ⟨g.xb,5,none⟩ (.slice (some ⟨g.ob,0,none⟩) (fs.length+1) g.oc))).size=w.heap.size:=by simp[World.setCell]
 have RU:=BM.new (World.setCell w ⟨g.xb,5,none⟩ (.slice (some ⟨g.ob,0,none⟩) (fs.length+1) g.oc)) #[i6 f.bb,.func f.fn #[] f.cap,.bool f.Au] 205;rw[Ia] at RU;exact⟨E,a6,K,hri,CN.sub (fun _ h=>GT _ h),a4.Am.Au (i:=7) rfl,by rw[Afo];exact RU⟩
theorem bF (nm:ByteArray) (ws:Ws) (mb:Nat) (w:World) (g:FG) (x:qr) (wv:Value) (Ae:Int) (F:List (Nat×Obj)) (h:PA F g x wv Ae w) (hs:Sl w (fun b=>b≠g.xb) wv (A3 (nm::ws))) (hb:Xq g) (hk:bs nm=Ey):
  Calls prog 74 #[i6 g.xb] w (ZU (x.row (nm::ws)) F g x wv Ae w):=by
 have R00:=hid (Rd.start h.yi.px hs);have H:=hid h;have Hk:=hid hk;have q0:=An (x:=nm) (k:=AK) (by rw[hk];decide);unfold AK at q0;have q1:=An (x:=nm) (k:=AE) (by rw[hk];decide);unfold AE at q1;have q2:=BO hk;unfold Ey at q2;obtain⟨wv0,p0,s0⟩:=R00.px;have Hn:=hid (Je (nm::ws) _ g.xb _ wv0 Ae _ p0 s0 (fun h=>h.1 rfl));clear h hs hk p0 s0;go_enter func74,ntmps74;go_wp2_with fail;refine Hn.mono ?_;intro e w1 he;obtain⟨rfl,R1⟩:=R00.Eg (v:= .string nm) (l':=ws) he;have R:=hid R1;clear Hn he R1 R00;obtain⟨ZX,p2,s2⟩:=R.px;have LC:=hid (DU ws _ g.xb _ _ Ae _ p2 s2);clear p2 s2;go_wp2_with fail;refine LC.mono ?_;intro e w3 he;clear LC;cases ws with
 | cons b l3=>
  obtain⟨⟨fb,rfl,hb⟩,hm⟩:=he;have hr:=hid (show x.row (nm::b::l3)= .error 2 by rw[WX Hk.out,In EQ]);exact mas
 | nil=>
  obtain⟨rfl,R3⟩:=R.Eg he;have KV:=hid R3.Bf;have HR:=hid (show x.row [nm]=match x.Af.getLast? with | none=> .error 3 | some f=> .ok ({x with Af:=x.Af.dropLast}.add f.done) by rw[WX Hk.out,I EQ]);obtain⟨LF,hP,MQ⟩:=R3.Gg H.out;have HB:=hid hb;clear he R3 hb;by_cases hx:x.Aa=[]
  ·have ho:=hP.Am;rw[GO hx] at ho;obtain⟨hc,hf,AX,Ve,uA,bt,IT⟩:=W0 ho;have hr:=hid (HR.trans (show _=Except.error 3 by rw[(hP.none hx).1];rfl));clear ho hP MQ IT hx;exact maC
  have hS:=hP.st hx;rcases f5 g.fr with Ni | ⟨fs,f,Ni⟩
  ·obtain⟨hc,hf,AX,Ve,uA,bt,IT,WK⟩:=GU hS.Am;have ho:x.Af=[]:=RK (by rw[hS.FB.frs.len,Ni];rfl);have hr:=hid (HR.trans (show _=Except.error 3 by rw[ho];rfl));rw[Ni] at hc;simp only[m7,Qaw] at hc;clear ho hP MQ IT hx WK hS Ni;exact maC
  ·rw[m8] at Ni;have UE:=hS.FB.frs;rw[Ni] at UE;obtain⟨os,o,Kj,hos,hfo⟩:=UE.CM;have hr:=hid (HR.trans (show _=Except.ok ({x with Af:=os}.add o.done) by rw[Kj];simp));obtain⟨n,hn⟩:∃n,n=fs.length+1:=⟨_,rfl⟩;have uG:g.fr.length=n:=by rw[Ni,hn];simp
   have hj:g.fr[fs.length]?=some f:=by rw[Ni];simp
   obtain⟨tcl,tfr,tlt⟩:=Bm (hS.Am.row (i:=5) rfl);have hoc:=(aq (hS.Am.row (i:=5) rfl)).1;have e0:∀i,i < 3->g.Dk[n*3+i]?=f.cells[i]?:=fun i hi=>by
    rw[show n*3+i=3*(fs.length+1)+i by omega];exact SL g fs.length f hj i hi
   have o0:w3.cell? ⟨g.ob,n*3,none⟩=some (i6 f.bb):=Mi tcl (e0 0 Y);have o1:w3.cell? ⟨g.ob,n*3+1,none⟩=some (.func f.fn #[] f.cap):=Mi tcl (e0 1 Y);have o2:w3.cell? ⟨g.ob,n*3+2,none⟩=some (.bool f.Au):=Mi tcl (e0 2 Y);have x5:w3.cell? ⟨g.xb,5,none⟩=some (.slice (some ⟨g.ob,0,none⟩) (n+1) g.oc):=by rw[<-uG];exact(GU hS.Am).c 5
   have Ct:=hS.Am;rw[LZ g x LF Ae Ni] at Ct;have bb0:w3.cell? ⟨f.bb,0,none⟩=some (.slice f.s.p f.us.length f.s.c):=(Ct.Au (i:=7) rfl).cell 0;have bbl:=(Ct.Au (i:=7) rfl).lt;have xl:=(Ct.Au (i:=0) rfl).lt;have Agj:n<=100:=by rw[<-uG];exact HB.fr
   rw[uG] at hoc;have HS:=hid hS;have Hfr:=hid Ni;have Hop:=hid Kj;have wP:=hid hos;have Hfo:=hid hfo;have Hnl:=hid uG;have KT:=hid MQ;have Hx:=hid hx;have Aao:=hid Ct;have Hn:=hid hn;have Hb0:=hid bb0;have Hbl:=hid bbl;have hw:True->IntKind.i64.wrap (n:Int)=n:=fun _=>IntWalk.i64_in _ Y
   have h0:(0:Int)<=(n:Int):=Y
   have h1:(n:Int) < (n:Int)+1:=Y
   have h2:¬(n:Int)+1 < 2:=Y
   have h3:n<=g.oc:=Y
   clear hS Ni Kj hos hfo uG hj tcl tfr e0 UE hP MQ hx Ct hn HR bb0 bbl;go_upto_region 25 with fail
   refine Ap (l:=[(0,true),(1,true),(2,true),(3,true),(4,true),(5,true),(6,true),(7,true),(8,true),(9,true),(10,true),(11,true),(12,false),(13,false)]) (fun W=>W.cell? ⟨g.xb,5,none⟩=some (.slice (some ⟨g.ob,0,none⟩) (n+1) g.oc)/\W.cell? ⟨g.ob,n*3,none⟩=some (i6 f.bb)/\W.cell? ⟨g.ob,n*3+1,none⟩=some (.func f.fn #[] f.cap)/\W.cell? ⟨g.ob,n*3+2,none⟩=some (.bool f.Au)) 13 ⟨x5,o0,o1,o2⟩ ?_;refine detE ?_;intro K hK;refine hK _ _ (fun _=>⟨by go_simp,by go_simp,by go_simp,by go_simp⟩) ?_;clear hK;refine Ai rfl (fun K hK=> ?_);go_simp;refine hK _ _ (fun h=>UV rfl h) ?_;clear hK o0 o1 o2;simp only[BB];go_upto_region 26 with fail
   refine Ap (l:=[(0,true),(1,true),(2,true),(3,true),(4,true),(5,true),(6,true),(7,true),(8,true),(9,true),(10,true),(11,true),(12,true),(13,true),(14,false)]) (fun W=>W.cell? ⟨g.xb,5,none⟩=some (.slice (some ⟨g.ob,0,none⟩) (n+1) g.oc)) 14 (by go_simp) ?_;refine AY ?_;have xf:=(GU HS.Am).f 5;refine Ai rfl (fun K hK=> ?_);go_simp;refine hK _ _ (fun h=>UV rfl h) ?_;clear hK hw h0 h1 h2 h3 x5 xf hoc xl tlt;simp only[BB];have hp:=vD HS Hfr Hop _ ⟨_,rfl,rfl⟩;rw[<-Hn.out] at hp;generalize (World.drew (World.drew (World.alloc (World.setCell w3 ⟨g.xb,5,none⟩ (.slice (some ⟨g.ob,0,none⟩) n g.oc)) (.cells #[i6 f.bb,.func f.fn #[] f.cap,.bool f.Au] 205))))=w5 at hp⊢;obtain⟨E,st5,K5,hri,CN,hbb,hb7⟩:=hp;obtain⟨j,hj,hcf,Db⟩:=jw (Hfo.cl.sub (E:=E++F) (fun _ h=>GT _ h));obtain⟨b7,Aea⟩:∃b,b=w3.heap.size:=⟨_,rfl⟩;rw[<-Aea] at hb7⊢;have c0:w5.cell? ⟨b7,0,none⟩=some (i6 f.bb):=hb7.cell 0;have c1:w5.cell? ⟨b7,1,none⟩=some (.func (.func j) #[] f.cap):=by rw[<-hj];exact hb7.cell 1
   have c2:w5.cell? ⟨f.bb,0,none⟩=some (.slice f.s.p f.us.length f.s.c):=hbb.cell 0;have ST5:=hid st5;have HK5:=hid K5;have HRI:=hid hri;have HFI:=hid CN;have HBB:=hid hbb;have HB7:=hid hb7;have Hcl:=hid Db;have HCF:=hid hcf;clear st5 K5 hri CN hbb hb7 Db hj Aea hcf;go_upto_region 27 with fail
   refine Ap (l:=[(0,true),(1,true),(2,true),(3,true),(4,true),(5,true),(6,true),(7,false),(8,false)]) (fun W=>W.cell? ⟨b7,0,none⟩=some (i6 f.bb)/\W.cell? ⟨b7,1,none⟩=some (.func (.func j) #[] f.cap)/\W.cell? ⟨f.bb,0,none⟩=some (.slice f.s.p f.us.length f.s.c)) 8 ⟨c0,c1,c2⟩ ?_;refine AY ?_;refine Ai rfl (fun K hK=> ?_);have hcf:=HCF.out;go_simp;clear hcf;have m5:Av [] w5 w5.drew:=(Av.refl _ _).drew;refine(Hcl o.body f.s.p f.us.length f.s.c w5.drew (fun q p hq=>(HK5.quiet m5).heap q p hq)).mono ?_;intro e w6 he;obtain⟨T,nb,o2,rfl,qh,Vf,bA,AD⟩:=he;have m6:Av [] w5 w6:=m5.Ad qh;refine hK _ w6 (fun _=>⟨AU m6 c0,AU m6 c1,AU m6 c2⟩) ?_;clear hK;have kM:=ST5.Am.quiet m6;have hk6:A5 w6 _ ((nb,o2)::(E++F)):=⟨fun q p hq=>by
     rcases Pi.1 hq with h | h
     · cases h;exact Vf
     · exact(HK5.quiet m6).heap q p h,fun q p hq hl=>by
     rcases Pi.1 hq with h | h
     · cases h;exact UV (ST5.Am.lt _ hl) (Nat.not_lt.2 bA)
     · exact HK5.out.out q p h hl⟩
   have Ad2:=HFI.sub (E:=(nb,o2)::(E++F)) (fun _ h=>U _ h);have Ady:=AD ((nb,o2)::(E++F)) f.us (J ..) (HRI.sub fun _ h=>U _ h) (Hfo.st.sub fun _ h=>U _ (GT _ h));refine Ai rfl (fun K hK=> ?_);go_simp;refine(OL o.done T (i6 nb) w6 {g with fr:=fs} {x with Af:=os} LF Ae _ kM Ad2 Ady ⟨HB.cs,fun f hf=>HB.us f (by rw[Hfr.out];exact D _ hf),by have:=HB.fr;have:=Hnl.out;have:=Hn.out;show fs.length<=100;omega⟩).mono ?_;intro e w7 he;obtain⟨rfl,g',ow,gz,hf7⟩:=he;refine hK _ w7 (fun h=>UV rfl h) ?_;clear hK;simp only[BB];have AD:=KT.out;rw[F7 Hx.out (wv:=LF)] at AD;have t9:=AD.trans (ST5.trans ((Ak.quiet ST5.Am m6).trans gz));have k9:=hk6.step gz;have T9:=hid t9;have K9:=hid k9;have F9:=hid hf7;have HXB:=hid ow;clear t9 k9 hf7 ow gz Ady Ad2 hk6 kM AD bA Vf qh m6 m5 c0 c1 c2;go_wp2
   go_end0
   rw[hr.out];refine⟨rfl,g',_,LF,HXB,fun _ h=>U _ (GT _ h),?_,.of ⟨T9.Am,K9,F9⟩⟩;rw[F7 F9.out.ne];exact T9.out
theorem WW {w:ByteArray} (h0:¬bs w=AK) (h1:¬bs w=AE) (h2:¬bs w=Ey):x.row (w::r)=x.AL w r:=by
 show(if _ then _ else _)=_;rw[I h0,I h1,I h2]
theorem xT {y:qr} {w:ByteArray} (h:x.AL w r= .ok y):x.Aa≠[]:=by
 intro hx;cases hr:IA w r with
 | none=>rw[Ck hr] at h;cases h
 | some s=>rw[FM hr,EM hx] at h;cases h
theorem Aax {y:Nat} (hy:y∈[g.xb]):y∈PM g x wv Ae:=by
 unfold PM;split
 ·exact hy
 ·rw[Z] at hy;rw[hy];exact mcj
theorem PA.re {wv':Value} {line':Int} (h0:PA F g x wv Ae w0) (h1:b9 w g.xb (g.mR x) wv' line') (hm:Av [g.xb] w0 w):
  PA F g x wv' line' w/\Ak w0 (g.QX x wv Ae) w (g.QX x wv' line'):=by
 have st:Ak w0 (g.QX x wv Ae) w (g.QX x wv' line'):=by
  have ho:=h0.Am;by_cases hx:x.Aa=[]
  ·unfold FG.mR at h1;rw[In hx] at h1;rw[GO hx] at ho;rw[GO hx,GO hx];exact mbJ
  ·unfold FG.mR at h1;rw[I hx] at h1;rw[F7 hx] at ho;rw[F7 hx,F7 hx];exact mbJ
 exact⟨⟨st.Am,h0.AN.step st,h0.FB,h0.none⟩,st⟩
theorem WV (nm:ByteArray) (ws:Ws) (mb:Nat) (w:World) (g:FG) (x:qr) (wv:Value) (Ae:Int) (F:List (Nat×Obj)) (h:PA F g x wv Ae w) (hs:Sl w (fun b=>b≠g.xb) wv (A3 (nm::ws))) (hz:∀a,a∈ws->a.size<=1000000) (hg:Gl mb w) (JZ:g.xb∉Td mb) (hb:Xq g) (AD:0<=x.Ah/\x.Ah<=1000) (hk:¬bs nm=AK) (Iu:¬bs nm=AE) (Ss:¬bs nm=Ey):
  Calls prog 74 #[i6 g.xb] w (ZU (x.row (nm::ws)) F g x wv Ae w):=by
 have R00:=hid (Rd.start h.yi.px hs);have H:=hid h;have Hk:=hid hk;have q0:=An (x:=nm) (k:=AK) hk;unfold AK at q0;have q1:=An (x:=nm) (k:=AE) Iu;unfold AE at q1;have q2:=An (x:=nm) (k:=Ey) Ss;unfold Ey at q2;have Hro:=hid (WW (x:=x) (r:=ws) hk Iu Ss);have Hz:=hid hz;have Hg:=hid hg;have HX:=hid JZ;have HB:=hid hb;have HT:=hid AD;obtain⟨wv0,p0,s0⟩:=R00.px;have Hn:=hid (Je (nm::ws) _ g.xb _ wv0 Ae _ p0 s0 (fun h=>h.1 rfl));clear h hs hk p0 s0;clear hz hg JZ hb AD Iu Ss;go_enter func74,ntmps74;go_wp2_with fail;refine Hn.mono ?_;intro e w1 he;obtain⟨rfl,R1⟩:=R00.Eg (v:= .string nm) (l':=ws) he;have R:=hid R1;clear Hn he R1 R00;obtain⟨Mx,p1,s1⟩:=R.px;obtain⟨hP,xY⟩:=H.re p1 R.Bf;have Hs:=hid (WT nm ws mb w1 g x Mx Ae F _ hP.yi (s1.mono fun b _ hb=>hb.1) Hz (Hg.Bf R.Bf (fun b hb hm=>by rw[Z] at hm;rw[hm] at hb;exact HX.out hb)) HX HB HT);have KT:=hid xY;have XB:PM g x Mx Ae=PM g x wv Ae:=rfl;have HPM:=hid XB;have LD:=hid R.Bf;clear p1 s1 hP xY XB;go_wp2_with fail;refine Hs.mono ?_;intro e w2 he;cases hr:x.AL nm ws with
 | error c=>
  rw[hr] at he;obtain⟨⟨fb,rfl,hb⟩,hm⟩:=he;have Hr:=hid (Hro.trans hr);clear hr;go_wp2;rw[Hr.out];refine⟨rfl,⟨fb,rfl,hb⟩,?_⟩;exact(LD.mono (fun y hy=> .inl (Aax hy))).trans (HPM.out▸hm) (fun y hy=> .inl hy)
 | ok y=>
  rw[hr] at he;have Bi:=xT hr;have Ca:=zL Bi he;obtain⟨rfl,_⟩:=he;obtain⟨_,g',F',wv',h1,h2,h3,h4⟩:=Ca;have Hr:=hid (Hro.trans hr);have H1:=hid h1;have H2:=hid h2;have H3:=hid (KT.trans h3);have H4:=hid h4;clear hr Bi h1 h2 h3 h4;go_wp2
  go_end0
  rw[Hr.out];exact⟨rfl,g',F',wv',H1,H2,H3,H4⟩
theorem vi (l:Ws) (hl:l≠[]) (mb:Nat) (w:World) (g:FG) (x:qr) (wv:Value) (Ae:Int) (F:List (Nat×Obj)) (h:PA F g x wv Ae w) (hs:Sl w (fun b=>b≠g.xb) wv (A3 l)) (hz:∀a,a∈l->a.size<=1000000) (hg:Gl mb w) (JZ:g.xb∉Td mb) (hb:Xq g) (AD:0<=x.Ah/\x.Ah<=1000) (Db:0<=x.cells/\x.cells<=100000) (Ou:x.Aa.length<=3000) (Adt:g.tv.length<=3000):
  Calls prog 74 #[i6 g.xb] w (ZU (x.row l) F g x wv Ae w):=by
 cases l with
 | nil=>exact UV rfl hl
 | cons nm ws=>
  have hz':∀a,a∈ws->a.size<=1000000:=fun a ha=>hz a (U _ ha)
  by_cases h0:bs nm=AK
  ·exact WU nm ws mb w g x wv Ae F h hs hz' hg JZ Db Adt h0
  by_cases h1:bs nm=AE
  ·exact UI nm ws mb w g x wv Ae F h hs hb.fr Ou h1
  by_cases h2:bs nm=Ey
  ·exact bF nm ws mb w g x wv Ae F h hs hb h2
  exact WV nm ws mb w g x wv Ae F h hs hz' hg JZ hb AD h0 h1 h2
def Pw:Nat->Int
 | 0=>1
 | n+1=>4*Pw n
theorem O2 {d:Nat} (h:d<=3):Pw d<=64/\1<=Pw d:=by
 have:d=0\/d=1\/d=2\/d=3:=Y
 rcases this with rfl | rfl | rfl | rfl <;>decide
theorem OP {c:Int} (t:Bt):∀(d:Nat) (i:Bool) (n b o:Int),WF c t d i->d<=3->0<=n->n<=Pw d->Aq t n=some (b,o)->(0<=b/\b<=64*FH t)/\(0<=o/\o<=64*FH t):=by
 induction t with
 | nil=>intro d i n b o _ _ _ _ h;simp only[Aq,Option.some.injEq,Prod.mk.injEq] at h;obtain⟨rfl,rfl⟩:=h;simp[FH]
 | set v op x y r ih=>intro d i n b o hw hd h0 h1 h;have:=ih d i n b o hw.2.2.2.2 hd h0 h1 h;simp only[FH];omega
 | get v f s a r ih=>intro d i n b o hw hd h0 h1 h;have:=ih d i n b o hw.2.2.2.2 hd h0 h1 h;simp only[FH];omega
 | put f s a x r ih=>intro d i n b o hw hd h0 h1 h;have:=ih d i n b o hw.2.2.2.2 hd h0 h1 h;simp only[FH];omega
 | out a r ih=>
  intro d i n b o hw hd h0 h1 h;have hp:=O2 hd;simp only[Aq] at h;cases hr:Aq r n with
  | none=>rw[hr] at h;cases h
  | some q=>obtain⟨b2,o2⟩:=q;rw[hr] at h;simp only[Option.some.injEq,Prod.mk.injEq] at h;obtain⟨rfl,rfl⟩:=h;have:=ih d i n b2 o2 hw.2 hd h0 h1 hr;simp only[FH];omega
 | atomic bd r ib ih=>
  intro d i n b o hw hd h0 h1 h;have hp:=O2 hd;simp only[Aq] at h;cases hb:Aq bd 1 with
  | none=>rw[hb] at h;cases h
  | some q=>
   obtain⟨b1,o1⟩:=q;rw[hb] at h;simp only at h;by_cases h8:8 < o1
   ·rw[In h8] at h;cases h
   ·rw[I h8] at h;cases hr:Aq r n with
    | none=>rw[hr] at h;cases h
    | some q=>obtain⟨b2,o2⟩:=q;rw[hr] at h;simp only[Option.some.injEq,Prod.mk.injEq] at h;obtain⟨rfl,rfl⟩:=h;have:=ih d i n b2 o2 hw.2.2.2 hd h0 h1 hr;simp only[FH];omega
 | EA a bd r ib ih=>
  intro d i n b o hw hd h0 h1 h;simp only[Aq] at h;have X0:=hw.2.1;have hp:n<=Pw (d+1):=by have:=O2 hd;show n<=4*Pw d;omega
  cases hb:Aq bd n with
  | none=>rw[hb] at h;cases h
  | some q=>
   obtain⟨b1,o1⟩:=q;rw[hb] at h;simp only at h;cases hr:Aq r n with
   | none=>rw[hr] at h;cases h
   | some q=>
    obtain⟨b2,o2⟩:=q;rw[hr] at h;simp only[Option.some.injEq,Prod.mk.injEq] at h;obtain⟨rfl,rfl⟩:=h;have k1:=ib (d+1) i n b1 o1 hw.2.2.1 Y h0 hp hb;have:=ih d i n b2 o2 hw.2.2.2 hd h0 h1 hr;simp only[FH];omega
 | loop k bd r ib ih=>
  intro d i n b o hw hd h0 h1 h;simp only[Aq] at h;have X0:=hw.2.1;obtain⟨PG,hk4⟩:=hw.1;have WI:0<=n*k:=Qdq h0 Y;have hp:n*k<=Pw (d+1):=by
   show n*k<=4*Pw d
   calc n*k<=n*4:=Qco hk4 h0
    _<=4*Pw d:=Y
  cases hb:Aq bd (n*k) with
  | none=>rw[hb] at h;cases h
  | some q=>
   obtain⟨b1,o1⟩:=q;rw[hb] at h;simp only at h;cases hr:Aq r n with
   | none=>rw[hr] at h;cases h
   | some q=>
    obtain⟨b2,o2⟩:=q;rw[hr] at h;simp only[Option.some.injEq,Prod.mk.injEq] at h;obtain⟨rfl,rfl⟩:=h;have k1:=ib (d+1) i (n*k) b1 o1 hw.2.2.1 Y WI hp hb;have:=ih d i n b2 o2 hw.2.2.2 hd h0 h1 hr;simp only[FH];omega
end Go.Proofs.YtpdfifdlhpmofaaGreatDoor
