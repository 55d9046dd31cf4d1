/-
  Part 42 of the proof, packed by program out of C1.
-/
import Derived.Test.YtpdfifdlhpmofaaGreatDoorZ11
set_option linter.unusedVariables false
set_option linter.unusedSimpArgs false
set_option maxHeartbeats 3200000
set_option maxRecDepth 100000
namespace Go.Proofs.YtpdfifdlhpmofaaGreatDoor
open Go.Lib (hid)
inductive LI where
 | i (x:GI)
 | f (r:Int)
def LI.A5 (ab:Int):LI→GI
 | .i x=>x
 | .f r=> .jz (.r r) ab
def rz (ab:Int) (l:List LI):List GI:=l.map (LI.A5 ab)
theorem Vc (ab:Int) (l:List LI):(rz ab l).length=l.length:=by simp[rz]
theorem Vd (ab:Int) (l m:List LI):rz ab (l++m)=rz ab l++rz ab m:=by simp[rz]
def DX:Nat→List LI→List D8
 | _,[]=>[]
 | p,.i _::l=>DX (p+1) l
 | p,.f r::l=>⟨p,some (.r r)⟩::DX (p+1) l
theorem MD (l m:List LI):∀p,DX p (l++m)=DX p l++DX (p+l.length) m:=by
 induction l with
 | nil=>intro p;rfl
 | cons x l ih=>
  intro p;cases x with
  | i x=>simp only[List.cons_append,DX,ih,List.length_cons];rw[show p+1+l.length=p+(l.length+1) by omega]
  | f r=>simp only[List.cons_append,DX,ih,List.length_cons,List.cons_append];rw[show p+1+l.length=p+(l.length+1) by omega]
namespace GS
def ext (g:GS) (l:List LI):GS:={g with Af:=g.Af++rz 0 l,Be:=g.Be++DX g.Af.length l}
theorem VM (g:GS):g.ext []=g:=by simp[ext,rz,DX]
theorem Bm (g:GS) (l:List LI):(g.ext l).Af.length=g.Af.length+l.length:=by simp[ext,rz]
theorem A7 (g:GS) (l m:List LI):(g.ext l).ext m=g.ext (l++m):=by
 simp[ext,rz,MD]
theorem Bn (g:GS) (l:List LI):(g.ext l).Ah=g.Ah:=rfl
theorem Cq (g:GS) (i:GI):g.Aq i=g.ext [.i i]:=by simp[ext,rz,DX,Aq,LI.A5]
theorem FP (g:GS) (r:Int):g.B0 r=g.ext [.f r]:=by simp[ext,rz,DX,Aq,LI.A5,B0,An,Ex]
def C2 (a:Option Ag) (q:Int):GI:=match a with
 | none=> .Ga q
 | some a=> .jz a q
theorem MH (g:GS) (k:Nat) (a:Option Ag):g.AM ⟨k,a⟩={g with Af:=g.Af.set k (C2 a g.Af.length)}:=by
 unfold AM C2;cases a <;>rfl
theorem b9 (l:List LI):∀(p n:Nat) (x y:GI),l[n]?=some (.i x)→DX p (l.set n (.i y))=DX p l:=by
 induction l with
 | nil=>intro p n x y h;simp at h
 | cons z l ih=>
  intro p n x y h;cases n with
  | zero=>
   simp only[List.getElem?_cons_zero,Option.some.injEq] at h;subst h;rfl
  | succ n=>
   simp only[List.getElem?_cons_succ] at h;cases z with
   | i z=>simp only[List.set_cons_succ,DX];exact ih _ _ _ _ h
   | f r=>simp only[List.set_cons_succ,DX];rw[ih _ _ _ _ h]
theorem iR (g:GS) (l:List LI) (n:Nat) (a:Option Ag) (x:GI) (h:l[n]?=some (.i x)):(g.ext l).AM ⟨g.Af.length+n,a⟩=g.ext (l.set n (.i (C2 a (g.Af.length+l.length:Nat)))):=by
 rw[MH,Bm];unfold ext;rw[b9 l _ n x _ h];congr 1;rw[List.set_append_right _ _ (by omega)];simp[rz,List.map_set,LI.A5]
end GS
section
variable (Ah:Int)
def Ju (r:Int):List LI:=[.i (.op Ib 3 (.r r) (.n 1)),.i (.op GB 3 (.r 3) (.n 0)),.f 3,.i (.op Li 3 (.r r) (.n 1)),.i (.load 4 (.n (Ah+38)) 0),.i (.op D6 3 (.r 4) (.r 3)),.i (.op GB 3 (.r 3) (.n 0)),.f 3]
def F4 (a:At) (r:Int):List LI:=if a.AL then [.i (.load r (.n (Ah+a.v)) 0)] else []
def SK (p:Nat) (f s:Int) (A5:Ag):List LI:=[.i (.op D6 3 A5 (.n 0)),.i (.jz (.r 3) (p+3:Nat)),.i (.Eu 2),.i (.op D6 3 A5 (.n s)),.i (.op GB 3 (.r 3) (.n 0)),.i (.jz (.r 3) (p+7:Nat)),.i (.Eu 2),.i (.op Fk 0 A5 (.n f))]
def IT (p:Nat) (f s:Int) (a:At):List LI:=F4 Ah a 0++SK (p+(F4 Ah a 0).length) f s (GS.As a 0)
def Zg (p:Nat):List LI:=[.i (.load 1 (.r 0) (Ah+8)),.i (.jz (.r 1) (p+4:Nat)),.i (.load 1 (.r 0) (Ah+14)),.i (.Ga (p+18:Nat)),.i (.load 2 (.r 0) 8)]++Ju Ah 2++
 [.i (.load 1 (.r 0) 0),.i (.load 3 (.r 0) 8),.i (.op GB 3 (.r 3) (.r 2)),.f 3,.i (.store (.r 0) (Ah+20) (.n 1))]
def PZ (c p:Nat):List LI:=[.i (.load 1 (.n (Ah+(8+c))) 0),.i (.jz (.r 1) (p+16:Nat)),.i (.load 2 (.n (8+c)) 0)]++Ju Ah 2++
 [.i (.op PY 3 (.r 2) (.n 1)),.i (.LL 3 (.n (8+c)) 0 (.r 2) (.r 3)),.f 3,.i (.store (.n (Ah+(26+c))) 0 (.n 1)),.i (.store (.n (Ah+(32+c))) 0 (.r 2))]
def RN (c p:Nat):List LI:=[.i (.load 1 (.n (Ah+(20+c))) 0),.i (.jz (.r 1) (p+14:Nat)),.i (.load 1 (.n (Ah+(26+c))) 0),.i (.jz (.r 1) (p+5:Nat)),.i (.Ga (p+14:Nat)),.i (.load 2 (.n (8+c)) 0)]++Ju Ah 2
def YD (c p:Nat):List LI:=[.i (.load 1 (.n (Ah+(8+c))) 0),.i (.jz (.r 1) (p+4:Nat)),.i (.load 2 (.n (Ah+(14+c))) 0),.i (.store (.n c) 0 (.r 2))]
def SA (c p:Nat):List LI:=[.i (.load 1 (.n (Ah+(8+c))) 0),.i (.jz (.r 1) (p+3:Nat)),.i (.store (.n (8+c)) 0 (.r 5))]
def Qk (c p:Nat):List LI:=[.i (.load 1 (.n (Ah+(26+c))) 0),.i (.jz (.r 1) (p+4:Nat)),.i (.load 2 (.n (Ah+(32+c))) 0),.i (.store (.n (8+c)) 0 (.r 2))]
def P2 (c:Nat) (_:Nat):List LI:=[.i (.load 1 (.n (Ah+(4+c))) 0),.i (.store (.n (Ah+c)) 0 (.r 1))]
def N9 (c:Nat) (_:Nat):List LI:=[.i (.load 1 (.n (Ah+c)) 0),.i (.store (.n (Ah+(4+c))) 0 (.r 1))]
def Mk (c:Nat) (_:Nat):List LI:=[.i (.store (.n (Ah+(8+c))) 0 (.n 0)),.i (.store (.n (Ah+(20+c))) 0 (.n 0)),.i (.store (.n (Ah+(26+c))) 0 (.n 0))]
def TN (p:Nat):List LI:=[.i (.J9 1 (.n 0)),.i (.load 2 (.n (Ah+39)) 0),.i (.op D6 2 (.r 1) (.r 2)),.i (.jz (.r 2) (p+8:Nat)),.i (.load 2 (.r 1) (Ah+40)),.i (.out (.r 2)),.i (.op Fk 1 (.r 1) (.n 1)),.i (.Ga (p+1:Nat))]
def F7 (f:Nat→Nat→List LI):Nat→Nat→List LI
 | 0,_=>[]
 | n+1,p=>F7 f n p++f n (p+(F7 f n p).length)
def jf:List LI:=[.i (.GL 5 (.n 16) 0 (.n 1)),.i (.op Fk 5 (.r 5) (.n 1)),.i (.op Tr 5 (.r 5) (.n 1))]
def Jb (n p:Nat):List LI:=
 let l1:=F7 (PZ Ah) n p++jf
 let l2:=l1++F7 (RN Ah) n (p+l1.length)
 let l3:=l2++F7 (YD Ah) n (p+l2.length)
 l3++F7 (SA Ah) n (p+l3.length)
def Wq (v:Int) (op:ByteArray) (a b:At):List LI:=
 if op.size=0 then F4 Ah a 1++[.i (.store (.n (Ah+v)) 0 (GS.As a 1))]
 else F4 Ah a 1++F4 Ah b 2++[.i (.op op 1 (GS.As a 1) (GS.As b 2)),.i (.store (.n (Ah+v)) 0 (.r 1))]
def WJ (AP:Bool) (a:At):List LI:=
 F4 Ah a 1++(if AP then [.i (.load 2 (.n (Ah+39)) 0),.i (.store (.r 2) (Ah+40) (GS.As a 1)),.i (.op Fk 2 (.r 2) (.n 1)),.i (.store (.n (Ah+39)) 0 (.r 2))] else [.i (.out (GS.As a 1))])
def Q8 (n:Nat) (p:Nat):List LI:=F7 (Mk Ah) n p++[.i (.store (.n (Ah+39)) 0 (.n 0)),.i (.load 1 (.n 16) 0),.i (.store (.n (Ah+38)) 0 (.r 1))]
def Xu (n:Nat) (Cu:Bool) (p:Nat):List LI:=(if Cu then Jb Ah n p else [])++TN Ah (p+(if Cu then Jb Ah n p else []).length)
def J2 (n top p:Nat):List LI:=F7 (Qk Ah) n p++F7 (P2 Ah) 4 (p+(F7 (Qk Ah) n p).length)++[.i (.Ga top)]
def KR (n:Nat):Bool→Nat→Nat→Ck→List LI
 | _,_,_,.nil=>[]
 | AP,Aj,p,.set v op a b r=>Wq Ah v op a b++KR n AP Aj (p+(Wq Ah v op a b).length) r
 | AP,Aj,p,.get v f s a r=>
  let c:=IT Ah p f s a
  let c:=c++Zg Ah (p+c.length)++[.i (.store (.n (Ah+v)) 0 (.r 1))]
  c++KR n AP Aj (p+c.length) r
 | AP,Aj,p,.put f s i a r=>
  let c:=IT Ah p f s i++F4 Ah a 1++[.i (.store (.r 0) (Ah+14) (GS.As a 1)),.i (.store (.r 0) (Ah+8) (.n 1))]
  c++KR n AP Aj (p+c.length) r
 | AP,Aj,p,.out a r=>WJ Ah AP a++KR n AP Aj (p+(WJ Ah AP a).length) r
 | AP,Aj,p,.ES a b r=>
  let v:=F4 Ah a 1
  let B:=KR n AP Aj (p+v.length+1) b
  let c:=v++ .i (.jz (GS.As a 1) (p+v.length+1+B.length:Nat))::B
  c++KR n AP Aj (p+c.length) r
 | AP,Aj,p,.loop k b r=>
  let B:=KR n AP (Aj+1) (p+1) b
  let c:= .i (.store (.n (Ah+(48+Aj))) 0 (.n k))::B++[.i (.load 1 (.n (Ah+(48+Aj))) 0),.i (.op Dx 1 (.r 1) (.n 1)),.i (.store (.n (Ah+(48+Aj))) 0 (.r 1)),.i (.jz (.r 1) (p+1+B.length+5:Nat)),.i (.Ga (p+1:Nat))]
  c++KR n AP Aj (p+c.length) r
 | AP,Aj,p,.atomic b r=>
  let top:=p+8
  let t:=Q8 Ah n top
  let B:=KR n true Aj (top+t.length) b
  let m:=t++B++Xu Ah n (Du b) (top+t.length+B.length)
  let q:=top+m.length+1
  let k:=J2 Ah n top q
  let c:=F7 (N9 Ah) 4 p++(rz q m).map LI.i++ .i (.Ga (q+k.length:Nat))::k
  c++KR n AP Aj (p+c.length) r
end
def uO:Option LI→Bool
 | some (.i _)=>true
 | _=>false
namespace GS
theorem BU (g:GS) (l:List LI) (n:Nat) (a:Option Ag) (h:uO l[n]?=true):(g.ext l).AM ⟨g.Af.length+n,a⟩=g.ext (l.set n (.i (C2 a (g.Af.length+l.length:Nat)))):=by
 cases hl:l[n]? with
 | none=>rw[hl] at h;cases h
 | some x=>
  cases x with
  | i x=>exact iR g l n a x hl
  | f r=>rw[hl] at h;cases h
theorem JY (g:GS) (l:D8):(g.AM l).Af.length=g.Af.length:=by cases l;rw[MH];simp
theorem IC (g:GS) (l:D8):(g.AM l).Ah=g.Ah:=rfl
theorem GA (g:GS) (r:Int):g.BI r=g.ext (Ju g.Ah r):=by
 simp only[BI,A2,lo,Cq,FP,A7,Bn,List.cons_append,List.nil_append,Ju]
theorem Iu (g:GS) (a:At) (r:Int):g.AH a r=g.ext (F4 g.Ah a r):=by
 unfold AH F4 lo;split
 ·rw[Cq]
 ·rw[VM]
theorem UM (g:GS) (f s:Int) (a:At):g.Cz f s a=g.ext (IT g.Ah g.Af.length f s a):=by
 unfold Cz IT;simp only[Iu];rw[←A7,←Bm];generalize g.ext (F4 g.Ah a 0)=g;generalize As a 0=x;simp only[Ex,An,O5,Bc,A2,Bj,C7,lo,st,Fj,HJ,Cq,GA,FP,A7,Bm,Bn,Nat.add_assoc,JY,IC,List.cons_append,List.nil_append,List.length_cons,List.length_nil,Ju];rw[BU _ _ _ _ rfl];try simp only[A7,Bm,Bn,Nat.add_assoc,List.cons_append,List.nil_append,List.set_cons_succ,List.set_cons_zero,List.length_cons,List.length_nil,List.length_set]
 try rw[BU _ _ _ _ rfl]
 try simp only[A7,Bm,Bn,Nat.add_assoc,List.cons_append,List.nil_append,List.set_cons_succ,List.set_cons_zero,List.length_cons,List.length_nil,List.length_set]
 try rw[BU _ _ _ _ rfl]
 rfl
theorem iI (g:GS):g.KD=g.ext (Zg g.Ah g.Af.length):=by
 unfold KD;simp only[Ex,An,O5,Bc,A2,Bj,C7,lo,st,Fj,HJ,Cq,GA,FP,A7,Bm,Bn,Nat.add_assoc,JY,IC,List.cons_append,List.nil_append,List.length_cons,List.length_nil,Ju];rw[BU _ _ _ _ rfl];try simp only[A7,Bm,Bn,Nat.add_assoc,List.cons_append,List.nil_append,List.set_cons_succ,List.set_cons_zero,List.length_cons,List.length_nil,List.length_set]
 try rw[BU _ _ _ _ rfl]
 try simp only[A7,Bm,Bn,Nat.add_assoc,List.cons_append,List.nil_append,List.set_cons_succ,List.set_cons_zero,List.length_cons,List.length_nil,List.length_set]
 try rw[BU _ _ _ _ rfl]
 rfl
theorem cj (g:GS) (c:Nat):GD c g=g.ext (PZ g.Ah c g.Af.length):=by
 unfold GD GQ N6;simp only[Ex,An,O5,Bc,A2,Bj,C7,lo,st,Fj,HJ,Cq,GA,FP,A7,Bm,Bn,Nat.add_assoc,JY,IC,List.cons_append,List.nil_append,List.length_cons,List.length_nil,Ju];rw[BU _ _ _ _ rfl];try simp only[A7,Bm,Bn,Nat.add_assoc,List.cons_append,List.nil_append,List.set_cons_succ,List.set_cons_zero,List.length_cons,List.length_nil,List.length_set]
 try rw[BU _ _ _ _ rfl]
 try simp only[A7,Bm,Bn,Nat.add_assoc,List.cons_append,List.nil_append,List.set_cons_succ,List.set_cons_zero,List.length_cons,List.length_nil,List.length_set]
 try rw[BU _ _ _ _ rfl]
 rfl
theorem cg (g:GS) (c:Nat):GC c g=g.ext (RN g.Ah c g.Af.length):=by
 unfold GC GQ N6;simp only[Ex,An,O5,Bc,A2,Bj,C7,lo,st,Fj,HJ,Cq,GA,FP,A7,Bm,Bn,Nat.add_assoc,JY,IC,List.cons_append,List.nil_append,List.length_cons,List.length_nil,Ju];rw[BU _ _ _ _ rfl];try simp only[A7,Bm,Bn,Nat.add_assoc,List.cons_append,List.nil_append,List.set_cons_succ,List.set_cons_zero,List.length_cons,List.length_nil,List.length_set]
 try rw[BU _ _ _ _ rfl]
 try simp only[A7,Bm,Bn,Nat.add_assoc,List.cons_append,List.nil_append,List.set_cons_succ,List.set_cons_zero,List.length_cons,List.length_nil,List.length_set]
 try rw[BU _ _ _ _ rfl]
 rfl
theorem fq (g:GS) (c:Nat):Le c g=g.ext (YD g.Ah c g.Af.length):=by
 unfold Le GQ N6;simp only[Ex,An,O5,Bc,A2,Bj,C7,lo,st,Fj,HJ,Cq,GA,FP,A7,Bm,Bn,Nat.add_assoc,JY,IC,List.cons_append,List.nil_append,List.length_cons,List.length_nil,Ju];rw[BU _ _ _ _ rfl];try simp only[A7,Bm,Bn,Nat.add_assoc,List.cons_append,List.nil_append,List.set_cons_succ,List.set_cons_zero,List.length_cons,List.length_nil,List.length_set]
 try rw[BU _ _ _ _ rfl]
 try simp only[A7,Bm,Bn,Nat.add_assoc,List.cons_append,List.nil_append,List.set_cons_succ,List.set_cons_zero,List.length_cons,List.length_nil,List.length_set]
 try rw[BU _ _ _ _ rfl]
 rfl
theorem dj (g:GS) (c:Nat):GY c g=g.ext (SA g.Ah c g.Af.length):=by
 unfold GY GQ N6;simp only[Ex,An,O5,Bc,A2,Bj,C7,lo,st,Fj,HJ,Cq,GA,FP,A7,Bm,Bn,Nat.add_assoc,JY,IC,List.cons_append,List.nil_append,List.length_cons,List.length_nil,Ju];rw[BU _ _ _ _ rfl];try simp only[A7,Bm,Bn,Nat.add_assoc,List.cons_append,List.nil_append,List.set_cons_succ,List.set_cons_zero,List.length_cons,List.length_nil,List.length_set]
 try rw[BU _ _ _ _ rfl]
 try simp only[A7,Bm,Bn,Nat.add_assoc,List.cons_append,List.nil_append,List.set_cons_succ,List.set_cons_zero,List.length_cons,List.length_nil,List.length_set]
 try rw[BU _ _ _ _ rfl]
 rfl
theorem dC (g:GS) (c:Nat):IU c g=g.ext (Qk g.Ah c g.Af.length):=by
 unfold IU;simp only[Ex,An,O5,Bc,A2,Bj,C7,lo,st,Fj,HJ,Cq,GA,FP,A7,Bm,Bn,Nat.add_assoc,JY,IC,List.cons_append,List.nil_append,List.length_cons,List.length_nil,Ju];rw[BU _ _ _ _ rfl];try simp only[A7,Bm,Bn,Nat.add_assoc,List.cons_append,List.nil_append,List.set_cons_succ,List.set_cons_zero,List.length_cons,List.length_nil,List.length_set]
 try rw[BU _ _ _ _ rfl]
 try simp only[A7,Bm,Bn,Nat.add_assoc,List.cons_append,List.nil_append,List.set_cons_succ,List.set_cons_zero,List.length_cons,List.length_nil,List.length_set]
 try rw[BU _ _ _ _ rfl]
 rfl
theorem cy (g:GS) (c:Nat):IQ c g=g.ext (P2 g.Ah c g.Af.length):=by
 unfold IQ P2 lo st;simp only[Cq,A7,Bn,List.cons_append,List.nil_append]
theorem bB (g:GS) (c:Nat):FR c g=g.ext (N9 g.Ah c g.Af.length):=by
 unfold FR N9 lo st;simp only[Cq,A7,Bn,List.cons_append,List.nil_append]
theorem Zy (g:GS) (c:Nat):D3 c g=g.ext (Mk g.Ah c g.Af.length):=by
 unfold D3 Mk st;simp only[Cq,A7,Bn,List.cons_append,List.nil_append]
theorem Wg (g:GS):g.G0=g.ext (TN g.Ah g.Af.length):=by
 unfold G0;simp only[Ex,An,O5,Bc,A2,Bj,C7,lo,st,Fj,HJ,Cq,GA,FP,A7,Bm,Bn,Nat.add_assoc,JY,IC,List.cons_append,List.nil_append,List.length_cons,List.length_nil,Ju];rw[BU _ _ _ _ rfl];try simp only[A7,Bm,Bn,Nat.add_assoc,List.cons_append,List.nil_append,List.set_cons_succ,List.set_cons_zero,List.length_cons,List.length_nil,List.length_set]
 try rw[BU _ _ _ _ rfl]
 try simp only[A7,Bm,Bn,Nat.add_assoc,List.cons_append,List.nil_append,List.set_cons_succ,List.set_cons_zero,List.length_cons,List.length_nil,List.length_set]
 try rw[BU _ _ _ _ rfl]
 rfl
theorem JU (f:Nat→GS→GS) (fl:Int→Nat→Nat→List LI) (h:∀c g,f c g=g.ext (fl g.Ah c g.Af.length)) (n:Nat) (g:GS):EO f n g=g.ext (F7 (fl g.Ah) n g.Af.length):=by
 induction n with
 | zero=>simp only[EO,F7,VM]
 | succ n ih=>simp only[EO,F7];rw[ih,h,Bn,Bm,A7]
theorem NK (g:GS):g.EM=g.ext (Jb g.Ah g.cells.toNat g.Af.length):=by
 unfold EM Jb;simp only[JU GD PZ fun c g=>cj g c,A2,Cq,A7,JU GC RN fun c g=>cg g c,JU Le YD fun c g=>fq g c,JU GY SA fun c g=>dj g c,Bn,Bm,jf,List.append_assoc,List.cons_append,List.nil_append,List.length_append,List.length_cons,List.length_nil,Nat.add_assoc]
theorem jj (g:GS) (top:Nat):g.Ke top=g.ext (J2 g.Ah g.cells.toNat top g.Af.length):=by
 unfold Ke J2;simp only[JU IU Qk fun c g=>dC g c,JU IQ P2 fun c g=>cy g c,Cq,A7,Bn,Bm,List.append_assoc]
theorem cT (g:GS) (pre:List GI) (l:List LI) (post:List GI) (B:Nat):∀(done:List LI) (_:g.Af=pre++(rz B done++rz 0 l)++post) (_:B=g.Af.length),
  ((DX (pre.length+done.length) l).foldl AM g).Af=pre++(rz B done++rz B l)++post:=by
 induction l generalizing g with
 | nil=>intro done h _;simpa[DX,rz] using h
 | cons x l ih=>
  intro done h hB;cases x with
  | i x=>
   simp only[DX];have:=ih g (done++[.i x]) (by rw[h];simp[rz,LI.A5]) hB;simp only[List.length_append,List.length_cons,List.length_nil] at this;rw[show pre.length+done.length+1=pre.length+(done.length+(0+1)) by omega,this];simp[rz,LI.A5]
  | f r=>
   simp only[DX,List.foldl_cons];have e:g.AM ⟨pre.length+done.length,some (.r r)⟩={g with Af:=pre++(rz B (done++[.f r])++rz 0 l)++post}:=by
    rw[MH];congr 1;rw[h];rw[List.append_assoc,List.append_assoc,List.set_append_right _ _ (by omega),Nat.add_sub_cancel_left,List.set_append_right _ _ (by simp[rz]),Vc,Nat.sub_self];rw[h,List.append_assoc,List.append_assoc] at hB;rw[←hB];simp[rz,LI.A5,C2]
   rw[e];have:=ih {g with Af:=pre++(rz B (done++[.f r])++rz 0 l)++post} (done++[.f r]) rfl (by
     rw[hB,h];simp[rz])
   simp only[List.length_append,List.length_cons,List.length_nil] at this;rw[show pre.length+done.length+1=pre.length+(done.length+(0+1)) by omega,this];simp[rz,LI.A5]
theorem Y9 (l:List D8) (g:GS):(l.foldl AM g).Ah=g.Ah∧(l.foldl AM g).cells=g.cells∧(l.foldl AM g).block=g.block∧(l.foldl AM g).Aj=g.Aj:=by
 induction l generalizing g with
 | nil=>exact⟨rfl,rfl,rfl,rfl⟩
 | cons a r ih=>rw[List.foldl_cons];exact ih _
end GS
def NO:Ck→Bool→Prop
 | .nil,_=>True
 | .set _ _ _ _ r,i=>NO r i
 | .get _ _ _ _ r,i=>NO r i
 | .put _ _ _ _ r,i=>NO r i
 | .out _ r,i=>NO r i
 | .atomic b r,i=>i=false∧NO b true∧NO r i
 | .ES _ b r,i=>NO b i∧NO r i
 | .loop _ b r,i=>NO b i∧NO r i
structure Sm (AP:Bool) (a b:GS):Prop where
 Af:a.Af=b.Af
 Ah:a.Ah=b.Ah
 cells:a.cells=b.cells
 block:a.block=b.block
 Aj:a.Aj=b.Aj
 Be:AP=true→a.Be=b.Be
theorem Sm.refl (AP:Bool) (a:GS):Sm AP a a:=⟨rfl,rfl,rfl,rfl,rfl,fun _=>rfl⟩
theorem Sm.trans {AP:Bool} {a b c:GS} (h:Sm AP a b) (k:Sm AP b c):Sm AP a c:=
 ⟨h.1.trans k.1,h.2.trans k.2,h.3.trans k.3,h.4.trans k.4,h.5.trans k.5,fun e=>(h.6 e).trans (k.6 e)⟩
theorem Sm.ext {AP:Bool} {a b:GS} (h:Sm AP a b) (l:List LI):Sm AP (a.ext l) (b.ext l):=
 ⟨by simp[GS.ext,h.Af],h.Ah,h.cells,h.block,h.Aj,fun e=>by simp[GS.ext,h.Af,h.Be e]⟩
theorem Sm.AM {AP:Bool} {a b:GS} (h:Sm AP a b) (l:D8):Sm AP (a.AM l) (b.AM l):=by
 cases l with
 | mk k x=>
  rw[GS.MH,GS.MH];exact⟨by simp[h.Af],h.Ah,h.cells,h.block,h.Aj,h.Be⟩
theorem Sm.of_eq {AP:Bool} {a b:GS} (h:a=b):Sm AP a b:=h▸Sm.refl AP a
theorem kM (v B:List LI) (x:GI):uO (v++ .i x::B)[v.length]?=true:=by simp[uO]
theorem fV (v B:List LI) (x y:LI):(v++x::B).set v.length y=v++y::B:=by simp
theorem eS (ab:Int) (l:List GI):rz ab (l.map LI.i)=l:=by
 induction l with
 | nil=>rfl
 | cons a r ih=>simp only[List.map_cons,rz,LI.A5] at ih⊢;rw[ih]
theorem fj (f:Nat→Nat→List LI) (hf:∀c p q,DX q (f c p)=[]) (n:Nat):∀p q,DX q (F7 f n p)=[]:=by
 induction n with
 | zero=>intro p q;rfl
 | succ n ih=>intro p q;simp only[F7,MD,ih,hf,List.append_nil]
theorem ey (Ah:Int) (n p q:Nat):DX q (Q8 Ah n p)=[]:=by
 unfold Q8;rw[MD,fj _ (fun _ _ _=>rfl)];rfl
theorem ju (g:GS):g.NM=({g with block:=true,Be:=[]}:GS).ext (Q8 g.Ah g.cells.toNat g.Af.length):=by
 unfold GS.NM;simp only[GS.JU GS.D3 Mk fun c g=>GS.Zy g c,GS.st,GS.C7,GS.Cq,GS.A7,GS.Bn];unfold GS.ext;rw[ey];simp only[Q8,List.append_assoc,List.append_nil];rfl
theorem eQ (g:GS) (v:Int) (op:ByteArray) (a b:At):(if op.size=0 then (g.AH a 1).st v (GS.As a 1) else ((((g.AH a 1).AH b 2).A2 op 1 (GS.As a 1) (GS.As b 2)).st v (.r 1)))=g.ext (Wq g.Ah v op a b):=by
 unfold Wq;split
 ·simp only[GS.Iu,GS.st,GS.Cq,GS.A7,GS.Bn]
 ·simp only[GS.Iu,GS.A2,GS.st,GS.Cq,GS.A7,GS.Bn,List.append_assoc,List.cons_append,List.nil_append]
theorem fx (g:GS) (a:At):(if g.block then ((((g.AH a 1).lo 2 39).Fj 40 2 (GS.As a 1)).A2 Fk 2 (.r 2) (.n 1)).st 39 (.r 2) else (g.AH a 1).Aq (.out (GS.As a 1)))=g.ext (WJ g.Ah g.block a):=by
 unfold WJ;split
 ·simp only[GS.Iu,GS.A2,GS.st,GS.lo,GS.Fj,GS.Cq,GS.A7,GS.Bn,List.append_assoc,List.cons_append,List.nil_append]
 ·simp only[GS.Iu,GS.Cq,GS.A7]
theorem iV (g:GS) (p:Bool):(if p then g.EM else g).G0=g.ext (Xu g.Ah g.cells.toNat p g.Af.length):=by
 unfold Xu;cases p with
 | true=>simp only[if_true,GS.NK,GS.Wg,GS.A7,GS.Bn,GS.Bm]
 | false=>simp only[Bool.false_eq_true,if_false,GS.Wg,List.nil_append,List.length_nil,Nat.add_zero]
theorem dL (g:GS) (pre:List GI) (m0:List LI) (top:Nat) (Cu:Bool) (hc:g.Af=pre++rz 0 m0) (ha:g.Be=DX pre.length m0):
  let m:=m0++Xu g.Ah g.cells.toNat Cu (pre.length+m0.length)
  let q:=pre.length+m.length+1
  let k:=J2 g.Ah g.cells.toNat top q
  (g.Lv top Cu).Af=pre++rz q m++ .Ga (q+k.length:Nat)::rz 0 k∧(g.Lv top Cu).Ah=g.Ah∧(g.Lv top Cu).cells=g.cells∧(g.Lv top Cu).block=false∧(g.Lv top Cu).Aj=g.Aj:=by
 intro m q k;have e0:(if Cu then ({g with block:=false}:GS).EM else {g with block:=false}).G0={({g with block:=false}:GS) with Af:=pre++rz 0 m,Be:=DX pre.length m}:=by
  rw[iV];unfold GS.ext;simp only[hc,ha];have:(pre++rz 0 m0).length=pre.length+m0.length:=by simp[rz]
  simp only[this,m,Vd,MD,List.append_assoc]
 have e1:g.Lv top Cu=((((DX pre.length m).foldl GS.AM ({({g with block:=false}:GS) with Af:=pre++rz 0 m++[.Ga 0],Be:=DX pre.length m})).Ke top).AM ⟨pre.length+m.length,none⟩):=by
  unfold GS.Lv;simp only[];rw[e0];have:(pre++rz 0 m).length=pre.length+m.length:=by simp[rz]
  simp only[GS.Bc,GS.Aq,GS.O5,this]
 rw[e1];have h1:=GS.cT ({({g with block:=false}:GS) with Af:=pre++rz 0 m++[.Ga 0],Be:=DX pre.length m}) pre m [.Ga 0] q [] (by simp[rz]) (by simp[rz,q];omega);have h2:=GS.Y9 (DX pre.length m) ({({g with block:=false}:GS) with Af:=pre++rz 0 m++[.Ga 0],Be:=DX pre.length m});simp only[List.length_nil,Nat.add_zero] at h1;obtain⟨b1,b2,b3,b4⟩:=h2;generalize (DX pre.length m).foldl GS.AM ({({g with block:=false}:GS) with Af:=pre++rz 0 m++[.Ga 0],Be:=DX pre.length m})=g1 at h1 b1 b2 b3 b4⊢;have hl:g1.Af.length=q:=by rw[h1];simp[rz,q];omega
 rw[GS.jj,GS.MH];refine⟨?_,b1,b2,b3,b4⟩;show(g1.ext _).Af.set _ (GS.C2 none _)=_;rw[GS.Bm];unfold GS.ext;simp only[hl];rw[b1,b2];show(g1.Af++rz 0 k).set _ (GS.C2 none _)=_;rw[h1];have e3:rz (↑q) []=([]:List GI):=rfl;rw[e3,List.nil_append,List.append_assoc,List.append_assoc,List.set_append_right _ _ (by omega),Nat.add_sub_cancel_left,List.set_append_right _ _ (by simp[rz]),Vc,Nat.sub_self];simp only[List.cons_append,List.nil_append,List.set_cons_zero,List.append_assoc,GS.C2];rfl
theorem kh (Ah:Int) (n:Nat) (t:Ck):∀(AP:Bool) (Aj:Nat) (G:GS),NO t AP→G.block=AP→G.cells.toNat=n→G.Ah=Ah→G.Aj=Aj→
  Sm AP (GS.BX t G) (G.ext (KR Ah n AP Aj G.Af.length t)):=by
 induction t with
 | nil=>intro AP Aj G _ _ _ _ _;simp only[GS.BX,KR,GS.VM];exact Sm.refl _ _
 | set v op a b r ih=>
  intro AP Aj G hn hb hc Qe hd;have e:=eQ G v op a b;have h:=ih AP Aj (G.ext (Wq G.Ah v op a b)) hn hb hc Qe hd;rw[GS.A7,GS.Bm] at h;subst Qe;simp only[KR];have e2:GS.BX (.set v op a b r) G=GS.BX r (G.ext (Wq G.Ah v op a b)):=by rw[←e];rfl
  rw[e2];exact h
 | get v f s a r ih=>
  intro AP Aj G hn hb hc Qe hd;subst Qe;have e:((G.Cz f s a).KD).st v (.r 1)=G.ext (IT G.Ah G.Af.length f s a++Zg G.Ah (G.Af.length+(IT G.Ah G.Af.length f s a).length)++[.i (.store (.n (G.Ah+v)) 0 (.r 1))]):=by
   simp only[GS.UM,GS.iI,GS.st,GS.Cq,GS.A7,GS.Bn,GS.Bm]
  have h:=ih AP Aj _ hn (show(G.ext (IT G.Ah G.Af.length f s a++Zg G.Ah (G.Af.length+(IT G.Ah G.Af.length f s a).length)++[.i (.store (.n (G.Ah+v)) 0 (.r 1))])).block=AP from hb) hc rfl hd;rw[GS.A7,GS.Bm] at h;simp only[KR,GS.BX];rw[e];exact h
 | put f s i a r ih=>
  intro AP Aj G hn hb hc Qe hd;subst Qe;have e:(((G.Cz f s i).AH a 1).Fj 14 0 (GS.As a 1)).Fj 8 0 (.n 1)=G.ext (IT G.Ah G.Af.length f s i++F4 G.Ah a 1++[.i (.store (.r 0) (G.Ah+14) (GS.As a 1)),.i (.store (.r 0) (G.Ah+8) (.n 1))]):=by
   simp only[GS.UM,GS.Iu,GS.Fj,GS.Cq,GS.A7,GS.Bn,GS.Bm,List.append_assoc,List.cons_append,List.nil_append]
  have h:=ih AP Aj _ hn (show(G.ext (IT G.Ah G.Af.length f s i++F4 G.Ah a 1++[.i (.store (.r 0) (G.Ah+14) (GS.As a 1)),.i (.store (.r 0) (G.Ah+8) (.n 1))])).block=AP from hb) hc rfl hd;rw[GS.A7,GS.Bm] at h;simp only[KR,GS.BX];rw[e];exact h
 | out a r ih=>
  intro AP Aj G hn hb hc Qe hd;subst Qe;subst hb;have e:=fx G a;have h:=ih G.block Aj (G.ext (WJ G.Ah G.block a)) hn rfl hc rfl hd;rw[GS.A7,GS.Bm] at h;simp only[KR];have e2:GS.BX (.out a r) G=GS.BX r (G.ext (WJ G.Ah G.block a)):=by rw[←e];rfl
  rw[e2];exact h
 | ES a b r ib ih=>
  intro AP Aj G hn hb hc Qe hd;subst Qe;have e:(G.AH a 1).An (GS.As a 1)=G.ext (F4 G.Ah a 1++[.i (.jz (GS.As a 1) 0)]):=by
   simp only[GS.Iu,GS.An,GS.Cq,GS.A7]
  have e':(G.AH a 1).Ex (GS.As a 1)=⟨G.Af.length+(F4 G.Ah a 1).length,some (GS.As a 1)⟩:=by
   simp only[GS.Iu,GS.Ex,GS.Bm]
  have h:=ib AP Aj (G.ext (F4 G.Ah a 1++[.i (.jz (GS.As a 1) 0)])) hn.1 hb hc rfl hd;rw[GS.A7,GS.Bm] at h;simp only[List.length_append,List.length_cons,List.length_nil,Nat.zero_add,←Nat.add_assoc] at h;generalize hB:KR G.Ah n AP Aj (G.Af.length+(F4 G.Ah a 1).length+1) b=B at h;have h2:=h.AM ⟨G.Af.length+(F4 G.Ah a 1).length,some (GS.As a 1)⟩;rw[List.append_assoc,List.cons_append,List.nil_append,GS.BU _ _ _ _ (kM _ _ _),fV] at h2;have e3:GS.BX (.ES a b r) G=GS.BX r ((GS.BX b (G.ext (F4 G.Ah a 1++[.i (.jz (GS.As a 1) 0)]))).AM ⟨G.Af.length+(F4 G.Ah a 1).length,some (GS.As a 1)⟩):=by
   rw[←e,←e'];rfl
  rw[e3];generalize (GS.BX b (G.ext (F4 G.Ah a 1++[.i (.jz (GS.As a 1) 0)]))).AM ⟨G.Af.length+(F4 G.Ah a 1).length,some (GS.As a 1)⟩=g3 at h2;have h3:=ih AP Aj g3 hn.2 (h2.block.trans hb) (by rw[h2.cells];exact hc) h2.Ah (h2.Aj.trans hd);refine h3.trans ?_;have h4:=h2.ext (KR G.Ah n AP Aj g3.Af.length r);refine h4.trans (Sm.of_eq ?_);rw[GS.A7,h2.Af,GS.Bm];simp only[KR,hB];congr 1;simp only[GS.C2,List.length_append,List.length_cons,List.append_assoc,List.cons_append];rw[show G.Af.length+((F4 G.Ah a 1).length+(B.length+1))=G.Af.length+(F4 G.Ah a 1).length+1+B.length by omega]
 | loop k b r ib ih=>
  intro AP Aj G hn hb hc Qe hd;subst Qe;have e:G.st (48+G.Aj) (.n k)=G.ext [.i (.store (.n (G.Ah+(48+Aj))) 0 (.n k))]:=by simp only[GS.st,GS.Cq,hd]
  have h:=ib AP (Aj+1) {(G.ext [.i (.store (.n (G.Ah+(48+Aj))) 0 (.n k))]) with Aj:=G.Aj+1} hn.1 hb hc rfl (by rw[hd];simp);have JD:({(G.ext [.i (.store (.n (G.Ah+(48+Aj))) 0 (.n k))]) with Aj:=G.Aj+1}:GS).Af.length=G.Af.length+1:=GS.Bm G [.i (.store (.n (G.Ah+(48+Aj))) 0 (.n k))];rw[JD] at h;generalize hB:KR G.Ah n AP (Aj+1) (G.Af.length+1) b=B at h;generalize hg:GS.BX b {(G.ext [.i (.store (.n (G.Ah+(48+Aj))) 0 (.n k))]) with Aj:=G.Aj+1}=g2 at h;have h1:Sm AP {g2 with Aj:=g2.Aj - 1} ((G.ext [.i (.store (.n (G.Ah+(48+Aj))) 0 (.n k))]).ext B):=
   ⟨h.Af,h.Ah,h.cells,h.block,by show g2.Aj - 1=G.Aj;rw[h.Aj];show G.Aj+1 - 1=G.Aj;omega,h.Be⟩
  rw[GS.A7,List.cons_append,List.nil_append] at h1;have e3:GS.BX (.loop k b r) G=GS.BX r ((((((({g2 with Aj:=g2.Aj - 1}:GS).lo 1 (48+Aj)).A2 Dx 1 (.r 1) (.n 1)).st (48+Aj) (.r 1)).An (.r 1)).Aq (.Ga (G.Af.length+1:Nat))).AM ((((({g2 with Aj:=g2.Aj - 1}:GS).lo 1 (48+Aj)).A2 Dx 1 (.r 1) (.n 1)).st (48+Aj) (.r 1)).Ex (.r 1))):=by
   rw[←hg,←JD,←e,←hd];rfl
  rw[e3];generalize ({g2 with Aj:=g2.Aj - 1}:GS)=g3 at h1;have h2:=(h1.ext [.i (.load 1 (.n (G.Ah+(48+Aj))) 0),.i (.op Dx 1 (.r 1) (.n 1)),.i (.store (.n (G.Ah+(48+Aj))) 0 (.r 1)),.i (.jz (.r 1) 0),.i (.Ga (G.Af.length+1:Nat))]).AM ⟨G.Af.length+(B.length+4),some (.r 1)⟩;rw[GS.A7,GS.BU _ _ _ _ (by
    rw[List.cons_append,List.getElem?_cons_succ,List.getElem?_append_right (by omega),show B.length+3 - B.length=3 by omega];rfl)] at h2
  have e4:((((((g3.lo 1 (48+Aj)).A2 Dx 1 (.r 1) (.n 1)).st (48+Aj) (.r 1)).An (.r 1)).Aq (.Ga (G.Af.length+1:Nat))).AM ((((g3.lo 1 (48+Aj)).A2 Dx 1 (.r 1) (.n 1)).st (48+Aj) (.r 1)).Ex (.r 1)))=
    (g3.ext [.i (.load 1 (.n (G.Ah+(48+Aj))) 0),.i (.op Dx 1 (.r 1) (.n 1)),.i (.store (.n (G.Ah+(48+Aj))) 0 (.r 1)),.i (.jz (.r 1) 0),.i (.Ga (G.Af.length+1:Nat))]).AM ⟨G.Af.length+(B.length+4),some (.r 1)⟩:=by
   have mH:g3.Af.length=G.Af.length+(B.length+1):=by rw[h1.Af,GS.Bm,List.length_cons]
   have cV:g3.Ah=G.Ah:=h1.Ah;simp only[GS.lo,GS.A2,GS.st,GS.An,GS.Ex,GS.Cq,GS.A7,GS.Bn,GS.Bm,cV,mH,List.cons_append,List.nil_append,List.length_cons,List.length_nil,Nat.add_assoc]
  rw[e4];generalize (g3.ext [.i (.load 1 (.n (G.Ah+(48+Aj))) 0),.i (.op Dx 1 (.r 1) (.n 1)),.i (.store (.n (G.Ah+(48+Aj))) 0 (.r 1)),.i (.jz (.r 1) 0),.i (.Ga (G.Af.length+1:Nat))]).AM ⟨G.Af.length+(B.length+4),some (.r 1)⟩=g4 at h2;have h5:=ih AP Aj g4 hn.2 (h2.block.trans hb) (by rw[h2.cells];exact hc) h2.Ah (h2.Aj.trans hd);refine h5.trans ?_;refine(h2.ext (KR G.Ah n AP Aj g4.Af.length r)).trans (Sm.of_eq ?_);rw[GS.A7,h2.Af,GS.Bm];simp only[KR,hB];congr 1;rw[List.cons_append,List.set_cons_succ,List.set_append_right _ _ (by omega),show B.length+3 - B.length=3 by omega];simp only[GS.C2,List.set_cons_succ,List.set_cons_zero,List.length_append,List.length_cons,List.length_nil,List.append_assoc,List.cons_append,List.nil_append];rw[show G.Af.length+(B.length+(0+1+1+1+1+1)+1)=G.Af.length+1+B.length+5 by omega]
 | atomic b r ib ih=>
  intro AP Aj G hn hb hc Qe hd;subst Qe;obtain⟨Ey,Y5,hnr⟩:=hn;have s1:G.BV=G.ext (F7 (N9 G.Ah) 4 G.Af.length):=by
   unfold GS.BV;exact GS.JU GS.FR N9 (fun c g=>GS.bB g c) 4 G
  have l1:G.BV.Af.length=G.Af.length+8:=by rw[s1,GS.Bm];rfl
  have s2:=ju G.BV;have KP:G.BV.Ah=G.Ah:=by rw[s1];rfl
  have LC:G.BV.cells=G.cells:=by rw[s1];rfl
  have oV:G.BV.Aj=G.Aj:=by rw[s1];rfl
  have et:Q8 G.BV.Ah G.BV.cells.toNat G.BV.Af.length=Q8 G.Ah n (G.Af.length+8):=by rw[KP,LC,l1,hc]
  rw[et] at s2;generalize ht:Q8 G.Ah n (G.Af.length+8)=tl at s2;have h:=ib true Aj G.BV.NM Y5 (by rw[s2];rfl) (by rw[s2];show G.BV.cells.toNat=n;rw[LC,hc]) (by rw[s2];exact KP) (by rw[s2];exact oV.trans hd);have l2:G.BV.NM.Af.length=G.Af.length+8+tl.length:=by rw[s2,GS.Bm];show G.BV.Af.length+_=_;rw[l1]
  rw[l2] at h;generalize hB:KR G.Ah n true Aj (G.Af.length+8+tl.length) b=B at h;rw[s2,GS.A7] at h;have e3:GS.BX (.atomic b r) G=GS.BX r ((GS.BX b (({G.BV with block:=true,Be:=[]}:GS).ext tl)).Lv G.BV.Af.length (Du b)):=by rw[←s2];rfl
  rw[e3,l1];generalize GS.BX b (({G.BV with block:=true,Be:=[]}:GS).ext tl)=g2 at h;have ar:g2.Ah=G.Ah:=h.Ah.trans KP;have BK:g2.cells=G.cells:=h.cells.trans LC;have key:=dL g2 G.BV.Af (tl++B) (G.Af.length+8) (Du b) h.Af (by rw[h.Be rfl];simp[GS.ext]);rw[ar,BK,hc,l1] at key;simp only[List.length_append] at key;obtain⟨k1,k2,k3,k4,k5⟩:=key;have og:Sm AP (g2.Lv (G.Af.length+8) (Du b)) (G.ext (KR G.Ah n AP Aj G.Af.length (.atomic b .nil))):=by
   refine⟨?_,k2,k3,?_,k5.trans (h.Aj.trans oV),fun hh=>by rw[Ey] at hh;cases hh⟩
   ·rw[k1];have:=congrArg GS.Af s1;rw[this];simp only[GS.ext,KR,ht,hB,List.append_nil,Vd,eS,List.append_assoc,List.length_append];have ez:∀(x:GI) (l:List LI),rz 0 (.i x::l)=x::rz 0 l:=fun _ _=>rfl
    simp only[ez,Vd,List.append_assoc,Nat.add_assoc]
   ·rw[k4];show false=G.block;rw[hb,Ey]
  generalize g2.Lv (G.Af.length+8) (Du b)=g4 at og;have h5:=ih AP Aj g4 hnr (og.block.trans hb) (by rw[og.cells];exact hc) og.Ah (og.Aj.trans hd);refine h5.trans ((og.ext _).trans (Sm.of_eq ?_));rw[GS.A7,og.Af,GS.Bm];congr 1;simp only[KR,List.append_nil]
theorem Zt (cells:Int) (k:Nat) (t:Ck) (h:NO t false):IK cells k t=rz 0 (KR (32+64*k) cells.toNat false 0 0 t)++[.halt]:=by
 have:=kh (32+64*k) cells.toNat t false 0 (.start k cells) h rfl rfl rfl rfl;unfold IK;show(GS.BX t (GS.start k cells)).Af++[GI.halt]=_;rw[this.Af];simp[GS.ext,GS.start]
def CS (cells:Int) (ts:List Ck) (k:Nat):List (List GI):=(List.range k).map fun i=>IK cells i (ts.getD i .nil)
theorem VR (cells:Int) (ts:List Ck) (k:Nat):CS cells ts (k+1)=CS cells ts k++[IK cells k (ts.getD k .nil)]:=by
 simp[CS,List.range_succ]
theorem ID (cells:Int) (ts:List Ck) (k:Nat):(CS cells ts k).length=k:=by simp[CS]
end Go.Proofs.YtpdfifdlhpmofaaGreatDoor
