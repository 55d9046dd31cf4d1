/-
  Part 31 of the proof.
-/
import Derived.Test.YtpdfifdlhpmofaaGreatDoorZ09
set_option linter.unusedVariables false
set_option linter.unusedSimpArgs false
set_option maxHeartbeats 3200000
set_option maxRecDepth 100000
namespace Go.Proofs.YtpdfifdlhpmofaaGreatDoor
open Go.Lib (hid)
theorem mad {p:Prop} (h:p:=by
 simp only[EX,CV,SU,Dn,Ix,Py,NR,lo,st,IL,Re,CC,Iq,Gv,Bb,Bk,Bl,d7,Ll,JB,WP,Qak,IR,m7,Jx];rw[BV _ _ _ _ rfl];try simp only[Bb,Bk,Bl,d7,WP,Qak,Qbl,Qcd,IR,m7,Qaa]
 try rw[BV _ _ _ _ rfl]
 try simp only[Bb,Bk,Bl,d7,WP,Qak,Qbl,Qcd,IR,m7,Qaa]
 try rw[BV _ _ _ _ rfl]
 rfl):p:=h
theorem mbl {p:Prop} (h:p:=by
 simp only[V,IR,m7] at this;rw[show pre.length+done.length+1=pre.length+(done.length+(0+1)) by omega,this];simp[rz,LI.AW]):p:=h
theorem mb5 {p:Prop} (h:p:=by
 simp only[CC,Bb,Bl,WP,Qak]):p:=h
variable {Au:Bool} {a b:GS}
inductive LI where
 | i (x:GI)
 | f (r:Int)
def LI.AW (ab:Int):LI->GI
 | .i x=>x
 | .f r=> .jz (.r r) ab
def rz (ab:Int) (l:List LI):List GI:=l.map (LI.AW ab)
theorem CX (ab:Int) (l:List LI):(rz ab l).length=l.length:=by simp[rz]
theorem CA (ab:Int) (l m:List LI):rz ab (l++m)=rz ab l++rz ab m:=by simp[rz]
def En:Nat->List LI->List Ij
 | _,[]=>[]
 | p,.i _::l=>En (p+1) l
 | p,.f r::l=>⟨p,some (.r r)⟩::En (p+1) l
theorem O7 (l m:List LI):∀p,En p (l++m)=En p l++En (p+l.length) m:=by
 induction l with
 | nil=>intro p;rfl
 | cons x l ih=>
  intro p;cases x with
  | i x=>simp only[WP,En,ih,IR];rw[show p+1+l.length=p+(l.length+1) by omega]
  | f r=>simp only[WP,En,ih,IR,WP];rw[show p+1+l.length=p+(l.length+1) by omega]
namespace GS
def ext (g:GS) (l:List LI):GS:={g with Ab:=g.Ab++rz 0 l,BL:=g.BL++En g.Ab.length l}
theorem bK (g:GS):g.ext []=g:=by simp[ext,rz,En]
theorem Bk (g:GS) (l:List LI):(g.ext l).Ab.length=g.Ab.length+l.length:=by simp[ext,rz]
theorem Bb (g:GS) (l m:List LI):(g.ext l).ext m=g.ext (l++m):=by
 simp[ext,rz,O7]
theorem Bl (g:GS) (l:List LI):(g.ext l).Ac=g.Ac:=rfl
theorem CC (g:GS) (i:GI):g.AP i=g.ext [.i i]:=by simp[ext,rz,En,AP,LI.AW]
theorem Gv (g:GS) (r:Int):g.IW r=g.ext [.f r]:=by simp[ext,rz,En,AP,LI.AW,IW,CV,EX]
def Dg (a:Option Ag) (q:Int):GI:=match a with
 | none=> .Gb q
 | some a=> .jz a q
theorem Pa (g:GS) (k:Nat) (a:Option Ag):g.Bd ⟨k,a⟩={g with Ab:=g.Ab.set k (Dg a g.Ab.length)}:=by
 unfold Bd Dg;cases a <;>rfl
theorem nD (l:List LI):∀(p n:Nat) (x y:GI),l[n]?=some (.i x)->En p (l.set n (.i y))=En p l:=by
 induction l with
 | nil=>intro p n x y h;simp at h
 | cons z l ih=>
  intro p n x y h;cases n with
  | zero=>
   simp only[Qbe,Option.some.injEq] at h;subst h;rfl
  | succ n=>
   simp only[Qbj] at h;cases z with
   | i z=>simp only[Qbl,En];exact ih _ _ _ _ h
   | f r=>simp only[Qbl,En];rw[ih _ _ _ _ h]
theorem vx (g:GS) (l:List LI) (n:Nat) (a:Option Ag) (x:GI) (h:l[n]?=some (.i x)):(g.ext l).Bd ⟨g.Ab.length+n,a⟩=g.ext (l.set n (.i (Dg a (g.Ab.length+l.length:Nat)))):=by
 rw[Pa,Bk];unfold ext;rw[nD l _ n x _ h];congr 1;rw[Qa9 _ _ Y];simp[rz,Qc6,LI.AW]
end GS
section
variable (Ac:Int)
def Jx (r:Int):List LI:=[.i (.op Wf 3 (.r r) (.n 1)),.i (.op XW 3 (.r 3) (.n 0)),.f 3,.i (.op Uz 3 (.r r) (.n 1)),.i (.load 4 (.n (Ac+38)) 0),.i (.op XV 3 (.r 4) (.r 3)),.i (.op XW 3 (.r 3) (.n 0)),.f 3]
def DX (a:At) (r:Int):List LI:=if a.AR then [.i (.load r (.n (Ac+a.v)) 0)] else []
def Sd (p:Nat) (f s:Int) (AW:Ag):List LI:=[.i (.op XV 3 AW (.n 0)),.i (.jz (.r 3) (p+3:Nat)),.i (.EF 2),.i (.op XV 3 AW (.n s)),.i (.op XW 3 (.r 3) (.n 0)),.i (.jz (.r 3) (p+7:Nat)),.i (.EF 2),.i (.op Ja 0 AW (.n f))]
def GV (p:Nat) (f s:Int) (a:At):List LI:=DX Ac a 0++Sd (p+(DX Ac a 0).length) f s (GS.BF a 0)
def QJ (p:Nat):List LI:=[.i (.load 1 (.r 0) (Ac+8)),.i (.jz (.r 1) (p+4:Nat)),.i (.load 1 (.r 0) (Ac+14)),.i (.Gb (p+18:Nat)),.i (.load 2 (.r 0) 8)]++Jx Ac 2++
 [.i (.load 1 (.r 0) 0),.i (.load 3 (.r 0) 8),.i (.op XW 3 (.r 3) (.r 2)),.f 3,.i (.store (.r 0) (Ac+20) (.n 1))]
def Li (c p:Nat):List LI:=[.i (.load 1 (.n (Ac+(8+c))) 0),.i (.jz (.r 1) (p+16:Nat)),.i (.load 2 (.n (8+c)) 0)]++Jx Ac 2++
 [.i (.op sJ 3 (.r 2) (.n 1)),.i (.JL 3 (.n (8+c)) 0 (.r 2) (.r 3)),.f 3,.i (.store (.n (Ac+(26+c))) 0 (.n 1)),.i (.store (.n (Ac+(32+c))) 0 (.r 2))]
def ND (c p:Nat):List LI:=[.i (.load 1 (.n (Ac+(20+c))) 0),.i (.jz (.r 1) (p+14:Nat)),.i (.load 1 (.n (Ac+(26+c))) 0),.i (.jz (.r 1) (p+5:Nat)),.i (.Gb (p+14:Nat)),.i (.load 2 (.n (8+c)) 0)]++Jx Ac 2
def V0 (c p:Nat):List LI:=[.i (.load 1 (.n (Ac+(8+c))) 0),.i (.jz (.r 1) (p+4:Nat)),.i (.load 2 (.n (Ac+(14+c))) 0),.i (.store (.n c) 0 (.r 2))]
def OG (c p:Nat):List LI:=[.i (.load 1 (.n (Ac+(8+c))) 0),.i (.jz (.r 1) (p+3:Nat)),.i (.store (.n (8+c)) 0 (.r 5))]
def NJ (c p:Nat):List LI:=[.i (.load 1 (.n (Ac+(26+c))) 0),.i (.jz (.r 1) (p+4:Nat)),.i (.load 2 (.n (Ac+(32+c))) 0),.i (.store (.n (8+c)) 0 (.r 2))]
def On (c:Nat) (_:Nat):List LI:=[.i (.load 1 (.n (Ac+(4+c))) 0),.i (.store (.n (Ac+c)) 0 (.r 1))]
def NB (c:Nat) (_:Nat):List LI:=[.i (.load 1 (.n (Ac+c)) 0),.i (.store (.n (Ac+(4+c))) 0 (.r 1))]
def JT (c:Nat) (_:Nat):List LI:=[.i (.store (.n (Ac+(8+c))) 0 (.n 0)),.i (.store (.n (Ac+(20+c))) 0 (.n 0)),.i (.store (.n (Ac+(26+c))) 0 (.n 0))]
def Ku (p:Nat):List LI:=[.i (.Sq 1 (.n 0)),.i (.load 2 (.n (Ac+39)) 0),.i (.op XV 2 (.r 1) (.r 2)),.i (.jz (.r 2) (p+8:Nat)),.i (.load 2 (.r 1) (Ac+40)),.i (.out (.r 2)),.i (.op Ja 1 (.r 1) (.n 1)),.i (.Gb (p+1:Nat))]
def El (f:Nat->Nat->List LI):Nat->Nat->List LI
 | 0,_=>[]
 | n+1,p=>El f n p++f n (p+(El f n p).length)
def Ya:List LI:=[.i (.DL 5 (.n 16) 0 (.n 1)),.i (.op Ja 5 (.r 5) (.n 1)),.i (.op Qy 5 (.r 5) (.n 1))]
def FX (n p:Nat):List LI:=
 let l1:=El (Li Ac) n p++Ya
 let l2:=l1++El (ND Ac) n (p+l1.length)
 let l3:=l2++El (V0 Ac) n (p+l2.length)
 l3++El (OG Ac) n (p+l3.length)
def VQ (v:Int) (op:ByteArray) (a b:At):List LI:=
 if op.size=0 then DX Ac a 1++[.i (.store (.n (Ac+v)) 0 (GS.BF a 1))]
 else DX Ac a 1++DX Ac b 2++[.i (.op op 1 (GS.BF a 1) (GS.BF b 2)),.i (.store (.n (Ac+v)) 0 (.r 1))]
def aE (Au:Bool) (a:At):List LI:=
 DX Ac a 1++(if Au then [.i (.load 2 (.n (Ac+39)) 0),.i (.store (.r 2) (Ac+40) (GS.BF a 1)),.i (.op Ja 2 (.r 2) (.n 1)),.i (.store (.n (Ac+39)) 0 (.r 2))] else [.i (.out (GS.BF a 1))])
def JO (n:Nat) (p:Nat):List LI:=El (JT Ac) n p++[.i (.store (.n (Ac+39)) 0 (.n 0)),.i (.load 1 (.n 16) 0),.i (.store (.n (Ac+38)) 0 (.r 1))]
def ON (n:Nat) (BJ:Bool) (p:Nat):List LI:=(if BJ then FX Ac n p else [])++Ku Ac (p+(if BJ then FX Ac n p else []).length)
def FD (n Dw p:Nat):List LI:=El (NJ Ac) n p++El (On Ac) 4 (p+(El (NJ Ac) n p).length)++[.i (.Gb Dw)]
def Gx (n:Nat):Bool->Nat->Nat->Bt->List LI
 | _,_,_,.nil=>[]
 | Au,Aj,p,.set v op a b r=>VQ Ac v op a b++Gx n Au Aj (p+(VQ Ac v op a b).length) r
 | Au,Aj,p,.get v f s a r=>
  let c:=GV Ac p f s a
  let c:=c++QJ Ac (p+c.length)++[.i (.store (.n (Ac+v)) 0 (.r 1))]
  c++Gx n Au Aj (p+c.length) r
 | Au,Aj,p,.put f s i a r=>
  let c:=GV Ac p f s i++DX Ac a 1++[.i (.store (.r 0) (Ac+14) (GS.BF a 1)),.i (.store (.r 0) (Ac+8) (.n 1))]
  c++Gx n Au Aj (p+c.length) r
 | Au,Aj,p,.out a r=>aE Ac Au a++Gx n Au Aj (p+(aE Ac Au a).length) r
 | Au,Aj,p,.EA a b r=>
  let v:=DX Ac a 1
  let B:=Gx n Au Aj (p+v.length+1) b
  let c:=v++ .i (.jz (GS.BF a 1) (p+v.length+1+B.length:Nat))::B
  c++Gx n Au Aj (p+c.length) r
 | Au,Aj,p,.loop k b r=>
  let B:=Gx n Au (Aj+1) (p+1) b
  let c:= .i (.store (.n (Ac+(48+Aj))) 0 (.n k))::B++[.i (.load 1 (.n (Ac+(48+Aj))) 0),.i (.op I9 1 (.r 1) (.n 1)),.i (.store (.n (Ac+(48+Aj))) 0 (.r 1)),.i (.jz (.r 1) (p+1+B.length+5:Nat)),.i (.Gb (p+1:Nat))]
  c++Gx n Au Aj (p+c.length) r
 | Au,Aj,p,.atomic b r=>
  let Dw:=p+8
  let t:=JO Ac n Dw
  let B:=Gx n true Aj (Dw+t.length) b
  let m:=t++B++ON Ac n (Cr b) (Dw+t.length+B.length)
  let q:=Dw+m.length+1
  let k:=FD Ac n Dw q
  let c:=El (NB Ac) 4 p++(rz q m).map LI.i++ .i (.Gb (q+k.length:Nat))::k
  c++Gx n Au Aj (p+c.length) r
end
def isI:Option LI->Bool
 | some (.i _)=>true
 | _=>false
namespace GS
theorem BV (g:GS) (l:List LI) (n:Nat) (a:Option Ag) (h:isI l[n]?=true):(g.ext l).Bd ⟨g.Ab.length+n,a⟩=g.ext (l.set n (.i (Dg a (g.Ab.length+l.length:Nat)))):=by
 cases hl:l[n]? with
 | none=>rw[hl] at h;cases h
 | some x=>
  cases x with
  | i x=>exact vx g l n a x hl
  | f r=>rw[hl] at h;cases h
theorem Ll (g:GS) (l:Ij):(g.Bd l).Ab.length=g.Ab.length:=by cases l;rw[Pa];simp
theorem JB (g:GS) (l:Ij):(g.Bd l).Ac=g.Ac:=rfl
theorem Iq (g:GS) (r:Int):g.Jw r=g.ext (Jx g.Ac r):=by
 simp only[Jw,Ix,lo,CC,Gv,Bb,Bl,WP,Qak,Jx]
theorem Jt (g:GS) (a:At) (r:Int):g.Cz a r=g.ext (DX g.Ac a r):=by
 unfold Cz DX lo;split
 ·rw[CC]
 ·rw[bK]
theorem ZG (g:GS) (f s:Int) (a:At):g.E7 f s a=g.ext (GV g.Ac g.Ab.length f s a):=by
 unfold E7 GV;simp only[Jt];rw[<-Bb,<-Bk];generalize g.ext (DX g.Ac a 0)=g;generalize BF a 0=x;exact mad
theorem vg (g:GS):g.PK=g.ext (QJ g.Ac g.Ab.length):=by
 unfold PK;exact mad
theorem nV (g:GS) (c:Nat):Om c g=g.ext (Li g.Ac c g.Ab.length):=by
 unfold Om LS Rh;exact mad
theorem nS (g:GS) (c:Nat):Ol c g=g.ext (ND g.Ac c g.Ab.length):=by
 unfold Ol LS Rh;exact mad
theorem r8 (g:GS) (c:Nat):Uw c g=g.ext (V0 g.Ac c g.Ab.length):=by
 unfold Uw LS Rh;exact mad
theorem oW (g:GS) (c:Nat):OH c g=g.ext (OG g.Ac c g.Ab.length):=by
 unfold OH LS Rh;exact mad
theorem pA (g:GS) (c:Nat):NL c g=g.ext (NJ g.Ac c g.Ab.length):=by
 unfold NL;exact mad
theorem og (g:GS) (c:Nat):NF c g=g.ext (On g.Ac c g.Ab.length):=by
 unfold NF On lo st;exact mb5
theorem mF (g:GS) (c:Nat):NC c g=g.ext (NB g.Ac c g.Ab.length):=by
 unfold NC NB lo st;exact mb5
theorem jy (g:GS) (c:Nat):Jg c g=g.ext (JT g.Ac c g.Ab.length):=by
 unfold Jg JT st;exact mb5
theorem cF (g:GS):g.GD=g.ext (Ku g.Ac g.Ab.length):=by
 unfold GD;exact mad
theorem Lf (f:Nat->GS->GS) (fl:Int->Nat->Nat->List LI) (h:∀c g,f c g=g.ext (fl g.Ac c g.Ab.length)) (n:Nat) (g:GS):LW f n g=g.ext (El (fl g.Ac) n g.Ab.length):=by
 induction n with
 | zero=>simp only[LW,El,bK]
 | succ n ih=>simp only[LW,El];rw[ih,h,Bl,Bk,Bb]
theorem js (g:GS):g.Eu=g.ext (FX g.Ac g.cells.toNat g.Ab.length):=by
 unfold Eu FX;simp only[Lf Om Li fun c g=>nV g c,Ix,CC,Bb,Lf Ol ND fun c g=>nS g c,Lf Uw V0 fun c g=>r8 g c,Lf OH OG fun c g=>oW g c,Bl,Bk,Ya,PP,WP,Qak,V,IR,m7,d7]
theorem vY (g:GS) (Dw:Nat):g.Gg Dw=g.ext (FD g.Ac g.cells.toNat Dw g.Ab.length):=by
 unfold Gg FD;simp only[Lf NL NJ fun c g=>pA g c,Lf NF On fun c g=>og g c,CC,Bb,Bl,Bk,PP]
theorem oI (g:GS) (pre:List GI) (l:List LI) (post:List GI) (B:Nat):∀(done:List LI) (_:g.Ab=pre++(rz B done++rz 0 l)++post) (_:B=g.Ab.length),
  ((En (pre.length+done.length) l).foldl Bd g).Ab=pre++(rz B done++rz B l)++post:=by
 induction l generalizing g with
 | nil=>intro done h _;simpa[En,rz] using h
 | cons x l ih=>
  intro done h hB;cases x with
  | i x=>
   simp only[En];have:=ih g (done++[.i x]) (by rw[h];simp[rz,LI.AW]) hB;exact mbl
  | f r=>
   simp only[En,Qa8];have e:g.Bd ⟨pre.length+done.length,some (.r r)⟩={g with Ab:=pre++(rz B (done++[.f r])++rz 0 l)++post}:=by
    rw[Pa];congr 1;rw[h];rw[PP,PP,Qa9 _ _ Y,Nat.add_sub_cancel_left,Qa9 _ _ (by simp[rz]),CX,Qbt];rw[h,PP,PP] at hB;rw[<-hB];simp[rz,LI.AW,Dg]
   rw[e];have:=ih {g with Ab:=pre++(rz B (done++[.f r])++rz 0 l)++post} (done++[.f r]) rfl (by
     rw[hB,h];simp[rz])
   exact mbl
theorem iV (l:List Ij) (g:GS):(l.foldl Bd g).Ac=g.Ac/\(l.foldl Bd g).cells=g.cells/\(l.foldl Bd g).block=g.block/\(l.foldl Bd g).Aj=g.Aj:=by
 induction l generalizing g with
 | nil=>exact⟨rfl,rfl,rfl,rfl⟩
 | cons a r ih=>rw[Qa8];exact ih _
end GS
def PO:Bt->Bool->Prop
 | .nil,_=>True
 | .set _ _ _ _ r,i=>PO r i
 | .get _ _ _ _ r,i=>PO r i
 | .put _ _ _ _ r,i=>PO r i
 | .out _ r,i=>PO r i
 | .atomic b r,i=>i=false/\PO b true/\PO r i
 | .EA _ b r,i=>PO b i/\PO r i
 | .loop _ b r,i=>PO b i/\PO r i
structure Sm (Au:Bool) (a b:GS):Prop where
 Ab:a.Ab=b.Ab
 Ac:a.Ac=b.Ac
 cells:a.cells=b.cells
 block:a.block=b.block
 Aj:a.Aj=b.Aj
 BL:Au=true->a.BL=b.BL
theorem Sm.refl (Au:Bool) (a:GS):Sm Au a a:=⟨rfl,rfl,rfl,rfl,rfl,fun _=>rfl⟩
theorem Sm.trans {c:GS} (h:Sm Au a b) (k:Sm Au b c):Sm Au a c:=
 ⟨h.1.trans k.1,h.2.trans k.2,h.3.trans k.3,h.4.trans k.4,h.5.trans k.5,fun e=>(h.6 e).trans (k.6 e)⟩
theorem Sm.ext (h:Sm Au a b) (l:List LI):Sm Au (a.ext l) (b.ext l):=
 ⟨by simp[GS.ext,h.Ab],h.Ac,h.cells,h.block,h.Aj,fun e=>by simp[GS.ext,h.Ab,h.BL e]⟩
theorem Sm.Bd (h:Sm Au a b) (l:Ij):Sm Au (a.Bd l) (b.Bd l):=by
 cases l with
 | mk k x=>
  rw[GS.Pa,GS.Pa];exact⟨by simp[h.Ab],h.Ac,h.cells,h.block,h.Aj,h.BL⟩
theorem Sm.of_eq (h:a=b):Sm Au a b:=h▸Sm.refl Au a
theorem yB (v B:List LI) (x:GI):isI (v++ .i x::B)[v.length]?=true:=by simp[isI]
theorem sW (v B:List LI) (x y:LI):(v++x::B).set v.length y=v++y::B:=EQ
theorem rJ (ab:Int) (l:List GI):rz ab (l.map LI.i)=l:=by
 induction l with
 | nil=>rfl
 | cons a r ih=>simp only[d8,rz,LI.AW] at ih⊢;rw[ih]
theorem rX (f:Nat->Nat->List LI) (hf:∀c p q,En q (f c p)=[]) (n:Nat):∀p q,En q (El f n p)=[]:=by
 induction n with
 | zero=>intro p q;rfl
 | succ n ih=>intro p q;simp only[El,O7,ih,hf,i7]
theorem qU (Ac:Int) (n p q:Nat):En q (JO Ac n p)=[]:=by
 unfold JO;rw[O7,rX _ (fun _ _ _=>rfl)];rfl
theorem wH (g:GS):g.QP=({g with block:=true,BL:=[]}:GS).ext (JO g.Ac g.cells.toNat g.Ab.length):=by
 unfold GS.QP;simp only[GS.Lf GS.Jg JT fun c g=>GS.jy g c,GS.st,GS.NR,GS.CC,GS.Bb,GS.Bl];unfold GS.ext;rw[qU];simp only[JO,PP,i7];rfl
theorem rH (g:GS) (v:Int) (op:ByteArray) (a b:At):(if op.size=0 then (g.Cz a 1).st v (GS.BF a 1) else ((((g.Cz a 1).Cz b 2).Ix op 1 (GS.BF a 1) (GS.BF b 2)).st v (.r 1)))=g.ext (VQ g.Ac v op a b):=by
 unfold VQ;split
 ·simp only[GS.Jt,GS.st,GS.CC,GS.Bb,GS.Bl]
 ·simp only[GS.Jt,GS.Ix,GS.st,GS.CC,GS.Bb,GS.Bl,PP,WP,Qak]
theorem sg (g:GS) (a:At):(if g.block then ((((g.Cz a 1).lo 2 39).IL 40 2 (GS.BF a 1)).Ix Ja 2 (.r 2) (.n 1)).st 39 (.r 2) else (g.Cz a 1).AP (.out (GS.BF a 1)))=g.ext (aE g.Ac g.block a):=by
 unfold aE;split
 ·simp only[GS.Jt,GS.Ix,GS.st,GS.lo,GS.IL,GS.CC,GS.Bb,GS.Bl,PP,WP,Qak]
 ·simp only[GS.Jt,GS.CC,GS.Bb]
theorem vH (g:GS) (p:Bool):(if p then g.Eu else g).GD=g.ext (ON g.Ac g.cells.toNat p g.Ab.length):=by
 unfold ON;cases p with
 | true=>simp only[Qau,GS.js,GS.cF,GS.Bb,GS.Bl,GS.Bk]
 | false=>simp only[Qah,y4,GS.cF,Qak,m7,Qaj]
theorem pN (g:GS) (pre:List GI) (m0:List LI) (Dw:Nat) (BJ:Bool) (hc:g.Ab=pre++rz 0 m0) (ha:g.BL=En pre.length m0):
  let m:=m0++ON g.Ac g.cells.toNat BJ (pre.length+m0.length)
  let q:=pre.length+m.length+1
  let k:=FD g.Ac g.cells.toNat Dw q
  (g.Nu Dw BJ).Ab=pre++rz q m++ .Gb (q+k.length:Nat)::rz 0 k/\(g.Nu Dw BJ).Ac=g.Ac/\(g.Nu Dw BJ).cells=g.cells/\(g.Nu Dw BJ).block=false/\(g.Nu Dw BJ).Aj=g.Aj:=by
 intro m q k;have e0:(if BJ then ({g with block:=false}:GS).Eu else {g with block:=false}).GD={({g with block:=false}:GS) with Ab:=pre++rz 0 m,BL:=En pre.length m}:=by
  rw[vH];unfold GS.ext;simp only[hc,ha];have:(pre++rz 0 m0).length=pre.length+m0.length:=by simp[rz]
  simp only[this,m,CA,O7,PP]
 have e1:g.Nu Dw BJ=((((En pre.length m).foldl GS.Bd ({({g with block:=false}:GS) with Ab:=pre++rz 0 m++[.Gb 0],BL:=En pre.length m})).Gg Dw).Bd ⟨pre.length+m.length,none⟩):=by
  unfold GS.Nu;simp only[];rw[e0];have:(pre++rz 0 m).length=pre.length+m.length:=by simp[rz]
  simp only[GS.Dn,GS.AP,GS.SU,this]
 rw[e1];have h1:=GS.oI ({({g with block:=false}:GS) with Ab:=pre++rz 0 m++[.Gb 0],BL:=En pre.length m}) pre m [.Gb 0] q [] (by simp[rz]) (by simp[rz,q];omega);have h2:=GS.iV (En pre.length m) ({({g with block:=false}:GS) with Ab:=pre++rz 0 m++[.Gb 0],BL:=En pre.length m});simp only[m7,Qaj] at h1;obtain⟨b1,b2,b3,b4⟩:=h2;generalize (En pre.length m).foldl GS.Bd ({({g with block:=false}:GS) with Ab:=pre++rz 0 m++[.Gb 0],BL:=En pre.length m})=g1 at h1 b1 b2 b3 b4⊢;have hl:g1.Ab.length=q:=by rw[h1];simp[rz,q];omega
 rw[GS.vY,GS.Pa];refine⟨?_,b1,b2,b3,b4⟩;show(g1.ext _).Ab.set _ (GS.Dg none _)=_;rw[GS.Bk];unfold GS.ext;simp only[hl];rw[b1,b2];show(g1.Ab++rz 0 k).set _ (GS.Dg none _)=_;rw[h1];have e3:rz (↑q) []=([]:List GI):=rfl;rw[e3,Qak,PP,PP,Qa9 _ _ Y,Nat.add_sub_cancel_left,Qa9 _ _ (by simp[rz]),CX,Qbt];simp only[WP,Qak,Qcd,PP,GS.Dg];rfl
theorem xS (Ac:Int) (n:Nat) (t:Bt):∀(Au:Bool) (Aj:Nat) (G:GS),PO t Au->G.block=Au->G.cells.toNat=n->G.Ac=Ac->G.Aj=Aj->
  Sm Au (GS.Dr t G) (G.ext (Gx Ac n Au Aj G.Ab.length t)):=by
 induction t with
 | nil=>intro Au Aj G _ _ _ _ _;simp only[GS.Dr,Gx,GS.bK];exact Sm.refl _ _
 | set v op a b r ih=>
  intro Au Aj G hn hb hc Uj hd;have e:=rH G v op a b;have h:=ih Au Aj (G.ext (VQ G.Ac v op a b)) hn hb hc Uj hd;rw[GS.Bb,GS.Bk] at h;subst Uj;simp only[Gx];have e2:GS.Dr (.set v op a b r) G=GS.Dr r (G.ext (VQ G.Ac v op a b)):=by rw[<-e];rfl
  rw[e2];exact h
 | get v f s a r ih=>
  intro Au Aj G hn hb hc Uj hd;subst Uj;have e:((G.E7 f s a).PK).st v (.r 1)=G.ext (GV G.Ac G.Ab.length f s a++QJ G.Ac (G.Ab.length+(GV G.Ac G.Ab.length f s a).length)++[.i (.store (.n (G.Ac+v)) 0 (.r 1))]):=by
   simp only[GS.ZG,GS.vg,GS.st,GS.CC,GS.Bb,GS.Bl,GS.Bk]
  have h:=ih Au Aj _ hn (show(G.ext (GV G.Ac G.Ab.length f s a++QJ G.Ac (G.Ab.length+(GV G.Ac G.Ab.length f s a).length)++[.i (.store (.n (G.Ac+v)) 0 (.r 1))])).block=Au from hb) hc rfl hd;rw[GS.Bb,GS.Bk] at h;simp only[Gx,GS.Dr];rw[e];exact h
 | put f s i a r ih=>
  intro Au Aj G hn hb hc Uj hd;subst Uj;have e:(((G.E7 f s i).Cz a 1).IL 14 0 (GS.BF a 1)).IL 8 0 (.n 1)=G.ext (GV G.Ac G.Ab.length f s i++DX G.Ac a 1++[.i (.store (.r 0) (G.Ac+14) (GS.BF a 1)),.i (.store (.r 0) (G.Ac+8) (.n 1))]):=by
   simp only[GS.ZG,GS.Jt,GS.IL,GS.CC,GS.Bb,GS.Bl,GS.Bk,PP,WP,Qak]
  have h:=ih Au Aj _ hn (show(G.ext (GV G.Ac G.Ab.length f s i++DX G.Ac a 1++[.i (.store (.r 0) (G.Ac+14) (GS.BF a 1)),.i (.store (.r 0) (G.Ac+8) (.n 1))])).block=Au from hb) hc rfl hd;rw[GS.Bb,GS.Bk] at h;simp only[Gx,GS.Dr];rw[e];exact h
 | out a r ih=>
  intro Au Aj G hn hb hc Uj hd;subst Uj;subst hb;have e:=sg G a;have h:=ih G.block Aj (G.ext (aE G.Ac G.block a)) hn rfl hc rfl hd;rw[GS.Bb,GS.Bk] at h;simp only[Gx];have e2:GS.Dr (.out a r) G=GS.Dr r (G.ext (aE G.Ac G.block a)):=by rw[<-e];rfl
  rw[e2];exact h
 | EA a b r ib ih=>
  intro Au Aj G hn hb hc Uj hd;subst Uj;have e:(G.Cz a 1).CV (GS.BF a 1)=G.ext (DX G.Ac a 1++[.i (.jz (GS.BF a 1) 0)]):=by
   simp only[GS.Jt,GS.CV,GS.CC,GS.Bb]
  have e':(G.Cz a 1).EX (GS.BF a 1)=⟨G.Ab.length+(DX G.Ac a 1).length,some (GS.BF a 1)⟩:=by
   simp only[GS.Jt,GS.EX,GS.Bk]
  have h:=ib Au Aj (G.ext (DX G.Ac a 1++[.i (.jz (GS.BF a 1) 0)])) hn.1 hb hc rfl hd;rw[GS.Bb,GS.Bk] at h;simp only[V,IR,m7,Qaw,<-d7] at h;generalize hB:Gx G.Ac n Au Aj (G.Ab.length+(DX G.Ac a 1).length+1) b=B at h;have h2:=h.Bd ⟨G.Ab.length+(DX G.Ac a 1).length,some (GS.BF a 1)⟩;rw[PP,WP,Qak,GS.BV _ _ _ _ (yB _ _ _),sW] at h2;have e3:GS.Dr (.EA a b r) G=GS.Dr r ((GS.Dr b (G.ext (DX G.Ac a 1++[.i (.jz (GS.BF a 1) 0)]))).Bd ⟨G.Ab.length+(DX G.Ac a 1).length,some (GS.BF a 1)⟩):=by
   rw[<-e,<-e'];rfl
  rw[e3];generalize (GS.Dr b (G.ext (DX G.Ac a 1++[.i (.jz (GS.BF a 1) 0)]))).Bd ⟨G.Ab.length+(DX G.Ac a 1).length,some (GS.BF a 1)⟩=g3 at h2;have h3:=ih Au Aj g3 hn.2 (h2.block.trans hb) (by rw[h2.cells];exact hc) h2.Ac (h2.Aj.trans hd);refine h3.trans ?_;have h4:=h2.ext (Gx G.Ac n Au Aj g3.Ab.length r);refine h4.trans (Sm.of_eq ?_);rw[GS.Bb,h2.Ab,GS.Bk];simp only[Gx,hB];congr 1;simp only[GS.Dg,V,IR,PP,WP];rw[show G.Ab.length+((DX G.Ac a 1).length+(B.length+1))=G.Ab.length+(DX G.Ac a 1).length+1+B.length by omega]
 | loop k b r ib ih=>
  intro Au Aj G hn hb hc Uj hd;subst Uj;have e:G.st (48+G.Aj) (.n k)=G.ext [.i (.store (.n (G.Ac+(48+Aj))) 0 (.n k))]:=by simp only[GS.st,GS.CC,hd]
  have h:=ib Au (Aj+1) {(G.ext [.i (.store (.n (G.Ac+(48+Aj))) 0 (.n k))]) with Aj:=G.Aj+1} hn.1 hb hc rfl (by rw[hd];simp);have KL:({(G.ext [.i (.store (.n (G.Ac+(48+Aj))) 0 (.n k))]) with Aj:=G.Aj+1}:GS).Ab.length=G.Ab.length+1:=GS.Bk G [.i (.store (.n (G.Ac+(48+Aj))) 0 (.n k))];rw[KL] at h;generalize hB:Gx G.Ac n Au (Aj+1) (G.Ab.length+1) b=B at h;generalize hg:GS.Dr b {(G.ext [.i (.store (.n (G.Ac+(48+Aj))) 0 (.n k))]) with Aj:=G.Aj+1}=g2 at h;have h1:Sm Au {g2 with Aj:=g2.Aj - 1} ((G.ext [.i (.store (.n (G.Ac+(48+Aj))) 0 (.n k))]).ext B):=
   ⟨h.Ab,h.Ac,h.cells,h.block,by show g2.Aj - 1=G.Aj;rw[h.Aj];show G.Aj+1 - 1=G.Aj;omega,h.BL⟩
  rw[GS.Bb,WP,Qak] at h1;have e3:GS.Dr (.loop k b r) G=GS.Dr r ((((((({g2 with Aj:=g2.Aj - 1}:GS).lo 1 (48+Aj)).Ix I9 1 (.r 1) (.n 1)).st (48+Aj) (.r 1)).CV (.r 1)).AP (.Gb (G.Ab.length+1:Nat))).Bd ((((({g2 with Aj:=g2.Aj - 1}:GS).lo 1 (48+Aj)).Ix I9 1 (.r 1) (.n 1)).st (48+Aj) (.r 1)).EX (.r 1))):=by
   rw[<-hg,<-KL,<-e,<-hd];rfl
  rw[e3];generalize ({g2 with Aj:=g2.Aj - 1}:GS)=g3 at h1;have h2:=(h1.ext [.i (.load 1 (.n (G.Ac+(48+Aj))) 0),.i (.op I9 1 (.r 1) (.n 1)),.i (.store (.n (G.Ac+(48+Aj))) 0 (.r 1)),.i (.jz (.r 1) 0),.i (.Gb (G.Ab.length+1:Nat))]).Bd ⟨G.Ab.length+(B.length+4),some (.r 1)⟩;rw[GS.Bb,GS.BV _ _ _ _ (by
    rw[WP,Qbj,Qag Y,show B.length+3 - B.length=3 by omega];rfl)] at h2
  have e4:((((((g3.lo 1 (48+Aj)).Ix I9 1 (.r 1) (.n 1)).st (48+Aj) (.r 1)).CV (.r 1)).AP (.Gb (G.Ab.length+1:Nat))).Bd ((((g3.lo 1 (48+Aj)).Ix I9 1 (.r 1) (.n 1)).st (48+Aj) (.r 1)).EX (.r 1)))=
    (g3.ext [.i (.load 1 (.n (G.Ac+(48+Aj))) 0),.i (.op I9 1 (.r 1) (.n 1)),.i (.store (.n (G.Ac+(48+Aj))) 0 (.r 1)),.i (.jz (.r 1) 0),.i (.Gb (G.Ab.length+1:Nat))]).Bd ⟨G.Ab.length+(B.length+4),some (.r 1)⟩:=by
   have iS:g3.Ab.length=G.Ab.length+(B.length+1):=by rw[h1.Ab,GS.Bk,IR]
   have eH:g3.Ac=G.Ac:=h1.Ac;simp only[GS.lo,GS.Ix,GS.st,GS.CV,GS.EX,GS.CC,GS.Bb,GS.Bl,GS.Bk,eH,iS,WP,Qak,IR,m7,d7]
  rw[e4];generalize (g3.ext [.i (.load 1 (.n (G.Ac+(48+Aj))) 0),.i (.op I9 1 (.r 1) (.n 1)),.i (.store (.n (G.Ac+(48+Aj))) 0 (.r 1)),.i (.jz (.r 1) 0),.i (.Gb (G.Ab.length+1:Nat))]).Bd ⟨G.Ab.length+(B.length+4),some (.r 1)⟩=g4 at h2;have h5:=ih Au Aj g4 hn.2 (h2.block.trans hb) (by rw[h2.cells];exact hc) h2.Ac (h2.Aj.trans hd);refine h5.trans ?_;refine(h2.ext (Gx G.Ac n Au Aj g4.Ab.length r)).trans (Sm.of_eq ?_);rw[GS.Bb,h2.Ab,GS.Bk];simp only[Gx,hB];congr 1;rw[WP,Qbl,Qa9 _ _ Y,show B.length+3 - B.length=3 by omega];simp only[GS.Dg,Qbl,Qcd,V,IR,m7,PP,WP,Qak];rw[show G.Ab.length+(B.length+(0+1+1+1+1+1)+1)=G.Ab.length+1+B.length+5 by omega]
 | atomic b r ib ih=>
  intro Au Aj G hn hb hc Uj hd;subst Uj;obtain⟨Fs,Vf,hnr⟩:=hn;have s1:G.BX=G.ext (El (NB G.Ac) 4 G.Ab.length):=by
   unfold GS.BX;exact GS.Lf GS.NC NB (fun c g=>GS.mF g c) 4 G
  have l1:G.BX.Ab.length=G.Ab.length+8:=by rw[s1,GS.Bk];rfl
  have s2:=wH G.BX;have J2:G.BX.Ac=G.Ac:=by rw[s1];rfl
  have KM:G.BX.cells=G.cells:=by rw[s1];rfl
  have X0:G.BX.Aj=G.Aj:=by rw[s1];rfl
  have et:JO G.BX.Ac G.BX.cells.toNat G.BX.Ab.length=JO G.Ac n (G.Ab.length+8):=by rw[J2,KM,l1,hc]
  rw[et] at s2;generalize ht:JO G.Ac n (G.Ab.length+8)=tl at s2;have h:=ib true Aj G.BX.QP Vf (by rw[s2];rfl) (by rw[s2];show G.BX.cells.toNat=n;rw[KM,hc]) (by rw[s2];exact J2) (by rw[s2];exact X0.trans hd);have l2:G.BX.QP.Ab.length=G.Ab.length+8+tl.length:=by rw[s2,GS.Bk];show G.BX.Ab.length+_=_;rw[l1]
  rw[l2] at h;generalize hB:Gx G.Ac n true Aj (G.Ab.length+8+tl.length) b=B at h;rw[s2,GS.Bb] at h;have e3:GS.Dr (.atomic b r) G=GS.Dr r ((GS.Dr b (({G.BX with block:=true,BL:=[]}:GS).ext tl)).Nu G.BX.Ab.length (Cr b)):=by rw[<-s2];rfl
  rw[e3,l1];generalize GS.Dr b (({G.BX with block:=true,BL:=[]}:GS).ext tl)=g2 at h;have kS:g2.Ac=G.Ac:=h.Ac.trans J2;have Ace:g2.cells=G.cells:=h.cells.trans KM;have key:=pN g2 G.BX.Ab (tl++B) (G.Ab.length+8) (Cr b) h.Ab (by rw[h.BL rfl];simp[GS.ext]);rw[kS,Ace,hc,l1] at key;simp only[V] at key;obtain⟨k1,k2,k3,k4,k5⟩:=key;have Vd:Sm Au (g2.Nu (G.Ab.length+8) (Cr b)) (G.ext (Gx G.Ac n Au Aj G.Ab.length (.atomic b .nil))):=by
   refine⟨?_,k2,k3,?_,k5.trans (h.Aj.trans X0),fun hh=>by rw[Fs] at hh;cases hh⟩
   ·rw[k1];have:=Qao GS.Ab s1;rw[this];simp only[GS.ext,Gx,ht,hB,i7,CA,rJ,PP,V];have ez:∀(x:GI) (l:List LI),rz 0 (.i x::l)=x::rz 0 l:=fun _ _=>rfl
    simp only[ez,CA,PP,d7]
   ·rw[k4];show false=G.block;rw[hb,Fs]
  generalize g2.Nu (G.Ab.length+8) (Cr b)=g4 at Vd;have h5:=ih Au Aj g4 hnr (Vd.block.trans hb) (by rw[Vd.cells];exact hc) Vd.Ac (Vd.Aj.trans hd);refine h5.trans ((Vd.ext _).trans (Sm.of_eq ?_));rw[GS.Bb,Vd.Ab,GS.Bk];congr 1;simp only[Gx,i7]
theorem W8 (cells:Int) (k:Nat) (t:Bt) (h:PO t false):Gf cells k t=rz 0 (Gx (32+64*k) cells.toNat false 0 0 t)++[.halt]:=by
 have:=xS (32+64*k) cells.toNat t false 0 (.start k cells) h rfl rfl rfl rfl;unfold Gf;show(GS.Dr t (GS.start k cells)).Ab++[GI.halt]=_;rw[this.Ab];simp[GS.ext,GS.start]
def CL (cells:Int) (ts:List Bt) (k:Nat):List (List GI):=(List.range k).map fun i=>Gf cells i (ts.getD i .nil)
theorem bQ (cells:Int) (ts:List Bt) (k:Nat):CL cells ts (k+1)=CL cells ts k++[Gf cells k (ts.getD k .nil)]:=by
 simp[CL,List.range_succ]
theorem Is (cells:Int) (ts:List Bt) (k:Nat):(CL cells ts k).length=k:=by simp[CL]
end Go.Proofs.YtpdfifdlhpmofaaGreatDoor
