/-
  Part 11 of the proof, packed by program out of P1.
-/
import Derived.Lib.Hide
set_option linter.unusedVariables false
set_option linter.unusedSimpArgs false
set_option maxHeartbeats 3200000
set_option maxRecDepth 100000
namespace Go.Proofs.YtpdfifdlhpmofaaGreatDoor
open Go.Lib (hid)
structure At where
 AL:Bool
 v:Int
deriving DecidableEq
def At.zero:At:=⟨false,0⟩
inductive Ck where
 | nil
 | set (v:Int) (op:ByteArray) (a b:At) (rest:Ck)
 | get (v:Int) (first size:Int) (A5:At) (rest:Ck)
 | put (first size:Int) (A5:At) (a:At) (rest:Ck)
 | out (a:At) (rest:Ck)
 | atomic (body rest:Ck)
 | ES (a:At) (body rest:Ck)
 | loop (n:Int) (body rest:Ck)
def Ck.Ec:Ck→Ck→Ck
 | .nil,t=>t
 | .set v op a b r,t=> .set v op a b (r.Ec t)
 | .get v f s a r,t=> .get v f s a (r.Ec t)
 | .put f s A5 a r,t=> .put f s A5 a (r.Ec t)
 | .out a r,t=> .out a (r.Ec t)
 | .atomic b r,t=> .atomic b (r.Ec t)
 | .ES a b r,t=> .ES a b (r.Ec t)
 | .loop n b r,t=> .loop n b (r.Ec t)
structure Ag where
 BF:Bool
 v:Int
def Ag.n (v:Int):Ag:=⟨false,v⟩
def Ag.r (k:Int):Ag:=⟨true,k⟩
inductive GI where
 | J9 (d:Int) (a:Ag)
 | op (name:ByteArray) (d:Int) (a b:Ag)
 | load (d:Int) (a:Ag) (k:Int)
 | store (a:Ag) (k:Int) (b:Ag)
 | LL (d:Int) (a:Ag) (k:Int) (b c:Ag)
 | GL (d:Int) (a:Ag) (k:Int) (b:Ag)
 | Mf
 | out (a:Ag)
 | Ga (to:Int)
 | jz (a:Ag) (to:Int)
 | Eu (k:Int)
 | halt
structure D8 where
 k:Nat
 a:Option Ag
structure GS where
 Af:List GI
 Ah:Int
 cells:Int
 block:Bool
 Be:List D8
 Aj:Int
namespace GS
def Aq (g:GS) (i:GI):GS:={g with Af:=g.Af++[i]}
def AM (g:GS) (l:D8):GS:={g with Af:=g.Af.set l.k (match l.a with | none=> .Ga g.Af.length | some a=> .jz a g.Af.length)}
def O5 (g:GS):D8:=⟨g.Af.length,none⟩
def Bc (g:GS):GS:=g.Aq (.Ga 0)
def Ex (g:GS) (a:Ag):D8:=⟨g.Af.length,some a⟩
def An (g:GS) (a:Ag):GS:=g.Aq (.jz a 0)
def lo (g:GS) (r k:Int):GS:=g.Aq (.load r (.n (g.Ah+k)) 0)
def Bj (g:GS) (r table i:Int):GS:=g.Aq (.load r (.r i) (g.Ah+table))
def C7 (g:GS) (r k:Int):GS:=g.Aq (.load r (.n k) 0)
def st (g:GS) (k:Int) (a:Ag):GS:=g.Aq (.store (.n (g.Ah+k)) 0 a)
def Fj (g:GS) (table i:Int) (a:Ag):GS:=g.Aq (.store (.r i) (g.Ah+table) a)
def HJ (g:GS) (k:Int) (a:Ag):GS:=g.Aq (.store (.n k) 0 a)
def A2 (g:GS) (name:ByteArray) (d:Int) (a b:Ag):GS:=g.Aq (.op name d a b)
def AH (g:GS) (a:At) (r:Int):GS:=if a.AL then g.lo r a.v else g
def As (a:At) (r:Int):Ag:=if a.AL then .r r else .n a.v
def B0 (g:GS) (r:Int):GS:={(g.An (.r r)) with Be:=g.Be++[g.Ex (.r r)]}
end GS
def Fk:ByteArray:=⟨#[97,100,100]⟩
def Dx:ByteArray:=⟨#[115,117,98]⟩
def Ib:ByteArray:=⟨#[97,110,100]⟩
def PY:ByteArray:=⟨#[111,114]⟩
def Tr:ByteArray:=⟨#[115,104,108]⟩
def Li:ByteArray:=⟨#[115,104,114]⟩
def D6:ByteArray:=⟨#[108,116]⟩
def GB:ByteArray:=⟨#[101,113]⟩
namespace GS
def BI (g:GS) (r:Int):GS:=
 let g:=g.A2 Ib 3 (.r r) (.n 1)
 let g:=g.A2 GB 3 (.r 3) (.n 0)
 let g:=g.B0 3
 let g:=g.A2 Li 3 (.r r) (.n 1)
 let g:=g.lo 4 38
 let g:=g.A2 D6 3 (.r 4) (.r 3)
 let g:=g.A2 GB 3 (.r 3) (.n 0)
 g.B0 3
def Cz (g:GS) (first size:Int) (a:At):GS:=
 let A5:=As a 0
 let g:=g.AH a 0
 let g:=g.A2 D6 3 A5 (.n 0)
 let low:=g.Ex (.r 3)
 let g:=g.An (.r 3)
 let g:=g.Aq (.Eu 2)
 let g:=g.AM low
 let g:=g.A2 D6 3 A5 (.n size)
 let g:=g.A2 GB 3 (.r 3) (.n 0)
 let high:=g.Ex (.r 3)
 let g:=g.An (.r 3)
 let g:=g.Aq (.Eu 2)
 let g:=g.AM high
 g.A2 Fk 0 A5 (.n first)
def KD (g:GS):GS:=
 let g:=g.Bj 1 8 0
 let fresh:=g.Ex (.r 1)
 let g:=g.An (.r 1)
 let g:=g.Bj 1 14 0
 let done:=g.O5
 let g:=g.Bc
 let g:=g.AM fresh
 let g:=g.Aq (.load 2 (.r 0) 8)
 let g:=g.BI 2
 let g:=g.Aq (.load 1 (.r 0) 0)
 let g:=g.Aq (.load 3 (.r 0) 8)
 let g:=g.A2 GB 3 (.r 3) (.r 2)
 let g:=g.B0 3
 let g:=g.Fj 20 0 (.n 1)
 g.AM done
def GQ (g:GS) (c table:Int):GS:=(g.lo 1 (table+c)).An (.r 1)
def N6 (g:GS) (c table:Int):D8:=(g.lo 1 (table+c)).Ex (.r 1)
def GD (c:Nat) (g:GS):GS:=
 let skip:=g.N6 c 8
 let g:=g.GQ c 8
 let g:=g.C7 2 (8+c)
 let g:=g.BI 2
 let g:=g.A2 PY 3 (.r 2) (.n 1)
 let g:=g.Aq (.LL 3 (.n (8+c)) 0 (.r 2) (.r 3))
 let g:=g.B0 3
 let g:=g.st (26+c) (.n 1)
 let g:=g.st (32+c) (.r 2)
 g.AM skip
def GC (c:Nat) (g:GS):GS:=
 let skip:=g.N6 c 20
 let g:=g.GQ c 20
 let mine:=g.N6 c 26
 let g:=g.GQ c 26
 let Al:=g.O5
 let g:=g.Bc
 let g:=g.AM mine
 let g:=g.C7 2 (8+c)
 let g:=g.BI 2
 let g:=g.AM Al
 g.AM skip
def Le (c:Nat) (g:GS):GS:=
 let skip:=g.N6 c 8
 let g:=g.GQ c 8
 let g:=g.lo 2 (14+c)
 let g:=g.HJ c (.r 2)
 g.AM skip
def GY (c:Nat) (g:GS):GS:=
 let skip:=g.N6 c 8
 let g:=g.GQ c 8
 let g:=g.HJ (8+c) (.r 5)
 g.AM skip
def EO (f:Nat→GS→GS):Nat→GS→GS
 | 0,g=>g
 | n+1,g=>f n (EO f n g)
def EM (g:GS):GS:=
 let n:=g.cells.toNat
 let g:=EO GD n g
 let g:=g.Aq (.GL 5 (.n 16) 0 (.n 1))
 let g:=g.A2 Fk 5 (.r 5) (.n 1)
 let g:=g.A2 Tr 5 (.r 5) (.n 1)
 let g:=EO GC n g
 let g:=EO Le n g
 EO GY n g
def G0 (g:GS):GS:=
 let g:=g.Aq (.J9 1 (.n 0))
 let top:=g.Af.length
 let g:=g.lo 2 39
 let g:=g.A2 D6 2 (.r 1) (.r 2)
 let done:=g.Ex (.r 2)
 let g:=g.An (.r 2)
 let g:=g.Bj 2 40 1
 let g:=g.Aq (.out (.r 2))
 let g:=g.A2 Fk 1 (.r 1) (.n 1)
 let g:=g.Aq (.Ga top)
 g.AM done
def IU (c:Nat) (g:GS):GS:=
 let g:=g.lo 1 (26+c)
 let skip:=g.Ex (.r 1)
 let g:=g.An (.r 1)
 let g:=g.lo 2 (32+c)
 let g:=g.HJ (8+c) (.r 2)
 g.AM skip
def IQ (i:Nat) (g:GS):GS:=(g.lo 1 (4+i)).st i (.r 1)
def Ke (g:GS) (top:Nat):GS:=
 let g:=EO IU g.cells.toNat g
 let g:=EO IQ 4 g
 g.Aq (.Ga top)
def FR (i:Nat) (g:GS):GS:=(g.lo 1 i).st (4+i) (.r 1)
def D3 (c:Nat) (g:GS):GS:=((g.st (8+c) (.n 0)).st (20+c) (.n 0)).st (26+c) (.n 0)
end GS
def Du:Ck→Bool
 | .nil=>false
 | .put .. =>true
 | .ES _ b r=>Du b || Du r
 | .loop _ b r=>Du b || Du r
 | .set _ _ _ _ r=>Du r
 | .get _ _ _ _ r=>Du r
 | .out _ r=>Du r
 | .atomic _ r=>Du r
namespace GS
def BV (g:GS):GS:=
 let g:=EO FR 4 g
 g
def NM (g:GS):GS:=
 let g:=EO D3 g.cells.toNat g
 let g:=g.st 39 (.n 0)
 let g:=g.C7 1 16
 let g:=g.st 38 (.r 1)
 {g with block:=true,Be:=[]}
def Lv (g:GS) (top:Nat) (Cu:Bool):GS:=
 let g:={g with block:=false}
 let g:=if Cu then g.EM else g
 let g:=g.G0
 let done:=g.O5
 let g:=g.Bc
 let g:=g.Be.foldl AM g
 let g:=g.Ke top
 g.AM done
def BX:Ck→GS→GS
 | .nil,g=>g
 | .set v op a b r,g=>
  let g1:=g.AH a 1
  let g2:=if op.size=0 then g1.st v (As a 1) else
   let g3:=g1.AH b 2
   (g3.A2 op 1 (As a 1) (As b 2)).st v (.r 1)
  BX r g2
 | .get v f s a r,g=>BX r (((g.Cz f s a).KD).st v (.r 1))
 | .put f s A5 a r,g=>
  let g1:=g.Cz f s A5
  let g2:=g1.AH a 1
  BX r ((g2.Fj 14 0 (As a 1)).Fj 8 0 (.n 1))
 | .out a r,g=>
  let g1:=g.AH a 1
  BX r (if g.block then (((g1.lo 2 39).Fj 40 2 (As a 1)).A2 Fk 2 (.r 2) (.n 1)).st 39 (.r 2) else g1.Aq (.out (As a 1)))
 | .ES a b r,g=>
  let g1:=g.AH a 1
  let skip:=g1.Ex (As a 1)
  BX r ((BX b (g1.An (As a 1))).AM skip)
 | .loop n b r,g=>
  let k:=48+g.Aj
  let g1:=g.st k (.n n)
  let top:=g1.Af.length
  let g2:=BX b {g1 with Aj:=g1.Aj+1}
  let g3:={g2 with Aj:=g2.Aj - 1}
  let g4:=((g3.lo 1 k).A2 Dx 1 (.r 1) (.n 1)).st k (.r 1)
  let done:=g4.Ex (.r 1)
  BX r (((g4.An (.r 1)).Aq (.Ga top)).AM done)
 | .atomic b r,g=>
  let g1:=g.BV
  BX r ((BX b g1.NM).Lv g1.Af.length (Du b))
def start (k:Nat) (cells:Int):GS:=⟨[],32+64*k,cells,false,[],0⟩
end GS
def IK (cells:Int) (k:Nat) (t:Ck):List GI:=((GS.BX t (.start k cells)).Aq .halt).Af
end Go.Proofs.YtpdfifdlhpmofaaGreatDoor
