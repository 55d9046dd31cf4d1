/-
  Part 9 of the proof.
-/
import Derived.Test.YtpdfifdlhpmofaaGreatDoorZ00
set_option linter.unusedVariables false
set_option linter.unusedSimpArgs false
set_option maxHeartbeats 3200000
set_option maxRecDepth 100000
namespace Go.Proofs.YtpdfifdlhpmofaaGreatDoor
open Go.Lib (hid)
structure At where
 AR:Bool
 v:Int
deriving DecidableEq
def At.zero:At:=⟨false,0⟩
inductive Bt where
 | nil
 | set (v:Int) (op:ByteArray) (a b:At) (rest:Bt)
 | get (v:Int) (first size:Int) (AW:At) (rest:Bt)
 | put (first size:Int) (AW:At) (a:At) (rest:Bt)
 | out (a:At) (rest:Bt)
 | atomic (body rest:Bt)
 | EA (a:At) (body rest:Bt)
 | loop (n:Int) (body rest:Bt)
def Bt.Fj:Bt->Bt->Bt
 | .nil,t=>t
 | .set v op a b r,t=> .set v op a b (r.Fj t)
 | .get v f s a r,t=> .get v f s a (r.Fj t)
 | .put f s AW a r,t=> .put f s AW a (r.Fj t)
 | .out a r,t=> .out a (r.Fj t)
 | .atomic b r,t=> .atomic b (r.Fj t)
 | .EA a b r,t=> .EA a b (r.Fj t)
 | .loop n b r,t=> .loop n b (r.Fj t)
structure Ag where
 B0:Bool
 v:Int
def Ag.n (v:Int):Ag:=⟨false,v⟩
def Ag.r (k:Int):Ag:=⟨true,k⟩
inductive GI where
 | Sq (d:Int) (a:Ag)
 | op (name:ByteArray) (d:Int) (a b:Ag)
 | load (d:Int) (a:Ag) (k:Int)
 | store (a:Ag) (k:Int) (b:Ag)
 | JL (d:Int) (a:Ag) (k:Int) (b c:Ag)
 | DL (d:Int) (a:Ag) (k:Int) (b:Ag)
 | IV
 | out (a:Ag)
 | Gb (q:Int)
 | jz (a:Ag) (q:Int)
 | EF (k:Int)
 | halt
structure Ij where
 k:Nat
 a:Option Ag
structure GS where
 Ab:List GI
 Ac:Int
 cells:Int
 block:Bool
 BL:List Ij
 Aj:Int
namespace GS
def AP (g:GS) (i:GI):GS:={g with Ab:=g.Ab++[i]}
def Bd (g:GS) (l:Ij):GS:={g with Ab:=g.Ab.set l.k (match l.a with | none=> .Gb g.Ab.length | some a=> .jz a g.Ab.length)}
def SU (g:GS):Ij:=⟨g.Ab.length,none⟩
def Dn (g:GS):GS:=g.AP (.Gb 0)
def EX (g:GS) (a:Ag):Ij:=⟨g.Ab.length,some a⟩
def CV (g:GS) (a:Ag):GS:=g.AP (.jz a 0)
def lo (g:GS) (r k:Int):GS:=g.AP (.load r (.n (g.Ac+k)) 0)
def Py (g:GS) (r table i:Int):GS:=g.AP (.load r (.r i) (g.Ac+table))
def NR (g:GS) (r k:Int):GS:=g.AP (.load r (.n k) 0)
def st (g:GS) (k:Int) (a:Ag):GS:=g.AP (.store (.n (g.Ac+k)) 0 a)
def IL (g:GS) (table i:Int) (a:Ag):GS:=g.AP (.store (.r i) (g.Ac+table) a)
def Re (g:GS) (k:Int) (a:Ag):GS:=g.AP (.store (.n k) 0 a)
def Ix (g:GS) (name:ByteArray) (d:Int) (a b:Ag):GS:=g.AP (.op name d a b)
def Cz (g:GS) (a:At) (r:Int):GS:=if a.AR then g.lo r a.v else g
def BF (a:At) (r:Int):Ag:=if a.AR then .r r else .n a.v
def IW (g:GS) (r:Int):GS:={(g.CV (.r r)) with BL:=g.BL++[g.EX (.r r)]}
end GS
def Ja:ByteArray:=⟨#[97,100,100]⟩
def I9:ByteArray:=⟨#[115,117,98]⟩
def Wf:ByteArray:=⟨#[97,110,100]⟩
def sJ:ByteArray:=⟨#[111,114]⟩
def Qy:ByteArray:=⟨#[115,104,108]⟩
def Uz:ByteArray:=⟨#[115,104,114]⟩
def XV:ByteArray:=⟨#[108,116]⟩
def XW:ByteArray:=⟨#[101,113]⟩
namespace GS
def Jw (g:GS) (r:Int):GS:=
 let g:=g.Ix Wf 3 (.r r) (.n 1)
 let g:=g.Ix XW 3 (.r 3) (.n 0)
 let g:=g.IW 3
 let g:=g.Ix Uz 3 (.r r) (.n 1)
 let g:=g.lo 4 38
 let g:=g.Ix XV 3 (.r 4) (.r 3)
 let g:=g.Ix XW 3 (.r 3) (.n 0)
 g.IW 3
def E7 (g:GS) (first size:Int) (a:At):GS:=
 let AW:=BF a 0
 let g:=g.Cz a 0
 let g:=g.Ix XV 3 AW (.n 0)
 let low:=g.EX (.r 3)
 let g:=g.CV (.r 3)
 let g:=g.AP (.EF 2)
 let g:=g.Bd low
 let g:=g.Ix XV 3 AW (.n size)
 let g:=g.Ix XW 3 (.r 3) (.n 0)
 let high:=g.EX (.r 3)
 let g:=g.CV (.r 3)
 let g:=g.AP (.EF 2)
 let g:=g.Bd high
 g.Ix Ja 0 AW (.n first)
def PK (g:GS):GS:=
 let g:=g.Py 1 8 0
 let fresh:=g.EX (.r 1)
 let g:=g.CV (.r 1)
 let g:=g.Py 1 14 0
 let done:=g.SU
 let g:=g.Dn
 let g:=g.Bd fresh
 let g:=g.AP (.load 2 (.r 0) 8)
 let g:=g.Jw 2
 let g:=g.AP (.load 1 (.r 0) 0)
 let g:=g.AP (.load 3 (.r 0) 8)
 let g:=g.Ix XW 3 (.r 3) (.r 2)
 let g:=g.IW 3
 let g:=g.IL 20 0 (.n 1)
 g.Bd done
def LS (g:GS) (c table:Int):GS:=(g.lo 1 (table+c)).CV (.r 1)
def Rh (g:GS) (c table:Int):Ij:=(g.lo 1 (table+c)).EX (.r 1)
def Om (c:Nat) (g:GS):GS:=
 let skip:=g.Rh c 8
 let g:=g.LS c 8
 let g:=g.NR 2 (8+c)
 let g:=g.Jw 2
 let g:=g.Ix sJ 3 (.r 2) (.n 1)
 let g:=g.AP (.JL 3 (.n (8+c)) 0 (.r 2) (.r 3))
 let g:=g.IW 3
 let g:=g.st (26+c) (.n 1)
 let g:=g.st (32+c) (.r 2)
 g.Bd skip
def Ol (c:Nat) (g:GS):GS:=
 let skip:=g.Rh c 20
 let g:=g.LS c 20
 let BW:=g.Rh c 26
 let g:=g.LS c 26
 let Am:=g.SU
 let g:=g.Dn
 let g:=g.Bd BW
 let g:=g.NR 2 (8+c)
 let g:=g.Jw 2
 let g:=g.Bd Am
 g.Bd skip
def Uw (c:Nat) (g:GS):GS:=
 let skip:=g.Rh c 8
 let g:=g.LS c 8
 let g:=g.lo 2 (14+c)
 let g:=g.Re c (.r 2)
 g.Bd skip
def OH (c:Nat) (g:GS):GS:=
 let skip:=g.Rh c 8
 let g:=g.LS c 8
 let g:=g.Re (8+c) (.r 5)
 g.Bd skip
def LW (f:Nat->GS->GS):Nat->GS->GS
 | 0,g=>g
 | n+1,g=>f n (LW f n g)
def Eu (g:GS):GS:=
 let n:=g.cells.toNat
 let g:=LW Om n g
 let g:=g.AP (.DL 5 (.n 16) 0 (.n 1))
 let g:=g.Ix Ja 5 (.r 5) (.n 1)
 let g:=g.Ix Qy 5 (.r 5) (.n 1)
 let g:=LW Ol n g
 let g:=LW Uw n g
 LW OH n g
def GD (g:GS):GS:=
 let g:=g.AP (.Sq 1 (.n 0))
 let Dw:=g.Ab.length
 let g:=g.lo 2 39
 let g:=g.Ix XV 2 (.r 1) (.r 2)
 let done:=g.EX (.r 2)
 let g:=g.CV (.r 2)
 let g:=g.Py 2 40 1
 let g:=g.AP (.out (.r 2))
 let g:=g.Ix Ja 1 (.r 1) (.n 1)
 let g:=g.AP (.Gb Dw)
 g.Bd done
def NL (c:Nat) (g:GS):GS:=
 let g:=g.lo 1 (26+c)
 let skip:=g.EX (.r 1)
 let g:=g.CV (.r 1)
 let g:=g.lo 2 (32+c)
 let g:=g.Re (8+c) (.r 2)
 g.Bd skip
def NF (i:Nat) (g:GS):GS:=(g.lo 1 (4+i)).st i (.r 1)
def Gg (g:GS) (Dw:Nat):GS:=
 let g:=LW NL g.cells.toNat g
 let g:=LW NF 4 g
 g.AP (.Gb Dw)
def NC (i:Nat) (g:GS):GS:=(g.lo 1 i).st (4+i) (.r 1)
def Jg (c:Nat) (g:GS):GS:=((g.st (8+c) (.n 0)).st (20+c) (.n 0)).st (26+c) (.n 0)
end GS
def Cr:Bt->Bool
 | .nil=>false
 | .put .. =>true
 | .EA _ b r=>Cr b || Cr r
 | .loop _ b r=>Cr b || Cr r
 | .set _ _ _ _ r=>Cr r
 | .get _ _ _ _ r=>Cr r
 | .out _ r=>Cr r
 | .atomic _ r=>Cr r
namespace GS
def BX (g:GS):GS:=
 let g:=LW NC 4 g
 g
def QP (g:GS):GS:=
 let g:=LW Jg g.cells.toNat g
 let g:=g.st 39 (.n 0)
 let g:=g.NR 1 16
 let g:=g.st 38 (.r 1)
 {g with block:=true,BL:=[]}
def Nu (g:GS) (Dw:Nat) (BJ:Bool):GS:=
 let g:={g with block:=false}
 let g:=if BJ then g.Eu else g
 let g:=g.GD
 let done:=g.SU
 let g:=g.Dn
 let g:=g.BL.foldl Bd g
 let g:=g.Gg Dw
 g.Bd done
def Dr:Bt->GS->GS
 | .nil,g=>g
 | .set v op a b r,g=>
  let g1:=g.Cz a 1
  let g2:=if op.size=0 then g1.st v (BF a 1) else
   let g3:=g1.Cz b 2
   (g3.Ix op 1 (BF a 1) (BF b 2)).st v (.r 1)
  Dr r g2
 | .get v f s a r,g=>Dr r (((g.E7 f s a).PK).st v (.r 1))
 | .put f s AW a r,g=>
  let g1:=g.E7 f s AW
  let g2:=g1.Cz a 1
  Dr r ((g2.IL 14 0 (BF a 1)).IL 8 0 (.n 1))
 | .out a r,g=>
  let g1:=g.Cz a 1
  Dr r (if g.block then (((g1.lo 2 39).IL 40 2 (BF a 1)).Ix Ja 2 (.r 2) (.n 1)).st 39 (.r 2) else g1.AP (.out (BF a 1)))
 | .EA a b r,g=>
  let g1:=g.Cz a 1
  let skip:=g1.EX (BF a 1)
  Dr r ((Dr b (g1.CV (BF a 1))).Bd skip)
 | .loop n b r,g=>
  let k:=48+g.Aj
  let g1:=g.st k (.n n)
  let Dw:=g1.Ab.length
  let g2:=Dr b {g1 with Aj:=g1.Aj+1}
  let g3:={g2 with Aj:=g2.Aj - 1}
  let g4:=((g3.lo 1 k).Ix I9 1 (.r 1) (.n 1)).st k (.r 1)
  let done:=g4.EX (.r 1)
  Dr r (((g4.CV (.r 1)).AP (.Gb Dw)).Bd done)
 | .atomic b r,g=>
  let g1:=g.BX
  Dr r ((Dr b g1.QP).Nu g1.Ab.length (Cr b))
def start (k:Nat) (cells:Int):GS:=⟨[],32+64*k,cells,false,[],0⟩
end GS
def Gf (cells:Int) (k:Nat) (t:Bt):List GI:=((GS.Dr t (.start k cells)).AP .halt).Ab
end Go.Proofs.YtpdfifdlhpmofaaGreatDoor
