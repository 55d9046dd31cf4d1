/-
  Part 10 of the proof.
-/
import Derived.Test.YtpdfifdlhpmofaaGreatDoorZ08
import Derived.Test.YtpdfifdlhpmofaaGreatDoorZ09
set_option linter.unusedVariables false
set_option linter.unusedSimpArgs false
set_option maxHeartbeats 3200000
set_option maxRecDepth 100000
namespace Go.Proofs.YtpdfifdlhpmofaaGreatDoor
open Go.RowKit
open Go.Lib (hid)
theorem maS {p:Prop} (h:p:=by
 obtain⟨i1,i2⟩:=ih d (p+1) _ B4 os is_ n m hw.2.2.2.2 (h.same hs.1 hs.2) hd h3;exact⟨⟨h.cb,by simp[Nd.of],i1⟩,i2⟩):p:=h
theorem mbo {p:Prop} (h:p:=by
 by_cases h1:Bg (bs a) <;>by_cases h2:C7 (bs b) <;>by_cases h3:0<=A6 Dx c <;>by_cases h4:C7 (bs d) <;>simp[h1,h2,h3,h4,CE,BY,Ci,BS,D0,Dd,ET,DB,CH,Dv]):p:=h
theorem mbr {p:Prop} (h:p:=by
 by_cases h1:Bg (bs a) <;>by_cases h2:Bg (bs b) <;>by_cases h3:bs c=iF <;>by_cases h4:C7 (bs d) <;>simp[h1,h2,h3,h4,CE,BY,Ci,BS,D0,Dd,ET,DB,CH,Dv]):p:=h
theorem mbs {p:Prop} (h:p:=by
 by_cases h1:Bg (bs a) <;>by_cases h2:C7 (bs b) <;>by_cases h3:bs c=iF <;>by_cases h4:C7 (bs d) <;>simp[h1,h2,h3,h4,CE,BY,Ci,BS,D0,Dd,ET,DB,CH,Dv]):p:=h
theorem mbG {p:Prop} (h:p:=by
 obtain⟨q,m1,m2,m3,m4,m5⟩:=hm;exact⟨vy.2,q,_,m1,m2,m3,m4,m5,.inl ⟨_,⟨fun d p=>rfl,rfl,by simp[Nd.of]⟩,rfl⟩⟩):p:=h
theorem mbK {p:Prop} (h:p:=by
 by_cases h1:Bg (bs a) <;>simp[h1,CE,BY,Ci,BS,D0,Dd,ET,DB,CH,Dv]):p:=h
theorem mbQ {p:Prop} (h:p:=by
 simp only[EI.mk.injEq,true_and,and_true];constructor <;>omega):p:=h
theorem mbU {p:Prop} (h:p:=by
 rintro(a | ⟨a,b⟩ | ⟨a,b⟩)
 ·exact .inl a
 ·exact .inr (.inl ⟨b,a⟩)
 ·exact .inr (.inr ⟨b,a⟩)):p:=h
theorem mbX {p:Prop} (h:p:=by
 simp only[BP,Qa8,Qby];exact j2):p:=h
theorem mbY {p:Prop} (h:p:=by
 exact⟨x,_,_,rfl,h,rfl,rfl,rfl,.inr ⟨_,rfl,rfl⟩⟩):p:=h
theorem mca {p:Prop} (h:p:=by
 by_cases h1:Bg (bs a) <;>by_cases h2:C7 (bs b) <;>simp[h1,h2,CE,BY,Ci,BS,D0,Dd,ET,DB,CH,Dv]):p:=h
variable {α:Type} {n:Nat} {s:By} {ts:List Bt} {t:Bt} {m cells:Int} {w:ByteArray} {os is_:List Int}
def Ay (b:By):ByteArray:=⟨b.toArray⟩
theorem Cw (b:By):bs (Ay b)=b:=by simp[bs,Ay]
theorem UZ (s:ByteArray):Ay (bs s)=s:=Nt (Cw _)
theorem Q6 {l:List ByteArray} {p:List By} (h:l.map bs=p):l=p.map Ay:=by
 subst h;rw[Qdo];have:(Ay∘bs)=id:=funext UZ;rw[this,List.map_id]
def Bn (p:By):List ByteArray:=(Ax 32 p).map Ay
inductive JJ where
 | atomic
 | EA (a:At)
 | loop (n:Int)
structure Fr where
 kind:JJ
 body:Bt
def JJ.CD:JJ->Bool
 | .atomic=>true
 | _=>false
def Fr.done (f:Fr) (rest:Bt):Bt:=match f.kind with
 | .atomic=> .atomic f.body rest
 | .EA a=> .EA a f.body rest
 | .loop n=> .loop n f.body rest
structure fF where
 name:ByteArray
 first:Int
 size:Int
structure qr where
 cells:Int
 Aa:List Bt
 As:List fF
 AA:List ByteArray
 Af:List Fr
 Ah:Int
variable {x:qr}
def qr.Dl:qr:=⟨0,[],[],[],[],0⟩
structure Wd where
 name:ByteArray
 v:Int
def Wd.zero:Wd:=⟨⟨#[]⟩,0⟩
abbrev Ws:=List ByteArray
def YW:Ws->Option (ByteArray×Ws)
 | []=>none
 | a::r=>if Bg (bs a) then some (a,r) else none
def Ff:Ws->Option (Wd×Ws)
 | []=>none
 | a::r=>if Bg (bs a) then some (⟨a,0⟩,r) else match number (bs a) with
  | some v=>some (⟨⟨#[]⟩,v⟩,r)
  | none=>none
def Il (BH:Int) (l:Ws):Option (Int×Ws):=match Ff l with
 | none=>none
 | some (w,r)=>if w.name.size=0/\1<=w.v/\w.v<=BH then some (w.v,r) else none
def xr:Ws->Option (Wd×Ws)
 | []=>some (.zero,[])
 | a::r=>if bs a=iF then Ff r else some (.zero,a::r)
def kv (a:ByteArray):Option ByteArray:=if 0<=A6 Dx a then some (wd Cj (A6 Dx a).toNat) else none
inductive Sg where
 | set (n:ByteArray) (a:Wd) (op:ByteArray) (b:Wd)
 | get (n s:ByteArray) (AW:Wd)
 | put (s:ByteArray) (a:Wd) (AW:Wd)
 | out (a:Wd)
 | atomic
 | EA (a:Wd)
 | loop (n:Int)
def Sg.CD:Sg->Bool
 | .get .. =>true
 | .put .. =>true
 | _=>false
def GK {α:Type} (x:α):Ws->Option α
 | []=>some x
 | _::_=>none
def I6 (r:Ws):Option Sg:=match YW r with
 | none=>none
 | some (n,r)=>match Ff r with
  | none=>none
  | some (a,[])=>some (.set n a ⟨#[]⟩ .zero)
  | some (a,o::r)=>match kv o with
   | none=>none
   | some op=>match Ff r with
    | none=>none
    | some (b,r)=>GK (.set n a op b) r
def Kz (r:Ws):Option Sg:=match YW r with
 | none=>none
 | some (n,r)=>match YW r with
  | none=>none
  | some (s,r)=>match xr r with
   | none=>none
   | some (a,r)=>GK (.get n s a) r
def Kx (r:Ws):Option Sg:=match YW r with
 | none=>none
 | some (s,r)=>match Ff r with
  | none=>none
  | some (a,r)=>match xr r with
   | none=>none
   | some (i,r)=>GK (.put s a i) r
def Fc (f:Wd->Sg) (r:Ws):Option Sg:=match Ff r with
 | none=>none
 | some (a,r)=>GK (f a) r
def J8 (r:Ws):Option Sg:=match Il 4 r with
 | none=>none
 | some (n,r)=>GK (.loop n) r
def IA (w:ByteArray) (r:Ws):Option Sg:=
 if bs w=CY then I6 r
 else if bs w=CF then Kz r
 else if bs w=CZ then Kx r
 else if bs w=DI then Fc .out r
 else if bs w=AH then GK .atomic r
 else if bs w=Kb then Fc .EA r
 else if bs w=Dp then J8 r
 else none
namespace qr
def Fg (x:qr):Nat:=if x.Aa=[] then 0 else x.Af.length+1
def Bu (x:qr):Bool:=x.Af.any fun f=>f.kind.CD
def CO (x:qr) (w:Wd):Except Int At:=
 if w.name.size=0 then .ok ⟨false,w.v⟩ else if 0<=A6 x.AA w.name then .ok ⟨true,A6 x.AA w.name⟩ else .error 4
def Ti (x:qr) (n:ByteArray):Option fF:=x.As.find? fun s=>decide (bs s.name=bs n)
def Dy (x:qr) (n:ByteArray):Except Int (Int×qr):=
 if (x.Ti n).isSome then .error 4
 else if 0<=A6 x.AA n then .ok (A6 x.AA n,x)
 else if x.AA.length=4 then .error 5
 else .ok (x.AA.length,{x with AA:=x.AA++[n]})
def cell (x:qr) (n:ByteArray) (AW:Wd):Except Int (Int×Int×At):=match x.Ti n with
 | none=> .error 4
 | some s=>match x.CO AW with
  | .error c=> .error c
  | .ok a=> .ok (s.first,s.size,a)
def add (x:qr) (s:Bt->Bt):qr:=
 match x.Af.getLast? with
 | some f=>{x with Af:=x.Af.dropLast++[{f with body:=f.body.Fj (s .nil)}]}
 | none=>match x.Aa.getLast? with
  | some t=>{x with Aa:=x.Aa.dropLast++[t.Fj (s .nil)]}
  | none=>x
def D5 (x:qr) (k:JJ):qr:={x with Af:=x.Af++[⟨k,.nil⟩]}
def finish (x:qr):Sg->Except Int qr
 | .set n a op b=>match x.CO a with
  | .error c=> .error c
  | .ok a=>match x.CO b with
   | .error c=> .error c
   | .ok b=>match x.Dy n with
    | .error c=> .error c
    | .ok (v,x)=> .ok (x.add (.set v op a b))
 | .get n s AW=>match x.cell s AW with
  | .error c=> .error c
  | .ok (f,z,a)=>match x.Dy n with
   | .error c=> .error c
   | .ok (v,x)=> .ok (x.add (.get v f z a))
 | .put s a AW=>match x.cell s AW with
  | .error c=> .error c
  | .ok (f,z,i)=>match x.CO a with
   | .error c=> .error c
   | .ok a=> .ok (x.add (.put f z i a))
 | .out a=>match x.CO a with
  | .error c=> .error c
  | .ok a=> .ok (x.add (.out a))
 | .atomic=> .ok (x.D5 .atomic)
 | .EA a=>match x.CO a with
  | .error c=> .error c
  | .ok a=> .ok (x.D5 (.EA a))
 | .loop n=> .ok (x.D5 (.loop n))
def AL (x:qr) (w:ByteArray) (r:Ws):Except Int qr:=match IA w r with
 | none=> .error 2
 | some s=>if x.Aa=[]\/(s.CD=true/\x.Bu=false)\/(bs w=AH/\x.Bu=true) then .error 3
  else match x.finish s with
   | .error c=> .error c
   | .ok y=>if 14 < y.Ah+1\/4 < y.Fg then .error 5 else .ok {y with Ah:=y.Ah+1}
def D6 (x:qr) (r:Ws):Except Int qr:=match YW r with
 | none=> .error 2
 | some (n,r)=>match (match r with | []=>some (1,[]) | a::r=>Il 6 (a::r)) with
  | none=> .error 2
  | some (_,_::_)=> .error 2
  | some (size,[])=>if x.Aa≠[] then .error 3 else if (x.Ti n).isSome then .error 4
   else .ok {x with As:=x.As++[⟨n,x.cells,size⟩],cells:=x.cells+size}
def row (x:qr):Ws->Except Int qr
 | []=> .error 2
 | w::r=>
  if bs w=AK then x.D6 r
  else if bs w=AE then
   if r≠[] then .error 2 else if x.Af≠[] then .error 3
   else .ok {x with Aa:=x.Aa++[.nil],AA:=[],Ah:=0,Af:=[]}
  else if bs w=Ey then
   if r≠[] then .error 2 else match x.Af.getLast? with
    | none=> .error 3
    | some f=> .ok ({x with Af:=x.Af.dropLast}.add f.done)
  else x.AL w r
end qr
def Aq:Bt->Int->Option (Int×Int)
 | .nil,_=>some (0,0)
 | .set _ _ _ _ r,n=>Aq r n
 | .get _ _ _ _ r,n=>Aq r n
 | .put _ _ _ _ r,n=>Aq r n
 | .out _ r,n=>match Aq r n with | none=>none | some (b,o)=>some (b,n+o)
 | .EA _ b r,n=>match Aq b n with
  | none=>none
  | some (b1,o1)=>match Aq r n with | none=>none | some (b2,o2)=>some (b1+b2,o1+o2)
 | .loop k b r,n=>match Aq b (n*k) with
  | none=>none
  | some (b1,o1)=>match Aq r n with | none=>none | some (b2,o2)=>some (b1+b2,o1+o2)
 | .atomic b r,n=>match Aq b 1 with
  | none=>none
  | some (_,e)=>if 8 < e then none else match Aq r n with | none=>none | some (b2,o2)=>some (n+b2,o2)
def Ew (x:qr):Bool:=decide (x.cells<=6) && (decide (x.Aa.length<=3) && x.Aa.all fun t=>match Aq t 1 with | none=>false | some (b,_)=>decide (b<=3))
def IC (n:Nat) (x:qr):Except (Int×Nat) qr:=
 if x.Af≠[]\/x.Aa=[] then .error (3,n+1) else if Ew x then .ok x else .error (5,0)
def IB:List By->Nat->qr->Except (Int×Nat) qr
 | [],n,x=>IC n x
 | [p],n,x=>if p=[]/\0 < n then IC n x else .error (2,n+1)
 | p::q::r,n,x=>match x.row (Bn p) with
  | .error c=> .error (c,n+1)
  | .ok y=>IB (q::r) (n+1) y
def Fv (s:By):Except (Int×Nat) qr:=if 2000 < s.length then .error (1,0) else IB (Ax 10 s) 0 .Dl
structure Nd where
 kind:Nat
 v:Int
 op:ByteArray
 a:At
 b:At
 AW:At
 first:Int
 size:Int
 Dg:Int
 n:Int
 Aj:Int
variable {l:List Nd}
def Nd.of (k:Nat):Nd:=⟨k,0,⟨#[]⟩,.zero,.zero,.zero,0,0,0,0,0⟩
structure RP where
 Aa:List (List Nd)
 cells:Int
 Ao:List (List Bool)
 BJ:List Bool
structure RS where
 p:RP
 As:List ByteArray
 first:List Int
 size:List Int
 AA:List ByteArray
 Af:List Nat
 Ah:Int
variable {r q R:RS}
def RS.Dl:RS:=⟨⟨[],0,[],[]⟩,[],[],[],[],[],0⟩
namespace RS
def CM (r:RS):List Nd:=(r.p.Aa.getLast?).getD []
def Be (r:RS) (l:List Nd):RS:={r with p:={r.p with Aa:=r.p.Aa.dropLast++[l]}}
def CO (r:RS) (s:ByteArray):At×Bool:=match number (bs s) with
 | some v=>(⟨false,v⟩,true)
 | none=>(⟨true,A6 r.AA s⟩,decide (0<=A6 r.AA s))
def EY (r:RS) (c:Int):RS:={r with p:={r.p with Ao:=r.p.Ao.dropLast++[((r.p.Ao.getLast?).getD []).set c.toNat true]}}
def DG (r:RS):RS:={r with p:={r.p with BJ:=r.p.BJ.dropLast++[true]}}
def cell (r:RS) (x:Nd) (s:ByteArray) (w:Ws):RS×Nd×Bool:=
 let k:=A6 r.As s
 if k < 0 then (r,x,false) else
  let x:={x with first:=r.first.getD k.toNat 0,size:=r.size.getD k.toNat 0}
  let r:=r.EY x.first
  if w.length=5 then
   let (a,ok):=r.CO (wd w 4)
   (r,{x with AW:=a},ok)
  else (r,x,true)
def JA (r:RS) (x:Nd) (s:ByteArray):Except Int (RS×Nd):=
 if 0<=A6 r.As s then .error 4
 else if 0<=A6 r.AA s then .ok (r,{x with v:=A6 r.AA s})
 else if r.AA.length=4 then .error 5
 else .ok ({r with AA:=r.AA++[s]},{x with v:=r.AA.length})
def node (r:RS) (w:Ws):Except Int (RS×Nd):=
 let w0:=bs (wd w 0)
 if w0=CY then
  let (a,ok):=r.CO (wd w 2)
  let x:={Nd.of 115 with a:=a}
  let (x,ok):=if w.length=5 then
    let (b,too):=r.CO (wd w 4)
    ({x with op:=wd Cj (A6 Dx (wd w 3)).toNat,b:=b},ok && too)
   else (x,ok)
  if ok then r.JA x (wd w 1) else .error 4
 else if w0=CF then
  let (r,x,ok):=r.cell (.of 103) (wd w 2) w
  if ok then r.JA x (wd w 1) else .error 4
 else if w0=CZ then
  let (r,x,ok):=r.cell (.of 112) (wd w 1) w
  let (a,fine):=r.CO (wd w 2)
  if ok && fine then .ok (r.DG,{x with a:=a}) else .error 4
 else if w0=DI then
  let (a,fine):=r.CO (wd w 1)
  if fine then .ok (r,{Nd.of 111 with a:=a}) else .error 4
 else if w0=Kb then
  let (a,fine):=r.CO (wd w 1)
  if fine then .ok (r,{Nd.of 122 with a:=a}) else .error 4
 else if w0=Dp then .ok (r,{Nd.of 108 with n:=(number (bs (wd w 1))).getD 0})
 else if w0=AH then .ok (r,.of 40)
 else .ok (r,.of 0)
def D6 (r:RS) (w:Ws):Except Int RS:=
 if r.p.Aa≠[] then .error 3 else if 0<=A6 r.As (wd w 1) then .error 4
 else
  let n:=if 2 < w.length then (number (bs (wd w 2))).getD 0 else 1
  .ok {r with As:=r.As++[wd w 1],first:=r.first++[r.p.cells],size:=r.size++[n],p:={r.p with cells:=r.p.cells+n}}
def Np (r:RS):Except Int RS:=match r.Af.getLast? with
 | none=> .error 3
 | some AW=>
  let l:=r.CM
  let k:=(l.getD AW (.of 0)).kind
  let l:=if k=40 then l++[.of 41] else if k=108 then l++[{Nd.of 98 with Dg:=AW+1,Aj:=(l.getD AW (.of 0)).Aj}] else l
  .ok ({r with Af:=r.Af.dropLast}.Be (l.set AW {l.getD AW (.of 0) with Dg:=l.length}))
def Bu (r:RS):Bool:=r.Af.any fun k=>(r.CM.getD k (.of 0)).kind==40
def row (r:RS) (w:Ws):Except Int RS:=
 let w0:=bs (wd w 0)
 if w0=AK then r.D6 w
 else if w0=AE then
  if r.Af≠[] then .error 3
  else .ok {r with p:={r.p with Aa:=r.p.Aa++[[]],Ao:=r.p.Ao++[List.replicate r.p.cells.toNat false],BJ:=r.p.BJ++[false]},AA:=[],Ah:=0}
 else if w0=Ey then r.Np
 else if r.p.Aa=[]\/(r.Bu=false/\(w0=CF\/w0=CZ))\/(r.Bu=true/\w0=AH) then .error 3
 else match r.node w with
  | .error c=> .error c
  | .ok (r,x)=>
   if 14 < r.Ah+1 then .error 5
   else if x.kind=122\/x.kind=108\/x.kind=40 then
    if r.Af.length=3 then .error 5
    else .ok ({r with Ah:=r.Ah+1,Af:=r.Af++[r.CM.length]}.Be (r.CM++[{x with Aj:=r.Af.length}]))
   else .ok ({r with Ah:=r.Ah+1}.Be (r.CM++[x]))
end RS
structure EI where
 blocks:Int
 B7:Int
 BH:Int
 Dj:List Int
 B4:List Int
 Fq:Bool
variable {c:EI}
def EI.Dl:EI:=⟨0,0,0,[1],[1],false⟩
def EI.step (c:EI) (x:Nd):EI:=
 let o:=(c.Dj.getLast?).getD 0
 let i:=(c.B4.getLast?).getD 0
 if x.kind=108 then {c with Dj:=c.Dj++[o*x.n],B4:=c.B4++[if c.Fq then i*x.n else 1]}
 else if x.kind=98 then {c with Dj:=c.Dj.dropLast,B4:=c.B4.dropLast}
 else if x.kind=40 then {c with blocks:=c.blocks+o,B7:=0,Fq:=true,B4:=c.B4.dropLast++[1]}
 else if x.kind=41 then {c with Fq:=false}
 else if x.kind=111 then (if c.Fq then {c with B7:=c.B7+i,BH:=if c.BH < c.B7+i then c.B7+i else c.BH} else c)
 else c
def Ig (l:List Nd):Int×Int:=let c:=l.foldl EI.step .Dl;(c.blocks,c.BH)
def G9 (n:Nat) (r:RS):Except (Int×Nat) RP:=
 if r.Af≠[]\/r.p.Aa=[] then .error (3,n+1)
 else if (r.p.Aa.any fun t=>decide (3 < (Ig t).1) || decide (8 < (Ig t).2)) || (decide (6 < r.p.cells) || decide (3 < r.p.Aa.length)) then .error (5,0)
 else .ok r.p
def I2:List By->Nat->RS->Except (Int×Nat) RP
 | [],n,r=>G9 n r
 | [p],n,r=>if p=[]/\0 < n then G9 n r else .error (2,n+1)
 | p::q::l,n,r=>if Br (Bn p) then match r.row (Bn p) with
   | .error c=> .error (c,n+1)
   | .ok r=>I2 (q::l) (n+1) r
  else .error (2,n+1)
def Fp (s:By):Except (Int×Nat) RP:=if 2000 < s.length then .error (1,0) else I2 (Ax 10 s) 0 .Dl
structure Mo (R:RS) (n:Nat):Prop where
 bn:R.As.length+R.p.Aa.length<=n
 nn:n<=2500
 c0:0<=R.p.cells
 c1:R.p.cells<=6*R.As.length
 fi:∀c,c∈R.first->0<=c/\c < R.p.cells
 tc:∀t,t∈R.p.Ao->(t.length:Int)=R.p.cells
structure Tv (R:RS):Prop where
 ne:R.Af≠[]->R.p.Aa≠[]
 lt:∀k,k∈R.Af->k < R.CM.length
 ol:R.Af.length<=3
 nl:R.CM.length<=100
def Fm:Bt->Nat
 | .nil=>0
 | .set _ _ _ _ r=>1+Fm r
 | .get _ _ _ _ r=>1+Fm r
 | .put _ _ _ _ r=>1+Fm r
 | .out _ r=>1+Fm r
 | .atomic b r=>1+Fm b+1+Fm r
 | .EA _ b r=>1+Fm b+Fm r
 | .loop _ b r=>1+Fm b+1+Fm r
def BP:Bt->Nat->Nat->List Nd
 | .nil,_,_=>[]
 | .set v op a b r,d,p=>{Nd.of 115 with v:=v,op:=op,a:=a,b:=b}::BP r d (p+1)
 | .get v f s a r,d,p=>{Nd.of 103 with v:=v,first:=f,size:=s,AW:=a}::BP r d (p+1)
 | .put f s i a r,d,p=>{Nd.of 112 with a:=a,first:=f,size:=s,AW:=i}::BP r d (p+1)
 | .out a r,d,p=>{Nd.of 111 with a:=a}::BP r d (p+1)
 | .atomic b r,d,p=>{Nd.of 40 with Aj:=d,Dg:=(p+1+Fm b+1:Nat)}::(BP b (d+1) (p+1)++Nd.of 41::BP r d (p+1+Fm b+1))
 | .EA a b r,d,p=>{Nd.of 122 with a:=a,Aj:=d,Dg:=(p+1+Fm b:Nat)}::(BP b (d+1) (p+1)++BP r d (p+1+Fm b))
 | .loop n b r,d,p=>{Nd.of 108 with n:=n,Aj:=d,Dg:=(p+1+Fm b+1:Nat)}::(BP b (d+1) (p+1)++{Nd.of 98 with Dg:=(p+1:Nat),Aj:=d}::BP r d (p+1+Fm b+1))
theorem EP (s:Bt) (d p:Nat):(BP s d p).length=Fm s:=by
 induction s generalizing d p <;>simp_all[BP,Fm] <;>omega
theorem eO (s t:Bt) (d p:Nat):BP (s.Fj t) d p=BP s d p++BP t d (p+Fm s):=by
 induction s generalizing p with
 | nil=>simp[Bt.Fj,BP,Fm]
 | atomic b r _ ih=>simp only[Bt.Fj,BP,Fm,ih,WP,PP];congr 5;omega
 | EA a b r _ ih=>simp only[Bt.Fj,BP,Fm,ih,WP,PP];congr 4;omega
 | loop n b r _ ih=>simp only[Bt.Fj,BP,Fm,ih,WP,PP];congr 5;omega
 | set v op a b r ih=>simp only[Bt.Fj,BP,Fm,ih,WP];congr 3;omega
 | get v f s a r ih=>simp only[Bt.Fj,BP,Fm,ih,WP];congr 3;omega
 | put f s i a r ih=>simp only[Bt.Fj,BP,Fm,ih,WP];congr 3;omega
 | out a r ih=>simp only[Bt.Fj,BP,Fm,ih,WP];congr 3;omega
def C8 (k:JJ) (d:Nat):Nd:=match k with
 | .atomic=>{Nd.of 40 with Aj:=d}
 | .EA a=>{Nd.of 122 with a:=a,Aj:=d}
 | .loop n=>{Nd.of 108 with n:=n,Aj:=d}
def FV:List Fr->Nat->Nat->List Nd
 | [],_,_=>[]
 | f::fs,d,p=>C8 f.kind d::(BP f.body (d+1) (p+1)++FV fs (d+1) (p+1+Fm f.body))
def KG:List Fr->Nat
 | []=>0
 | f::fs=>1+Fm f.body+KG fs
def KC:List Fr->Nat->List Nat
 | [],_=>[]
 | f::fs,p=>p::KC fs (p+1+Fm f.body)
theorem RX (fs:List Fr) (d p:Nat):(FV fs d p).length=KG fs:=by
 induction fs generalizing d p with
 | nil=>rfl
 | cons f fs ih=>simp only[FV,KG,IR,V,EP,ih];omega
theorem sI (fs gs:List Fr):KG (fs++gs)=KG fs+KG gs:=by
 induction fs with
 | nil=>simp[KG]
 | cons f fs ih=>simp only[WP,KG,ih];omega
theorem Tf (fs gs:List Fr) (d p:Nat):FV (fs++gs) d p=FV fs d p++FV gs (d+fs.length) (p+KG fs):=by
 induction fs generalizing d p with
 | nil=>simp[FV,KG]
 | cons f fs ih=>
  simp only[WP,FV,KG,ih,PP,IR];congr 4 <;>omega
theorem V3 (fs gs:List Fr) (p:Nat):KC (fs++gs) p=KC fs p++KC gs (p+KG fs):=by
 induction fs generalizing p with
 | nil=>simp[KC,KG]
 | cons f fs ih=>
  simp only[WP,KC,KG,ih];congr 3;omega
theorem dj (fs:List Fr) (p:Nat):(KC fs p).length=fs.length:=by
 induction fs generalizing p with
 | nil=>rfl
 | cons f fs ih=>simp[KC,ih]
structure NO (x:qr) (r:RS):Prop where
 cells:r.p.cells=x.cells
 T6:r.As=x.As.map fF.name
 first:r.first=x.As.map fF.first
 size:r.size=x.As.map fF.size
 AA:r.AA=x.AA
 Ah:r.Ah=x.Ah
 depth:x.Af.length<=3
 Aa:(x.Aa=[]/\x.Af=[]/\r.p.Aa=[]/\r.Af=[])\/
  ∃ts t,x.Aa=ts++[t]/\r.p.Aa=ts.map (BP · 0 0)++[BP t 0 0++FV x.Af 0 (Fm t)]/\r.Af=KC x.Af (Fm t)
theorem NO.Dl:NO .Dl .Dl:=⟨rfl,rfl,rfl,rfl,rfl,rfl,d6 _,.inl ⟨rfl,rfl,rfl,rfl⟩⟩
theorem Ru (f:α->ByteArray) (l:List α) (n:ByteArray) (k:Nat):
  match l.find? (fun s=>decide (bs (f s)=bs n)) with
  | none=>DZ (l.map f) n k= -1
  | some s=>∃i,l[i]?=some s/\DZ (l.map f) n k=((k+i:Nat):Int):=by
 induction l generalizing k with
 | nil=>simp[DZ]
 | cons a r ih=>
  simp only[Qcz,d8,DZ];by_cases h:bs (f a)=bs n
  ·simp only[h,decide_true,In];exact⟨0,rfl,rfl⟩
  ·simp only[h,decide_false,y4];have:=ih (k+1);generalize List.find? (fun s=>decide (bs (f s)=bs n)) r=q at this⊢;cases q with
   | none=>exact this
   | some s=>
    obtain⟨i,h1,h2⟩:=this;exact⟨i+1,by simpa using h1,by show DZ _ _ _=_;rw[h2];congr 1;omega⟩
theorem Th {n:ByteArray} (h:x.Ti n=none):A6 (x.As.map fF.name) n= -1:=by
 have:=Ru fF.name x.As n 0;unfold qr.Ti at h;rw[h] at this;exact this
theorem Tg {n:ByteArray} {s:fF} (h:x.Ti n=some s):∃i:Nat,x.As[i]?=some s/\A6 (x.As.map fF.name) n=i:=by
 have:=Ru fF.name x.As n 0;unfold qr.Ti at h;rw[h] at this;obtain⟨i,h1,h2⟩:=this;exact⟨i,h1,by unfold A6;rw[h2];simp⟩
theorem YX (h:Bg s=true):0 < s.length:=by
 unfold Bg at h;simp at h;exact h.2.1
theorem RA (h:Bg s=true):number s=none:=by
 have hp:=YX h;cases s with
 | nil=>simp at hp
 | cons c r=>
  have hc:low c=true:=by
   unfold Bg at h;simp at h;exact h.1.1
  unfold low at hc;simp only[Qaf,Qad,UInt8.le_iff_toNat_le] at hc;have h97:97<=c.toNat:=hc.1;have hb:(c==45)=false:=by
   rw[NE];rintro rfl;exact UV h97 AC
  unfold number;simp only[List.headD_cons,hb,Qah,y4];split
  ·rfl
  ·unfold Ev;rw[In (by right;omega)]
def DW (s:ByteArray):Wd:=if Bg (bs s) then ⟨s,0⟩ else ⟨⟨#[]⟩,(number (bs s)).getD 0⟩
theorem BY (a:ByteArray) (r:Ws):Ff (a::r)=if C7 (bs a) then some (DW a,r) else none:=by
 unfold Ff DW C7;by_cases h:Bg (bs a)
 ·simp[h]
 ·simp only[h];cases number (bs a) <;>simp
theorem CE:Ff []=none:=rfl
theorem Dd (a:ByteArray) (r:Ws):YW (a::r)=if Bg (bs a) then some (a,r) else none:=rfl
theorem D0:YW []=none:=rfl
theorem ET:xr []=some (.zero,[]):=rfl
theorem DB (a:ByteArray) (r:Ws):xr (a::r)=if bs a=iF then Ff r else some (.zero,a::r):=rfl
theorem cR {s:ByteArray} (h:Bg (bs s)=true):¬s.size=0:=by
 have:=YX h;rw[Bw] at this;omega
theorem CH (m:Int) (a:ByteArray) (r:Ws):Il m (a::r)=if Fx (bs a) m then some ((number (bs a)).getD 0,r) else none:=by
 unfold Il;rw[BY];unfold C7 DW Fx;by_cases h:Bg (bs a)
 ·have:=cR h;simp[h,this,RA h]
 ·simp only[h];cases hn:number (bs a) with
  | none=>simp
  | some v=>
   have h0:ByteArray.size ⟨#[]⟩=0:=rfl;simp[h0]
theorem Dv (m:Int):Il m []=none:=rfl
theorem GC (a:ByteArray) (l:Ws):wd (a::l) 0=a:=rfl
theorem Hj (a:ByteArray) (l:Ws) (k:Nat):wd (a::l) (k+1)=wd l k:=by simp[wd]
theorem Ci (x:α):GK x []=some x:=rfl
theorem BS (x:α) (a:ByteArray) (l:Ws):GK x (a::l)=none:=rfl
theorem Vq (l:Ws):l=[]\/(∃a,l=[a])\/(∃a b,l=[a,b])\/(∃a b c,l=[a,b,c])\/(∃a b c d,l=[a,b,c,d])\/∃a b c d e r,l=a::b::c::d::e::r:=by
 rcases l with _ | ⟨a,_ | ⟨b,_ | ⟨c,_ | ⟨d,_ | ⟨e,r⟩⟩⟩⟩⟩
 ·exact .inl rfl
 ·exact .inr (.inl ⟨_,rfl⟩)
 ·exact .inr (.inr (.inl ⟨_,_,rfl⟩))
 ·exact .inr (.inr (.inr (.inl ⟨_,_,_,rfl⟩)))
 ·exact .inr (.inr (.inr (.inr (.inl ⟨_,_,_,_,rfl⟩))))
 ·exact .inr (.inr (.inr (.inr (.inr ⟨_,_,_,_,_,_,rfl⟩))))
theorem YN (w:ByteArray) (l:Ws) (hw:bs w=CY):I6 l=if Br (w::l) then
  some (.set (wd l 0) (DW (wd l 1)) (if l.length=4 then wd Cj (A6 Dx (wd l 2)).toNat else ⟨#[]⟩) (if l.length=4 then DW (wd l 3) else .zero)) else none:=by
 rcases Vq l with rfl | ⟨a,rfl⟩ | ⟨a,b,rfl⟩ | ⟨a,b,c,rfl⟩ | ⟨a,b,c,d,rfl⟩ | ⟨a,b,c,d,e,r,rfl⟩ <;>
  simp[Br,Fh,GC,Hj,hw,CY,AK,AE,Ey,AH,I6,BY,CE,Dd,D0,kv,Ci,BS]
 ·exact mbK
 ·exact mca
 ·by_cases h1:Bg (bs a) <;>by_cases h2:C7 (bs b) <;>by_cases h3:0<=A6 Dx c <;>simp[h1,h2,h3,CE,BY,Ci,BS,D0,Dd,ET,DB,CH,Dv]
 ·exact mbo
 ·exact mbo
theorem YP (w:ByteArray) (l:Ws) (hw:bs w=CF):Kz l=if Br (w::l) then
  some (.get (wd l 0) (wd l 1) (if l.length=4 then DW (wd l 3) else .zero)) else none:=by
 rcases Vq l with rfl | ⟨a,rfl⟩ | ⟨a,b,rfl⟩ | ⟨a,b,c,rfl⟩ | ⟨a,b,c,d,rfl⟩ | ⟨a,b,c,d,e,r,rfl⟩ <;>
  simp[Br,Fh,GC,Hj,hw,CF,CY,AK,AE,Ey,AH,Kz,BY,CE,Dd,D0,ET,DB,Ci,BS]
 ·exact mbK
 ·by_cases h1:Bg (bs a) <;>by_cases h2:Bg (bs b) <;>simp[h1,h2,CE,BY,Ci,BS,D0,Dd,ET,DB,CH,Dv]
 ·by_cases h1:Bg (bs a) <;>by_cases h2:Bg (bs b) <;>by_cases h3:bs c=iF <;>simp[h1,h2,h3,CE,BY,Ci,BS,D0,Dd,ET,DB,CH,Dv]
 ·exact mbr
 ·exact mbr
theorem YO (w:ByteArray) (l:Ws) (hw:bs w=CZ):Kx l=if Br (w::l) then
  some (.put (wd l 0) (DW (wd l 1)) (if l.length=4 then DW (wd l 3) else .zero)) else none:=by
 rcases Vq l with rfl | ⟨a,rfl⟩ | ⟨a,b,rfl⟩ | ⟨a,b,c,rfl⟩ | ⟨a,b,c,d,rfl⟩ | ⟨a,b,c,d,e,r,rfl⟩ <;>
  simp[Br,Fh,GC,Hj,hw,CZ,CF,CY,AK,AE,Ey,AH,Kx,BY,CE,Dd,D0,ET,DB,Ci,BS]
 ·exact mbK
 ·exact mca
 ·by_cases h1:Bg (bs a) <;>by_cases h2:C7 (bs b) <;>by_cases h3:bs c=iF <;>simp[h1,h2,h3,CE,BY,Ci,BS,D0,Dd,ET,DB,CH,Dv]
 ·exact mbs
 ·exact mbs
theorem MV (f:Wd->Sg) (w:ByteArray) (l:Ws) (hw:bs w=DI\/bs w=Kb):Fc f l=if Br (w::l) then some (f (DW (wd l 0))) else none:=by
 rcases hw with hw | hw <;>rcases l with _ | ⟨a,_ | ⟨b,r⟩⟩ <;>
  simp[Br,Fh,GC,Hj,hw,DI,Kb,CZ,CF,CY,AK,AE,Ey,AH,Fc,BY,CE,Ci,BS]
 all_goals by_cases h1:C7 (bs a) <;>simp[h1,CE,Ci,BS]
theorem VX (w:ByteArray) (l:Ws) (hw:bs w=Dp):J8 l=if Br (w::l) then some (.loop ((number (bs (wd l 0))).getD 0)) else none:=by
 rcases l with _ | ⟨a,_ | ⟨b,r⟩⟩ <;>
  simp[Br,Fh,GC,Hj,hw,Dp,DI,Kb,CZ,CF,CY,AK,AE,Ey,AH,J8,CH,Dv,Ci,BS]
 all_goals by_cases h1:Fx (bs a) 4 <;>simp[h1,CE,Ci,BS]
theorem ZL (w:ByteArray) (l:Ws) (hw:bs w=AH):GK Sg.atomic l=if Br (w::l) then some .atomic else none:=by
 rcases l with _ | ⟨a,r⟩ <;>simp[Br,Fh,GC,hw,AK,AE,Ey,AH,Ci,BS]
theorem mQ (w:ByteArray) (l:Ws) (h1:¬bs w=AK) (h2:¬bs w=AE) (h3:¬bs w=Ey) (h:Br (w::l)=false):IA w l=none:=by
 unfold IA;split
 ·rename_i hw;rw[YN w l hw,h];rfl
 ·split
  ·rename_i hw;rw[YP w l hw,h];rfl
  ·split
   ·rename_i hw;rw[YO w l hw,h];rfl
   ·split
    ·rename_i hw;rw[MV _ w l (.inl hw),h];rfl
    ·split
     ·rename_i hw;rw[ZL w l hw,h];rfl
     ·split
      ·rename_i hw;rw[MV _ w l (.inr hw),h];rfl
      ·split
       ·rename_i hw;rw[VX w l hw,h];rfl
       ·rfl
theorem Wo (w:ByteArray) (l:Ws) (h1:¬bs w=AK) (h2:¬bs w=AE) (h3:¬bs w=Ey) (h:Br (w::l)=true):
  bs w=CY\/bs w=CF\/bs w=CZ\/bs w=DI\/bs w=AH\/bs w=Kb\/bs w=Dp:=by
 unfold Br Fh at h;simp only[GC,h1,h2,h3,y4] at h;by_cases a1:bs w=AH
 ·simp[a1]
 by_cases a2:bs w=CY
 ·simp[a2]
 by_cases a3:bs w=CF
 ·simp[a3]
 by_cases a4:bs w=CZ
 ·simp[a4]
 by_cases a5:bs w=DI
 ·simp[a5]
 by_cases a6:bs w=Kb
 ·simp[a6]
 by_cases a7:bs w=Dp
 ·simp[a7]
 simp[a1,a2,a3,a4,a5,a6,a7] at h
theorem cZ (x:qr) (w:ByteArray) (r:Ws):x.row (w::r)=if bs w=AK then x.D6 r
  else if bs w=AE then
   if r≠[] then .error 2 else if x.Af≠[] then .error 3
   else .ok {x with Aa:=x.Aa++[.nil],AA:=[],Ah:=0,Af:=[]}
  else if bs w=Ey then
   if r≠[] then .error 2 else match x.Af.getLast? with
    | none=> .error 3
    | some f=> .ok ({x with Af:=x.Af.dropLast}.add f.done)
  else x.AL w r:=rfl
theorem oU (x:qr) (w:ByteArray) (l:Ws) (h:Br (w::l)=false):x.row (w::l)= .error 2:=by
 rw[cZ];by_cases h1:bs w=AK
 ·rw[In h1];unfold qr.D6;rcases l with _ | ⟨a,_ | ⟨b,_ | ⟨c,r⟩⟩⟩ <;>simp[Br,Fh,GC,Hj,h1,AK] at h <;>simp[D0,Dd,CH]
  ·simp[h]
  ·by_cases h2:Bg (bs a)
   ·simp[h2,h h2]
   ·simp[h2]
  ·by_cases h2:Bg (bs a)
   ·by_cases h3:Fx (bs b) 6 <;>simp[h2,h3]
   ·simp[h2]
 ·rw[I h1];by_cases h2:bs w=AE
  ·rw[In h2];rcases l with _ | ⟨a,r⟩ <;>simp[Br,Fh,GC,h2,AK,AE] at h⊢
  ·rw[I h2];by_cases h3:bs w=Ey
   ·rw[In h3];rcases l with _ | ⟨a,r⟩ <;>simp[Br,Fh,GC,h3,AK,AE,Ey] at h⊢
   ·rw[I h3];unfold qr.AL;rw[mQ w l h1 h2 h3 h]
theorem iC:ByteArray.size ⟨#[]⟩=0:=rfl
theorem Mm (h:r.AA=x.AA) {s:ByteArray} (hs:C7 (bs s)=true):
  x.CO (DW s)=if (r.CO s).2 then .ok (r.CO s).1 else .error 4:=by
 unfold qr.CO RS.CO DW;by_cases hn:Bg (bs s)
 ·simp only[hn,In,RA hn,cR hn,I,h,Qad,y4]
 ·unfold C7 at hs;simp only[hn,Qcj] at hs;cases hv:number (bs s) with
  | none=>rw[hv] at hs;cases hs
  | some v=>simp[hn,iC]
theorem ZN (x:qr):x.CO .zero= .ok .zero:=rfl
def Up (r q:RS):Prop:=q.As=r.As/\q.first=r.first/\q.size=r.size/\q.AA=r.AA/\q.Af=r.Af/\q.Ah=r.Ah/\q.p.Aa=r.p.Aa/\q.p.cells=r.p.cells
theorem Up.refl (r:RS):Up r r:=⟨rfl,rfl,rfl,rfl,rfl,rfl,rfl,rfl⟩
theorem NO.same (h:NO x r) (k:Up r q):NO x q:=by
 obtain⟨k1,k2,k3,k4,k5,k6,k7,k8⟩:=k;exact⟨k8.trans h.cells,k1.trans h.T6,k2.trans h.first,k3.trans h.size,k4.trans h.AA,k6.trans h.Ah,h.depth,by rw[k7,k5];exact h.Aa⟩
def wX (r:RS) (nd:Nd) (s:ByteArray) (w:Ws) (res:Except Int (Int×Int×At)):Prop:=match res with
 | .error c=>c=4/\(r.cell nd s w).2.2=false
 | .ok (f,z,a)=>(r.cell nd s w).2.2=true/\(r.cell nd s w).2.1={nd with first:=f,size:=z,AW:=a}/\Up r (r.cell nd s w).1
theorem vS (h:NO x r) (nd:Nd) (hz:nd.AW= .zero) (s:ByteArray) (w:Ws) (FA:w.length=5->C7 (bs (wd w 4))=true):
  wX r nd s w (x.cell s (if w.length=5 then DW (wd w 4) else .zero)):=by
 unfold wX qr.cell RS.cell;rw[h.T6];cases hf:x.Ti s with
 | none=>
  rw[Th hf];simp
 | some sv=>
  obtain⟨i,h1,h2⟩:=Tg hf;rw[h2];have hi:¬((i:Int) < 0):=Y
  have e1:r.first.getD i 0=sv.first:=by rw[h.first];simp[GE,h1]
  have e2:r.size.getD i 0=sv.size:=by rw[h.size];simp[GE,h1]
  simp only[hi,y4,Qbq,e1,e2];by_cases h5:w.length=5
  ·simp only[h5,Qau];rw[Mm (r:=r.EY sv.first) h.AA (FA h5)];by_cases ha:((r.EY sv.first).CO (wd w 4)).2
   ·simp only[ha,Qau];exact⟨trivial,trivial,⟨rfl,rfl,rfl,rfl,rfl,rfl,rfl,rfl⟩⟩
   ·simp only[ha];simp
  ·simp only[h5,y4,ZN];exact⟨trivial,by rw[<-hz],⟨rfl,rfl,rfl,rfl,rfl,rfl,rfl,rfl⟩⟩
theorem Wj (h:NO x r) (nd:Nd) (n:ByteArray):
  match x.Dy n with
  | .error c=>r.JA nd n= .error c
  | .ok (v,y)=>∃q,r.JA nd n= .ok (q,{nd with v:=v})/\NO y q/\y.Aa=x.Aa/\y.Af=x.Af/\y.Ah=x.Ah:=by
 unfold qr.Dy RS.JA;rw[h.T6,h.AA];cases hf:x.Ti n with
 | some sv=>
  obtain⟨i,h1,h2⟩:=Tg hf;rw[h2];have:(0:Int)<=(i:Int):=Y
  simp[this]
 | none=>
  rw[Th hf];simp only[Qb1,Qah,y4,show¬(0:Int)<= -1 by omega];by_cases hp:0<=A6 x.AA n
  ·simp only[hp,Qau];exact⟨r,rfl,h,trivial,trivial,trivial⟩
  ·simp only[hp,y4];by_cases h4:x.AA.length=4
   ·simp[h4]
   ·simp only[h4,y4];exact⟨_,rfl,⟨h.cells,rfl,h.first,h.size,rfl,h.Ah,h.depth,h.Aa⟩,trivial,trivial,trivial⟩
def AfW (f:Bt->Bt) (nd:Nd):Prop:=(∀d p,BP (f .nil) d p=[nd])/\Fm (f .nil)=1/\¬(nd.kind=122\/nd.kind=108\/nd.kind=40)
theorem Sf (h:x.Aa=ts++[t]) (s:Bt->Bt):
  ∃t',(x.add s).Aa=ts++[t']/\BP t' 0 0++FV (x.add s).Af 0 (Fm t')=(BP t 0 0++FV x.Af 0 (Fm t))++BP (s .nil) x.Af.length (Fm t+KG x.Af)/\
   KC (x.add s).Af (Fm t')=KC x.Af (Fm t)/\(x.add s).Af.map Fr.kind=x.Af.map Fr.kind/\(x.add s).cells=x.cells/\(x.add s).As=x.As/\(x.add s).AA=x.AA/\(x.add s).Ah=x.Ah:=by
 rcases f5 x.Af with h0 | ⟨fs,f,h0⟩
 ·unfold qr.add;rw[h0,h];refine⟨t.Fj (s .nil),?_,?_,?_,?_,EQ,EQ,EQ,EQ⟩
  ·simp
  ·simp only[List.getLast?_nil,Qa3,Qav,Qbm,h0,FV,i7,eO,m7,KG,Qaj,Qaw]
  ·simp[h0,KC]
  ·simp[h0]
 ·rw[m8] at h0;unfold qr.add;rw[h0];refine⟨t,?_,?_,?_,?_,?_,?_,?_,?_⟩
  ·simp[h]
  ·simp only[Qa3,Qav,Qbm,Qat,Tf,FV,i7,eO,PP,WP,sI,KG,V,d5];congr 5
   ·omega
   ·omega
  ·simp only[Qa3,Qav,Qbm,Qat,V3,KC]
  ·simp
  ·simp
  ·simp
  ·simp
  ·simp
theorem Ld {ts:List (List Nd)} {m:List Nd} (h:r.p.Aa=ts++[l]):(r.Be m).p.Aa=ts++[m]:=by
 unfold RS.Be;simp[h]
theorem DH {ts:List (List Nd)} (h:r.p.Aa=ts++[l]):r.CM=l:=by
 unfold RS.CM;simp[h]
theorem lM {s:Bt->Bt} (h:x.Aa=ts++[t]):(x.add s).Af.length=x.Af.length:=by
 obtain⟨_,_,_,_,h4,_⟩:=Sf h s;have:=Qao List.length h4;simpa using this
theorem lL (h:NO x r) {ts:List Bt} {t:Bt} (ht:x.Aa=ts++[t]) (s:Bt->Bt) (l:List Nd)
  (hl:l=BP (s .nil) x.Af.length (Fm t+KG x.Af)):NO (x.add s) (r.Be (r.CM++l)):=by
 obtain⟨t',a1,a2,a3,a4,a5,a6,a7,a8⟩:=Sf ht s;rcases h.Aa with⟨h0,_⟩ | ⟨ts',u,b1,b2,b3⟩
 ·rw[ht] at h0;simp at h0
 ·rw[ht] at b1;obtain⟨rfl,hu⟩:=Qca b1 rfl;cases hu;refine⟨h.cells.trans a5.symm,h.T6.trans (by rw[a6]),h.first.trans (by rw[a6]),h.size.trans (by rw[a6]),h.AA.trans a7.symm,h.Ah.trans a8.symm,by rw[lM ht];exact h.depth,.inr ⟨ts,t',a1,?_,?_⟩⟩
  ·rw[Ld b2,DH b2,a2,hl]
  ·rw[a3];exact b3
theorem py (h:NO x r) {ts:List Bt} {t:Bt} (ht:x.Aa=ts++[t]) (k:JJ) (h3:x.Af.length < 3):
  NO (x.D5 k) ({r with Af:=r.Af++[r.CM.length]}.Be (r.CM++[C8 k x.Af.length])):=by
 rcases h.Aa with⟨h0,_⟩ | ⟨ts',u,b1,b2,b3⟩
 ·rw[ht] at h0;simp at h0
 ·refine⟨h.cells,h.T6,h.first,h.size,h.AA,h.Ah,by unfold qr.D5;simp;omega,.inr ⟨ts',u,b1,?_,?_⟩⟩
  ·rw[Ld (r:={r with Af:=r.Af++[r.CM.length]}) b2,DH b2];unfold qr.D5;simp[Tf,FV,BP]
  ·show r.Af++[r.CM.length]=_;unfold qr.D5;rw[DH b2,b3];simp[V3,KC,EP,RX]
theorem Vj (A:List α) (a:α) (B:List α) (z:α):(A++a::B).getD A.length z=a:=EQ
theorem iI (fs:List Fr) (A:List Nd) (d p:Nat) (hp:A.length=p) (B:List Nd):
  ((KC fs p).any fun k=>((A++FV fs d p++B).getD k (.of 0)).kind==40)=fs.any fun f=>f.kind.CD:=by
 induction fs generalizing A d p with
 | nil=>rfl
 | cons f fs ih=>
  simp only[KC,Qdx,FV];have e:A++C8 f.kind d::(BP f.body (d+1) (p+1)++FV fs (d+1) (p+1+Fm f.body))++B=(A++C8 f.kind d::BP f.body (d+1) (p+1))++FV fs (d+1) (p+1+Fm f.body)++B:=EQ
  congr 1
  ·subst hp;rw[PP,WP,Vj];cases f.kind <;>rfl
  ·rw[e];exact ih _ _ _ (by simp[EP,hp];omega)
theorem iH (h:NO x r):r.Bu=x.Bu:=by
 unfold RS.Bu qr.Bu;rcases h.Aa with⟨_,h1,_,h3⟩ | ⟨ts,t,b1,b2,b3⟩
 ·rw[h1,h3];rfl
 ·rw[b3,DH b2];have:=iI x.Af (BP t 0 0) 0 (Fm t) (EP _ _ _) [];rw[i7] at this;exact this
theorem Kh (h:NO x r):r.Af.length=x.Af.length:=by
 rcases h.Aa with⟨_,h1,_,h3⟩ | ⟨ts,t,b1,b2,b3⟩
 ·rw[h1,h3];rfl
 ·rw[b3,dj]
theorem Lc (h:NO x r):r.p.Aa=[]<->x.Aa=[]:=by
 rcases h.Aa with⟨h0,h1,h2,h3⟩ | ⟨ts,t,b1,b2,b3⟩
 ·rw[h0,h2];simp
 ·rw[b1,b2];simp
def J3 (x:qr) (r:RS) (w:Ws) (res:Except Int qr):Prop:=match res with
 | .error c=>r.node w= .error c
 | .ok y=>∃y0 q nd,r.node w= .ok (q,nd)/\NO y0 q/\y0.Aa=x.Aa/\y0.Af=x.Af/\y0.Ah=x.Ah/\
   ((∃f,AfW f nd/\y=y0.add f)\/∃k,nd=C8 k 0/\y=y0.D5 k)
theorem tu {l:Ws} (hw:bs w=CY) (h:Br (w::l)=true):C7 (bs (wd l 1))=true/\(l.length=4->C7 (bs (wd l 3))=true):=by
 simp[Br,Fh,GC,Hj,hw,CY,AK,AE,Ey,AH] at h;exact⟨h.1.2.2,fun h4=>by rcases h.2 with h2 | h2;omega;exact h2.2.2⟩
theorem tx {l:Ws} (hw:bs w=CF) (h:Br (w::l)=true):l.length=4->C7 (bs (wd l 3))=true:=by
 simp[Br,Fh,GC,Hj,hw,CF,CY,AK,AE,Ey,AH] at h;exact fun h4=>by rcases h.2 with h2 | h2;omega;exact h2.2.2.2
theorem tw {l:Ws} (hw:bs w=CZ) (h:Br (w::l)=true):C7 (bs (wd l 1))=true/\(l.length=4->C7 (bs (wd l 3))=true):=by
 simp[Br,Fh,GC,Hj,hw,CZ,CF,CY,AK,AE,Ey,AH] at h;exact⟨h.1.2.2,fun h4=>by rcases h.2 with h2 | h2;omega;exact h2.2.2.2⟩
theorem Y6 {l:Ws} (hw:bs w=DI\/bs w=Kb) (h:Br (w::l)=true):C7 (bs (wd l 0))=true:=by
 rcases hw with hw | hw <;>simp[Br,Fh,GC,Hj,hw,DI,Kb,CZ,CF,CY,AK,AE,Ey,AH] at h <;>exact h.2
theorem sD (x:qr) (r:RS) (h:NO x r) (w:ByteArray) (l:Ws) (hw:bs w=CY) (hl:Br (w::l)=true):
  J3 x r (w::l) (x.finish (.set (wd l 0) (DW (wd l 1)) (if l.length=4 then wd Cj (A6 Dx (wd l 2)).toNat else ⟨#[]⟩) (if l.length=4 then DW (wd l 3) else .zero))):=by
 obtain⟨h1,h3⟩:=tu hw hl;unfold J3 qr.finish RS.node;simp only[GC,hw,Qau,Hj,IR];have ha:=Mm (x:=x) (r:=r) h.AA h1;rw[ha];by_cases hA:(r.CO (wd l 1)).2
 ·simp only[hA,Qau];by_cases h4:l.length=4
  ·have h5:l.length+1=5:=Y
   simp only[In h4,In h5];have hb:=Mm (x:=x) (r:=r) h.AA (h3 h4);rw[hb];by_cases hB:(r.CO (wd l 3)).2
   ·simp only[hB,Qau,Qb2];have hm:=Wj h {Nd.of 115 with a:=(r.CO (wd l 1)).1,op:=wd Cj (A6 Dx (wd l 2)).toNat,b:=(r.CO (wd l 3)).1} (wd l 0);cases hx:x.Dy (wd l 0) with
    | error c=>rw[hx] at hm;exact hm
    | ok vy=>
     rw[hx] at hm;exact mbG
   ·simp[hB]
  ·have h5:¬l.length+1=5:=Y
   simp only[I h4,I h5,ZN];have hm:=Wj h {Nd.of 115 with a:=(r.CO (wd l 1)).1} (wd l 0);cases hx:x.Dy (wd l 0) with
   | error c=>rw[hx] at hm;simpa using hm
   | ok vy=>
    rw[hx] at hm;obtain⟨q,m1,m2,m3,m4,m5⟩:=hm;exact⟨vy.2,q,_,by rw[In trivial];exact m1,m2,m3,m4,m5,.inl ⟨_,⟨fun d p=>rfl,rfl,by simp[Nd.of]⟩,rfl⟩⟩
 ·simp only[hA];by_cases h4:l.length=4 <;>simp[h4]
theorem KI:¬CF=CY/\¬CZ=CY/\¬CZ=CF/\¬DI=CY/\¬DI=CF/\¬DI=CZ/\¬Kb=CY/\¬Kb=CF/\¬Kb=CZ/\¬Kb=DI/\¬Dp=CY/\¬Dp=CF/\¬Dp=CZ/\¬Dp=DI/\¬Dp=Kb/\
  ¬AH=CY/\¬AH=CF/\¬AH=CZ/\¬AH=DI/\¬AH=Kb/\¬AH=Dp:=AC
theorem ZC (h:NO x r) (k:Nat) (s:ByteArray) (w:ByteArray) (l:Ws) (FA:l.length=4->C7 (bs (wd l 3))=true):
  wX r (.of k) s (w::l) (x.cell s (if l.length=4 then DW (wd l 3) else .zero)):=by
 have:=vS h (.of k) rfl s (w::l) (by intro h5;exact FA (by simpa using h5));simpa[Hj] using this
theorem sG (x:qr) (r:RS) (h:NO x r) (w:ByteArray) (l:Ws) (hw:bs w=CF) (hl:Br (w::l)=true):
  J3 x r (w::l) (x.finish (.get (wd l 0) (wd l 1) (if l.length=4 then DW (wd l 3) else .zero))):=by
 have h3:=tx hw hl;have hk:=KI;have hc:=ZC h 103 (wd l 1) w l h3;unfold J3 qr.finish RS.node;simp only[GC,hw,Hj,hk,y4,Qau];cases hx:x.cell (wd l 1) (if l.length=4 then DW (wd l 3) else .zero) with
 | error c=>
  rw[hx] at hc;obtain⟨rfl,hc⟩:=hc;simp[hc]
 | ok v=>
  obtain⟨f,z,a⟩:=v;rw[hx] at hc;obtain⟨KM,JC,xo⟩:=hc;simp only[KM,Qau,JC];have hm:=Wj (h.same xo) {Nd.of 103 with first:=f,size:=z,AW:=a} (wd l 0);cases hy:x.Dy (wd l 0) with
  | error c=>rw[hy] at hm;exact hm
  | ok vy=>
   rw[hy] at hm;exact mbG
theorem Up.DG (h:Up r q):Up r q.DG:=h
theorem pC (h:Up r q) (s:ByteArray):q.CO s=r.CO s:=by unfold RS.CO;rw[h.2.2.2.1]
theorem sE (x:qr) (r:RS) (h:NO x r) (w:ByteArray) (l:Ws) (hw:bs w=CZ) (hl:Br (w::l)=true):
  J3 x r (w::l) (x.finish (.put (wd l 0) (DW (wd l 1)) (if l.length=4 then DW (wd l 3) else .zero))):=by
 obtain⟨h1,h3⟩:=tw hw hl;have hk:=KI;have hc:=ZC h 112 (wd l 0) w l h3;have ha:=Mm (x:=x) (r:=r) h.AA h1;unfold J3 qr.finish RS.node;simp only[GC,hw,Hj,hk,y4,Qau];cases hx:x.cell (wd l 0) (if l.length=4 then DW (wd l 3) else .zero) with
 | error c=>
  rw[hx] at hc;obtain⟨rfl,hc⟩:=hc;simp[hc]
 | ok v=>
  obtain⟨f,z,a⟩:=v;rw[hx] at hc;obtain⟨KM,JC,xo⟩:=hc;simp only[KM,Qb2,JC,ha,pC xo];by_cases hA:(r.CO (wd l 1)).2
  ·simp only[hA,Qau];exact⟨x,_,_,rfl,h.same xo.DG,rfl,rfl,rfl,.inl ⟨_,⟨fun d p=>rfl,rfl,by simp[Nd.of]⟩,rfl⟩⟩
  ·simp[hA]
theorem sF (x:qr) (r:RS) (h:NO x r) (w:ByteArray) (l:Ws) (hw:bs w=DI) (hl:Br (w::l)=true):
  J3 x r (w::l) (x.finish (.out (DW (wd l 0)))):=by
 have h1:=Y6 (.inl hw) hl;have hk:=KI;have ha:=Mm (x:=x) (r:=r) h.AA h1;unfold J3 qr.finish RS.node;simp only[GC,hw,Hj,hk,y4,Qau,ha];by_cases hA:(r.CO (wd l 0)).2
 ·simp only[hA,Qau];exact⟨x,_,_,rfl,h,rfl,rfl,rfl,.inl ⟨_,⟨fun d p=>rfl,rfl,by simp[Nd.of]⟩,rfl⟩⟩
 ·simp[hA]
theorem yt (x:qr) (r:RS) (h:NO x r) (w:ByteArray) (l:Ws) (hw:bs w=Kb) (hl:Br (w::l)=true):
  J3 x r (w::l) (x.finish (.EA (DW (wd l 0)))):=by
 have h1:=Y6 (.inr hw) hl;have hk:=KI;have ha:=Mm (x:=x) (r:=r) h.AA h1;unfold J3 qr.finish RS.node;simp only[GC,hw,Hj,hk,y4,Qau,ha];by_cases hA:(r.CO (wd l 0)).2
 ·simp only[hA,Qau];exact mbY
 ·simp[hA]
theorem nc (x:qr) (r:RS) (h:NO x r) (w:ByteArray) (l:Ws) (hw:bs w=Dp):
  J3 x r (w::l) (x.finish (.loop ((number (bs (wd l 0))).getD 0))):=by
 have hk:=KI;unfold J3 qr.finish RS.node;simp only[GC,hw,Hj,hk,y4,Qau];exact mbY
theorem dz (x:qr) (r:RS) (h:NO x r) (w:ByteArray) (l:Ws) (hw:bs w=AH):
  J3 x r (w::l) (x.finish .atomic):=by
 have hk:=KI;unfold J3 qr.finish RS.node;simp only[GC,hw,hk,y4,Qau];exact mbY
theorem vF (f:Fr) (d p:Nat):
  let k:=(C8 f.kind d).kind
  let l:=C8 f.kind d::BP f.body (d+1) (p+1)
  let m:=if k=40 then [Nd.of 41] else if k=108 then [{Nd.of 98 with Dg:=(p:Int)+1,Aj:=(C8 f.kind d).Aj}] else []
  (l++m).set 0 {C8 f.kind d with Dg:=((p+(l++m).length:Nat):Int)}=BP (f.done .nil) d p:=by
 obtain⟨k,b⟩:=f;cases k with
 | atomic=>simp[C8,Nd.of,Fr.done,BP,Fm,EP];omega
 | EA a=>simp[C8,Nd.of,Fr.done,BP,Fm,EP];omega
 | loop n=>simp[C8,Nd.of,Fr.done,BP,Fm,EP];omega
theorem Abe (A B:List α) (x:α):(A++B).set A.length x=A++B.set 0 x:=by
 induction A with
 | nil=>simp
 | cons a A ih=>simp[ih]
theorem zP (h:NO x r):match x.Af.getLast? with
  | none=>r.Np= .error 3
  | some f=>∃q,r.Np= .ok q/\NO ({x with Af:=x.Af.dropLast}.add f.done) q:=by
 rcases f5 x.Af with h0 | ⟨fs,f,h0⟩
 ·rw[h0];have:r.Af=[]:=RK (by rw[Kh h,h0];rfl);unfold RS.Np;rw[this];rfl
 ·rw[m8] at h0;rw[h0];simp only[Qa3,Qav,Qbm,Qat];rcases h.Aa with⟨_,h1,_⟩ | ⟨ts,t,b1,b2,b3⟩
  ·rw[h0] at h1;simp at h1
  ·rw[h0] at b3 b2;rw[V3] at b3;simp only[KC] at b3;rw[Tf] at b2;simp only[FV,i7,Qaw] at b2;have FJ:=DH b2;unfold RS.Np;rw[b3,FJ];simp only[Qa3,Qav,Qbm,Qat];generalize hA:BP t 0 0++FV fs 0 (Fm t)=A;have hAl:A.length=Fm t+KG fs:=by rw[<-hA,V,EP,RX]
   have e1:BP t 0 0++(FV fs 0 (Fm t)++C8 f.kind fs.length::BP f.body (fs.length+1) (Fm t+KG fs+1))=A++C8 f.kind fs.length::BP f.body (fs.length+1) (Fm t+KG fs+1):=by rw[<-hA,PP]
   rw[e1,<-hAl];simp only[Vj];have hy:NO {x with Af:=fs} {r with Af:=KC fs (Fm t),p:={r.p with Aa:=ts.map (BP · 0 0)++[A]}}:=
    ⟨h.cells,h.T6,h.first,h.size,h.AA,h.Ah,by have:=h.depth;rw[h0] at this;simp at this;show fs.length<=3;omega,.inr ⟨ts,t,b1,by rw[<-hA],rfl⟩⟩
   have hz:=lL (ts:=ts) (t:=t) hy b1 f.done _ rfl;refine⟨_,rfl,?_⟩;have LG:(RS.CM {r with Af:=KC fs (Fm t),p:={r.p with Aa:=ts.map (BP · 0 0)++[A]}})=A:=DH rfl;rw[LG] at hz;have hf:=vF f fs.length (Fm t+KG fs);simp only[] at hf;have dW:∀m:List Nd,((A++C8 f.kind fs.length::BP f.body (fs.length+1) (A.length+1))++m).set A.length {C8 f.kind fs.length with Dg:=(((A++C8 f.kind fs.length::BP f.body (fs.length+1) (A.length+1))++m).length:Int)}=
     A++((C8 f.kind fs.length::BP f.body (fs.length+1) (A.length+1))++m).set 0 {C8 f.kind fs.length with Dg:=((A.length+((C8 f.kind fs.length::BP f.body (fs.length+1) (A.length+1))++m).length:Nat):Int)}:=by
    intro m;rw[PP,Abe,V]
   have key:∀L:List Nd,L=A++BP (f.done .nil) fs.length (Fm t+KG fs)->NO ({x with Af:=fs}.add f.done) (RS.Be {r with Af:=KC fs (Fm t)} L):=by
    intro L hL;have:RS.Be {r with Af:=KC fs (Fm t)} L=RS.Be {r with Af:=KC fs (Fm t),p:={r.p with Aa:=ts.map (BP · 0 0)++[A]}} L:=by
     unfold RS.Be;simp[b2]
    rw[this,hL];exact hz
   apply key;rw[<-hf];have hg:∀m:List Nd,(A++C8 f.kind fs.length::BP f.body (fs.length+1) (A.length+1)++m).getD A.length (Nd.of 0)=C8 f.kind fs.length:=by
    intro m;rw[PP,WP,Vj]
   have hg0:(A++C8 f.kind fs.length::BP f.body (fs.length+1) (A.length+1)).getD A.length (Nd.of 0)=C8 f.kind fs.length:=Vj _ _ _ _;rw[<-hAl];obtain⟨k,b⟩:=f;have bj:=dW [];rw[i7,i7] at bj;cases k with
   | atomic=>simp only[C8,Nd.of] at dW hg⊢;simp only[Qau];rw[hg,dW]
   | EA a=>simp only[C8,Nd.of] at dW hg0 bj⊢;simp only[show¬(122:Nat)=40 by decide,show¬(122:Nat)=108 by decide,y4,i7];rw[hg0,bj]
   | loop n=>simp only[C8,Nd.of] at dW hg⊢;simp only[show¬(108:Nat)=40 by decide,y4,Qau];rw[hg,dW]
theorem sC (x:qr) (r:RS) (h:NO x r) (w:ByteArray) (l:Ws) (hw:bs w=CY\/bs w=CF\/bs w=CZ\/bs w=DI\/bs w=AH\/bs w=Kb\/bs w=Dp) (hl:Br (w::l)=true):
  ∃s,IA w l=some s/\(s.CD=true<->(bs w=CF\/bs w=CZ))/\J3 x r (w::l) (x.finish s):=by
 have hk:=KI;unfold IA;rcases hw with hw | hw | hw | hw | hw | hw | hw <;>simp only[hw,hk,Qau,y4]
 ·exact⟨_,by rw[YN w l hw,hl];rfl,by simp[Sg.CD,CY,CF,CZ],sD x r h w l hw hl⟩
 ·exact⟨_,by rw[YP w l hw,hl];rfl,by simp[Sg.CD],sG x r h w l hw hl⟩
 ·exact⟨_,by rw[YO w l hw,hl];rfl,by simp[Sg.CD],sE x r h w l hw hl⟩
 ·exact⟨_,by rw[MV _ w l (.inl hw),hl];rfl,by simp[Sg.CD],sF x r h w l hw hl⟩
 ·exact⟨_,by rw[ZL w l hw,hl];rfl,by simp[Sg.CD],dz x r h w l hw⟩
 ·exact⟨_,by rw[MV _ w l (.inr hw),hl];rfl,by simp[Sg.CD],yt x r h w l hw hl⟩
 ·exact⟨_,by rw[VX w l hw,hl];rfl,by simp[Sg.CD],nc x r h w l hw⟩
def Sk (a:Except Int qr) (b:Except Int RS):Prop:=match a,b with
 | .error c,.error d=>c=d
 | .ok y,.ok q=>NO y q
 | _,_=>False
theorem mx (h:NO x r) (w:ByteArray) (l:Ws) (hw:bs w=AK) (hl:Br (w::l)=true):Sk (x.D6 l) (r.D6 (w::l)):=by
 have key:∃n size,x.D6 l=(if x.Aa≠[] then .error 3 else if (x.Ti n).isSome then .error 4 else .ok {x with As:=x.As++[⟨n,x.cells,size⟩],cells:=x.cells+size})/\
   n=wd l 0/\size=if 2 < (w::l).length then (number (bs (wd (w::l) 2))).getD 0 else 1:=by
  rcases l with _ | ⟨a,_ | ⟨b,_ | ⟨c,q⟩⟩⟩ <;>simp[Br,Fh,GC,Hj,hw,AK] at hl
  ·exact⟨a,1,by unfold qr.D6;simp[Dd,hl],rfl,EQ⟩
  ·refine⟨a,(number (bs b)).getD 0,by unfold qr.D6;simp[Dd,CH,hl],rfl,by simp[Hj,GC]⟩
 obtain⟨n,size,e,hn,hs⟩:=key;rw[e];unfold RS.D6;rw[<-hs,Hj,<-hn];by_cases ht:x.Aa=[]
 ·have FI:=(Lc h).2 ht;simp only[ht,FI,ne_eq,not_true_eq_false,y4];rw[h.T6];cases hf:x.Ti n with
  | some sv=>
   obtain⟨i,_,h2⟩:=Tg hf;rw[h2];have:(0:Int)<=i:=Y
   simp[this,Sk]
  | none=>
   rw[Th hf];simp only[Qb1,Qah,y4,show¬(0:Int)<= -1 by omega];obtain⟨h1,h2,h3,h4,h5,h6,h7,h8⟩:=h;refine⟨by simp[h1],EQ,by simp[h3,h1],by simp[h4],h5,h6,h7,?_⟩;simpa[ht,FI] using h8
 ·have FI:¬r.p.Aa=[]:=fun h'=>ht ((Lc h).1 h')
  simp[ht,FI,Sk]
theorem gi (h:NO x r):Sk (if x.Af≠[] then .error 3 else .ok {x with Aa:=x.Aa++[.nil],AA:=[],Ah:=0,Af:=[]})
  (if r.Af≠[] then .error 3 else .ok {r with p:={r.p with Aa:=r.p.Aa++[[]],Ao:=r.p.Ao++[List.replicate r.p.cells.toNat false],BJ:=r.p.BJ++[false]},AA:=[],Ah:=0}):=by
 by_cases ho:x.Af=[]
 ·have Oz:r.Af=[]:=RK (by rw[Kh h,ho];rfl);simp only[ho,Oz,ne_eq,not_true_eq_false,y4];refine⟨h.cells,h.T6,h.first,h.size,rfl,rfl,d6 _,.inr ⟨x.Aa,.nil,rfl,?_,by simp[KC,Oz]⟩⟩;rcases h.Aa with⟨h0,h1,h2,h3⟩ | ⟨ts,t,b1,b2,b3⟩
  ·simp[h0,h2,BP,FV]
  ·simp[b1,b2,ho,BP,FV]
 ·have Oz:¬r.Af=[]:=fun h'=>ho (RK (by rw[<-Kh h,h'];rfl))
  simp[ho,Oz,Sk]
theorem Wc (h:¬x.Aa=[]):x.Fg=x.Af.length+1:=by unfold qr.Fg;rw[I h]
theorem pL (h:¬x.Aa=[]) (s:Bt->Bt):(x.add s).Fg=x.Af.length+1:=by
 rcases f5 x.Aa with h0 | ⟨ts,t,h0⟩
 ·exact UV h0 h
 ·rw[m8] at h0;obtain⟨t',a1,_⟩:=Sf h0 s;rw[Wc (by rw[a1];simp),lM h0]
theorem Ts (h:¬x.Aa=[]) (s:Bt->Bt):(x.add s).Ah=x.Ah:=by
 rcases f5 x.Aa with h0 | ⟨ts,t,h0⟩
 ·exact UV h0 h
 ·rw[m8] at h0;obtain⟨t',a1,a2,a3,a4,a5,a6,a7,a8⟩:=Sf h0 s;exact a8
theorem XR (l:List Nd) (n:Int):RS.Be {r with Ah:=n} l={r.Be l with Ah:=n}:=rfl
theorem XQ (h:NO x r) (w:ByteArray) (l:Ws) (hw:bs w=CY\/bs w=CF\/bs w=CZ\/bs w=DI\/bs w=AH\/bs w=Kb\/bs w=Dp) (hl:Br (w::l)=true):
  Sk (x.AL w l) (if r.p.Aa=[]\/(r.Bu=false/\(bs w=CF\/bs w=CZ))\/(r.Bu=true/\bs w=AH) then .error 3
    else match r.node (w::l) with
      | .error c=> .error c
      | .ok (r,x)=>
        if 14 < r.Ah+1 then .error 5
        else if x.kind=122\/x.kind=108\/x.kind=40 then
          if r.Af.length=3 then .error 5
          else .ok ({r with Ah:=r.Ah+1,Af:=r.Af++[r.CM.length]}.Be (r.CM++[{x with Aj:=r.Af.length}]))
        else .ok ({r with Ah:=r.Ah+1}.Be (r.CM++[x]))):=by
 obtain⟨s,hs,hb,hn⟩:=sC x r h w l hw hl;unfold qr.AL;rw[hs];simp only[];have hc:(x.Aa=[]\/(s.CD=true/\x.Bu=false)\/(bs w=AH/\x.Bu=true))<->(r.p.Aa=[]\/(r.Bu=false/\(bs w=CF\/bs w=CZ))\/(r.Bu=true/\bs w=AH)):=by
  rw[Lc h,iH h,hb];constructor
  ·exact mbU
  ·exact mbU
 by_cases Nl:x.Aa=[]\/(s.CD=true/\x.Bu=false)\/(bs w=AH/\x.Bu=true)
 ·rw[In Nl,In (hc.1 Nl)];exact rfl
 ·rw[I Nl,I (fun h'=>Nl (hc.2 h'))];have oz:¬x.Aa=[]:=fun h'=>Nl (.inl h')
  unfold J3 at hn;cases hf:x.finish s with
  | error c=>rw[hf] at hn;simp only[] at hn⊢;rw[hn];exact rfl
  | ok y=>
   rw[hf] at hn;simp only[] at hn⊢;obtain⟨y0,q,nd,e1,Wx,e2,e3,e4,uZ⟩:=hn;rw[e1];simp only[];have kK:¬y0.Aa=[]:=by rw[e2];exact oz
   obtain⟨ts,t,ht⟩:∃ts t,y0.Aa=ts++[t]:=by
    rcases f5 y0.Aa with h0 | ⟨ts,t,h0⟩
    ·exact UV h0 kK
    ·exact mce
   have hq:=Wx.Ah;have hqo:=Kh Wx;have hd:=Wx.depth;rcases uZ with⟨f,⟨l1,l2,l3⟩,rfl⟩ | ⟨k,rfl,rfl⟩
   ·rw[Ts kK,pL kK,hq,I l3];by_cases Ln:14 < y0.Ah+1
    ·rw[In (.inl Ln),In Ln];exact rfl
    ·rw[I Y,I Ln];have hz:=lL Wx ht f [nd] (l1 _ _).symm;rw[XR];obtain⟨h1,h2,h3,h4,h5,h6,h7,h8⟩:=hz;exact⟨h1,h2,h3,h4,h5,rfl,h7,h8⟩
   ·have AD:(y0.D5 k).Ah=y0.Ah:=rfl;have RT:(y0.D5 k).Fg=y0.Af.length+2:=by
     rw[Wc (x:=y0.D5 k) kK];unfold qr.D5;simp
    have hk:(C8 k 0).kind=122\/(C8 k 0).kind=108\/(C8 k 0).kind=40:=by cases k <;>simp[C8,Nd.of]
    rw[AD,RT,hq,In hk];by_cases Ln:14 < y0.Ah+1
    ·rw[In (.inl Ln),In Ln];exact rfl
    ·rw[I Ln];by_cases h3:y0.Af.length=3
     ·rw[In Y,In (by rw[hqo];exact h3)];exact rfl
     ·rw[I Y,I (by rw[hqo];exact h3)];have hz:=py Wx ht k Y;have ho:({C8 k 0 with Aj:=(q.Af.length:Int)}:Nd)=C8 k y0.Af.length:=by rw[hqo];cases k <;>rfl
      rw[ho];obtain⟨h1,h2,h3,h4,h5,h6,h7,h8⟩:=hz;exact⟨h1,h2,h3,h4,h5,rfl,h7,h8⟩
theorem ki (h:NO x r) (w:ByteArray) (l:Ws) (hl:Br (w::l)=true):Sk (x.row (w::l)) (r.row (w::l)):=by
 rw[cZ];unfold RS.row;simp only[GC];by_cases h1:bs w=AK
 ·rw[In h1,In h1];exact mx h w l h1 hl
 rw[I h1,I h1];by_cases h2:bs w=AE
 ·rw[In h2,In h2];have AbZ:l=[]:=by
   rcases l with _ | ⟨a,q⟩
   ·rfl
   ·simp[Br,Fh,GC,h2,AK,AE] at hl
  subst AbZ;simp only[ne_eq,not_true_eq_false,y4];exact gi h
 rw[I h2,I h2];by_cases h3:bs w=Ey
 ·simp only[h3,↓reduceIte];have AbZ:l=[]:=by
   rcases l with _ | ⟨a,q⟩
   ·rfl
   ·simp[Br,Fh,GC,h3,AK,AE,Ey] at hl
  subst AbZ;simp only[ne_eq,not_true_eq_false,y4];have he:=zP h;cases ho:x.Af.getLast? with
  | none=>rw[ho] at he;simp only[] at he⊢;rw[he];exact rfl
  | some f=>
   rw[ho] at he;obtain⟨q,e1,e2⟩:=he;simp only[];rw[e1];exact e2
 simp only[h3,↓reduceIte];exact XQ h w l (Wo w l h1 h2 h3 hl) hl
def GZ (r q:RS):Prop:=q.As=r.As/\q.first=r.first/\q.size=r.size/\q.Af=r.Af/\q.Ah=r.Ah/\q.p.Aa=r.p.Aa/\q.p.cells=r.p.cells/\
 (∀m:Int,(∀t,t∈r.p.Ao->(t.length:Int)=m)->∀t,t∈q.p.Ao->(t.length:Int)=m)/\q.p.Ao.length=r.p.Ao.length
theorem GZ.refl (_:r.p.Ao≠[]):GZ r r:=⟨rfl,rfl,rfl,rfl,rfl,rfl,rfl,fun _ h=>h,rfl⟩
theorem GZ.ne (k:GZ r q) (h:r.p.Ao≠[]):q.p.Ao≠[]:=fun h'=>h (RK (by rw[<-k.2.2.2.2.2.2.2.2,h'];rfl))
theorem GZ.trans {a b c:RS} (h:GZ a b) (k:GZ b c):GZ a c:=by
 obtain⟨h1,h2,h3,h4,h5,h6,h7,h8,h9⟩:=h;obtain⟨k1,k2,k3,k4,k5,k6,k7,k8,k9⟩:=k;exact⟨k1.trans h1,k2.trans h2,k3.trans h3,k4.trans h4,k5.trans h5,k6.trans h6,k7.trans h7,fun m h=>k8 m (h8 m h),k9.trans h9⟩
theorem VA (h:r.p.Ao≠[]) (c:Int):GZ r (r.EY c):=by
 refine⟨rfl,rfl,rfl,rfl,rfl,rfl,rfl,fun m hm t ht=> ?_,by have:=Qae.2 h;simp[RS.EY];omega⟩;obtain⟨ts,t0,h0⟩:∃ts t,r.p.Ao=ts++[t]:=by
  rcases f5 r.p.Ao with h0 | ⟨ts,t,h0⟩
  ·exact UV h0 h
  ·exact mce
 unfold RS.EY at ht;simp only[h0,Qat,Qa3,Qav,Qbm,Qbp,Nm,Z] at ht;rcases ht with ht | rfl
 ·exact hm t (by rw[h0];simp[ht])
 ·rw[Qaa];exact hm t0 (by rw[h0];simp)
theorem ZE (h:r.p.Ao≠[]) (x:Nd) (s:ByteArray) (w:Ws):GZ r (r.cell x s w).1:=by
 unfold RS.cell;simp only[];by_cases hk:A6 r.As s < 0
 ·simp only[hk,Qau];exact GZ.refl h
 ·simp only[hk,y4];by_cases h5:w.length=5
  ·simp only[h5,Qau];exact VA h _
  ·simp only[h5,y4];exact VA h _
theorem SP (h:r.p.Ao≠[]) (x:Nd) (s:ByteArray) {q:RS} {y:Nd} (he:r.JA x s= .ok (q,y)):GZ r q:=by
 unfold RS.JA at he;split at he
 ·cases he
 ·split at he
  ·cases he;exact GZ.refl h
  ·split at he
   ·cases he
   ·cases he;exact⟨rfl,rfl,rfl,rfl,rfl,rfl,rfl,fun _ h=>h,rfl⟩
theorem dh (r:RS):GZ r r.DG:=⟨rfl,rfl,rfl,rfl,rfl,rfl,rfl,fun _ h=>h,rfl⟩
theorem nf (h:r.p.Ao≠[]) (w:Ws) {q:RS} {y:Nd} (he:r.node w= .ok (q,y)):GZ r q:=by
 unfold RS.node at he;simp only[] at he;split at he
 ·by_cases h5:w.length=5
  ·simp only[h5,Qau] at he;split at he
   ·exact SP h _ _ he
   ·cases he
  ·simp only[h5,y4] at he;split at he
   ·exact SP h _ _ he
   ·cases he
 split at he
 ·have hc:=ZE h (.of 103) (wd w 2) w;split at he
  ·exact hc.trans (SP (hc.ne h) _ _ he)
  ·cases he
 split at he
 ·have hc:=ZE h (.of 112) (wd w 1) w;split at he
  ·cases he;exact hc.trans (dh _)
  ·cases he
 split at he
 ·split at he
  ·cases he;exact GZ.refl h
  ·cases he
 split at he
 ·split at he
  ·cases he;exact GZ.refl h
  ·cases he
 split at he
 ·cases he;exact GZ.refl h
 split at he
 ·cases he;exact GZ.refl h
 ·cases he;exact GZ.refl h
structure IP (R:RS) (n:Nat):Prop where
 tP:Mo R n
 tl:R.p.Ao.length=R.p.Aa.length
 fl:R.first.length=R.As.length
 ne:R.Af≠[]->R.p.Aa≠[]
 lt:∀k,k∈R.Af->k < R.CM.length
 ol:R.Af.length<=3
 s0:0<=R.Ah
 s1:R.Ah<=14
 nl:R.p.Aa≠[]->(R.CM.length:Int)+R.Af.length<=2*R.Ah
theorem IP.ku (h:IP R n):Tv R:=by
 refine⟨h.ne,h.lt,h.ol,?_⟩;by_cases ht:R.p.Aa=[]
 ·simp[RS.CM,ht]
 ·have:=h.nl ht;have:=h.s1;omega
theorem IP.Dl:IP .Dl 0:=by
 refine⟨⟨?_,Y,?_,?_,?_,?_⟩,rfl,rfl,?_,?_,?_,?_,?_,?_⟩ <;>simp[RS.Dl]
theorem IF (r:RS) (l:List Nd):(r.Be l).CM=l:=by simp[RS.CM,RS.Be]
theorem Io (h:r.p.Aa≠[]) (l:List Nd):(r.Be l).p.Aa.length=r.p.Aa.length:=by
 have:=Qae.2 h;simp[RS.Be];omega
theorem Qk (r:RS) (l:List Nd):(r.Be l).p.Aa≠[]:=by simp[RS.Be]
theorem IP.D6 (h:IP R n) (hn:n+1<=2500) {l:Ws} (hl:Br l=true) (Bi:l≠[]) (hk:bs (wd l 0)=AK) {R':RS} (he:R.D6 l= .ok R'):IP R' (n+1):=by
 unfold RS.D6 at he;have hlen:l.length=2\/(l.length=3/\Fx (bs (wd l 2)) 6=true):=by
  exact ma9
 obtain⟨z,Fo,hz6,hz⟩:∃z:Int,1<=z/\z<=6/\(if 2 < l.length then (number (bs (wd l 2))).getD 0 else 1)=z:=by
  rcases hlen with h2 | ⟨h3,h4⟩
  ·exact⟨1,Y,Y,by simp[h2]⟩
  ·unfold Fx at h4;cases p9:number (bs (wd l 2)) with
   | none=>rw[p9] at h4;cases h4
   | some v=>
    rw[p9] at h4;simp only[Qaf,Qad] at h4;exact⟨v,Y,Y,by simp[h3]⟩
 rw[hz] at he;by_cases ht:R.p.Aa=[]
 ·rw[I (fun h=>h ht)] at he;split at he
  ·cases he
  ·cases he;obtain⟨⟨b1,b2,b3,b4,b5,b6⟩,a1,a2,a3,a4,a5,a6,a7,a8⟩:=h;refine⟨⟨by simp;omega,hn,by simp;omega,by simp;omega,fun c hc=> ?_,fun t hh=> ?_⟩,a1,by simp[a2],a3,a4,a5,a6,a7,a8⟩
   ·simp only[Nm,Z] at hc;show 0<=c/\c < R.p.cells+z;rcases hc with hc | rfl
    ·have:=b5 c hc;omega
    ·omega
   ·have:R.p.Ao=[]:=RK (by rw[a1,ht];rfl);simp[this] at hh
 ·rw[In ht] at he;cases he
theorem IP.Np (h:IP R n) (hn:n+1<=2500) {R':RS} (he:R.Np= .ok R'):IP R' (n+1):=by
 unfold RS.Np at he;rcases f5 R.Af with h0 | ⟨os,a,h0⟩
 ·rw[h0] at he;simp at he
 ·rw[m8] at h0;rw[h0] at he;simp only[Qa3,Qav,Qbm,Qat,Except.ok.injEq] at he;have hT:=h.ne (by rw[h0];simp);generalize hl':(if (R.CM.getD a (.of 0)).kind=40 then R.CM++[Nd.of 41] else if (R.CM.getD a (.of 0)).kind=108 then R.CM++[{Nd.of 98 with Dg:=a+1,Aj:=(R.CM.getD a (.of 0)).Aj}] else R.CM)=l' at he;have hlen:R.CM.length<=l'.length/\l'.length<=R.CM.length+1:=by
   subst hl';split
   ·simp
   ·split
    ·simp
    ·omega
  subst he;obtain⟨⟨b1,b2,b3,b4,b5,b6⟩,a1,a2,a3,a4,a5,a6,a7,a8⟩:=h;have e1:∀q:RS,(q.Be (l'.set a {l'.getD a (.of 0) with Dg:=l'.length})).CM.length=l'.length:=fun q=>by rw[IF,Qaa]
  have e2:({R with Af:=os}:RS).p.Aa≠[]:=hT;have XC:R.Af.length=os.length+1:=by rw[h0];simp
  have:=a8 hT;refine⟨⟨?_,hn,b3,b4,b5,b6⟩,?_,a2,fun _=>Qk _ _,?_,?_,a6,a7,fun _=> ?_⟩
  ·rw[Io e2];show R.As.length+R.p.Aa.length<=n+1;omega
  ·rw[Io e2];exact a1
  ·intro k hk;rw[e1];have:=a4 k (by rw[h0];exact D _ hk);omega
  ·show os.length<=3;omega
  ·rw[e1];show(l'.length:Int)+os.length<=2*R.Ah;omega
theorem IP.Aa6 (h:IP R n) (hn:n+1<=2500) (ho:R.Af=[]):
  IP {R with p:={R.p with Aa:=R.p.Aa++[[]],Ao:=R.p.Ao++[List.replicate R.p.cells.toNat false],BJ:=R.p.BJ++[false]},AA:=[],Ah:=0} (n+1):=by
 obtain⟨⟨b1,b2,b3,b4,b5,b6⟩,a1,a2,a3,a4,a5,a6,a7,a8⟩:=h;refine⟨⟨by simp;omega,hn,b3,b4,b5,fun t ht=> ?_⟩,by simp[a1],a2,fun _=>EQ,fun k hk=> ?_,a5,EQ,EQ,fun _=> ?_⟩
 ·simp only[Nm,Z] at ht;rcases ht with ht | rfl
  ·exact b6 t ht
  ·simp;omega
 ·simp[ho] at hk
 ·simp[RS.CM,ho]
theorem IP.AcX (h:IP R n) (hn:n+1<=2500) (hT:R.p.Aa≠[]) {q:RS} (k:GZ R q) (x:Nd) (Ln:¬14 < q.Ah+1):
  IP ({q with Ah:=q.Ah+1}.Be (q.CM++[x])) (n+1)/\(¬q.Af.length=3->IP ({q with Ah:=q.Ah+1,Af:=q.Af++[q.CM.length]}.Be (q.CM++[x])) (n+1)):=by
 obtain⟨⟨b1,b2,b3,b4,b5,b6⟩,a1,a2,a3,a4,a5,a6,a7,a8⟩:=h;obtain⟨k1,k2,k3,k4,k5,k6,k7,k8,k9⟩:=k;have hl:q.CM=R.CM:=by unfold RS.CM;rw[k6]
 have h8:=a8 hT;have hq:q.p.Aa≠[]:=by rw[k6];exact hT
 constructor
 ·refine⟨⟨?_,hn,?_,?_,?_,?_⟩,?_,?_,fun _=>Qk _ _,?_,?_,?_,?_,fun _=> ?_⟩
  ·rw[Io (r:={q with Ah:=q.Ah+1}) hq];show q.As.length+q.p.Aa.length<=n+1;rw[k1,k6];omega
  ·show 0<=q.p.cells;rw[k7];exact b3
  ·show q.p.cells<=6*q.As.length;rw[k7,k1];exact b4
  ·show∀c,c∈q.first->0<=c/\c < q.p.cells;rw[k2,k7];exact b5
  ·show∀t,t∈q.p.Ao->(t.length:Int)=q.p.cells;rw[k7];exact k8 _ b6
  ·rw[Io (r:={q with Ah:=q.Ah+1}) hq];show q.p.Ao.length=q.p.Aa.length;rw[k9,k6];exact a1
  ·show q.first.length=q.As.length;rw[k2,k1];exact a2
  ·intro k hk;rw[IF,hl];have:=a4 k (by rw[<-k4];exact hk);simp;omega
  ·show q.Af.length<=3;rw[k4];exact a5
  ·show 0<=q.Ah+1;omega
  ·show q.Ah+1<=14;omega
  ·rw[IF,hl];show((R.CM++[x]).length:Int)+q.Af.length<=2*(q.Ah+1);rw[k4,k5];simp;omega
 ·intro h3;rw[k4] at h3;refine⟨⟨?_,hn,?_,?_,?_,?_⟩,?_,?_,fun _=>Qk _ _,?_,?_,?_,?_,fun _=> ?_⟩
  ·rw[Io (r:={q with Ah:=q.Ah+1,Af:=q.Af++[q.CM.length]}) hq];show q.As.length+q.p.Aa.length<=n+1;rw[k1,k6];omega
  ·show 0<=q.p.cells;rw[k7];exact b3
  ·show q.p.cells<=6*q.As.length;rw[k7,k1];exact b4
  ·show∀c,c∈q.first->0<=c/\c < q.p.cells;rw[k2,k7];exact b5
  ·show∀t,t∈q.p.Ao->(t.length:Int)=q.p.cells;rw[k7];exact k8 _ b6
  ·rw[Io (r:={q with Ah:=q.Ah+1,Af:=q.Af++[q.CM.length]}) hq];show q.p.Ao.length=q.p.Aa.length;rw[k9,k6];exact a1
  ·show q.first.length=q.As.length;rw[k2,k1];exact a2
  ·intro k hk;rw[IF,hl];have LH:k∈q.Af++[q.CM.length]:=hk;rw[k4,hl] at LH;simp only[Nm,Z] at LH;rw[V,d5];rcases LH with LH | rfl
   ·have:=a4 k LH;omega
   ·omega
  ·show(q.Af++[q.CM.length]).length<=3;rw[k4];simp;omega
  ·show 0<=q.Ah+1;omega
  ·show q.Ah+1<=14;omega
  ·rw[IF,hl];show((R.CM++[x]).length:Int)+(q.Af++[R.CM.length]).length<=2*(q.Ah+1);rw[k4,k5];simp;omega
theorem IP.row (h:IP R n) (hn:n+1<=2500) {l:Ws} (hl:Br l=true) (Bi:l≠[]) {R':RS} (he:R.row l= .ok R'):IP R' (n+1):=by
 unfold RS.row at he;simp only[] at he;split at he
 ·rename_i hk;exact h.D6 hn hl Bi hk he
 split at he
 ·split at he
  ·cases he
  ·rename_i ho;cases he;exact h.Aa6 hn (by simpa using ho)
 split at he
 ·exact h.Np hn he
 split at he
 ·cases he
 rename_i Nl;have hT:R.p.Aa≠[]:=fun h'=>Nl (.inl h')
 have hu:R.p.Ao≠[]:=fun h'=>hT (RK (by rw[<-h.tl,h'];rfl))
 cases hr:R.node l with
 | error c=>rw[hr] at he;cases he
 | ok qx=>
  obtain⟨q,x⟩:=qx;rw[hr] at he;simp only[] at he;have hk:=nf hu l hr;split at he
  ·cases he
  ·rename_i Ln;split at he
   ·split at he
    ·cases he
    ·rename_i h3;cases he;exact(h.AcX hn hT hk _ Ln).2 h3
   ·cases he;exact(h.AcX hn hT hk _ Ln).1
def FR (a:At):Prop:=if a.AR=true then 0<=a.v/\a.v < 4 else -9223372036854775808<=a.v/\a.v<=9223372036854775807
def WF (cells:Int):Bt->Nat->Bool->Prop
 | .nil,_,_=>True
 | .set v op a b r,d,i=>(0<=v/\v < 4)/\(op.size=0\/op∈Cj)/\FR a/\FR b/\WF cells r d i
 | .get v f s a r,d,i=>(0<=v/\v < 4)/\(0<=f/\1<=s/\f+s<=cells)/\FR a/\i=true/\WF cells r d i
 | .put f s a b r,d,i=>(0<=f/\1<=s/\f+s<=cells)/\FR a/\FR b/\i=true/\WF cells r d i
 | .out a r,d,i=>FR a/\WF cells r d i
 | .atomic b r,d,i=>i=false/\d < 3/\WF cells b (d+1) true/\WF cells r d i
 | .EA a b r,d,i=>FR a/\d < 3/\WF cells b (d+1) i/\WF cells r d i
 | .loop n b r,d,i=>(1<=n/\n<=4)/\d < 3/\WF cells b (d+1) i/\WF cells r d i
theorem WF.Fj {s:Bt} {d:Nat} {i:Bool} (h:WF cells s d i) (k:WF cells t d i):WF cells (s.Fj t) d i:=by
 induction s generalizing d i with
 | nil=>exact k
 | set v op a b r ih=>exact⟨h.1,h.2.1,h.2.2.1,h.2.2.2.1,ih h.2.2.2.2 k⟩
 | get v f s a r ih=>exact⟨h.1,h.2.1,h.2.2.1,h.2.2.2.1,ih h.2.2.2.2 k⟩
 | put f s a b r ih=>exact⟨h.1,h.2.1,h.2.2.1,h.2.2.2.1,ih h.2.2.2.2 k⟩
 | out a r ih=>exact⟨h.1,ih h.2 k⟩
 | atomic b r _ ih=>exact⟨h.1,h.2.1,h.2.2.1,ih h.2.2.2 k⟩
 | EA a b r _ ih=>exact⟨h.1,h.2.1,h.2.2.1,ih h.2.2.2 k⟩
 | loop n b r _ ih=>exact⟨h.1,h.2.1,h.2.2.1,ih h.2.2.2 k⟩
structure CB (c:EI):Prop where
 ll:c.Dj.length=c.B4.length
 l1:1<=c.Dj.length
 l4:c.Dj.length<=4
 ob:∀x,x∈c.Dj->0<=x/\x<=64
 ib:∀x,x∈c.B4->0<=x/\x<=64
def Jj:EI->List Nd->Prop
 | c,[]=>CB c
 | c,x::r=>CB c/\(x.kind=108->1<=x.n/\x.n<=4)/\Jj (c.step x) r
theorem Jj.Bd (h:Jj c l):CB c:=by
 cases l with
 | nil=>exact h
 | cons x r=>exact h.1
theorem Ly {a b:List Nd} (h:Jj c a) (k:Jj (a.foldl EI.step c) b):Jj c (a++b):=by
 induction a generalizing c with
 | nil=>exact k
 | cons x r ih=>exact⟨h.1,h.2.1,ih h.2.2 k⟩
theorem Oh (h:Jj c l) (i:Nat):CB ((l.take i).foldl EI.step c):=by
 induction l generalizing c i with
 | nil=>cases i <;>exact h
 | cons x r ih=>
  cases i with
  | zero=>exact h.1
  | succ i=>exact ih h.2.2 i
theorem sf (h:Jj c l) (i:Nat) (hi:i < l.length) (hk:l[i].kind=108):1<=l[i].n/\l[i].n<=4:=by
 induction l generalizing c i with
 | nil=>simp at hi
 | cons x r ih=>
  cases i with
  | zero=>exact h.2.1 hk
  | succ i=>exact ih h.2.2 i (by simpa using hi) hk
structure CT (c:EI) (os is_:List Int) (n m:Int):Prop where
 o:c.Dj=os++[n]
 i:c.B4=is_++[m]
 l:os.length=is_.length
 l3:os.length<=3
 ob:∀x,x∈os->0<=x/\x<=64
 ib:∀x,x∈is_->0<=x/\x<=64
 n0:0<=n
 n1:n<=4 ^ os.length
 m0:0<=m
 m1:m<=4 ^ os.length
theorem Abh {k:Nat} (h:k<=3):(1:Int)<=4 ^ k/\(4:Int) ^ k<=64:=by
 have:k=0\/k=1\/k=2\/k=3:=Y
 rcases this with rfl | rfl | rfl | rfl <;>decide
theorem CT.cb {n:Int} (h:CT c os is_ n m):CB c:=by
 have hp:=(Abh h.l3).2;have:=h.n1;have:=h.m1;have:=h.n0;have:=h.m0;have:=h.l3;have:=h.l;refine⟨by rw[h.o,h.i];simp[h.l],by rw[h.o];simp,by rw[h.o];simp;omega,fun x hx=> ?_,fun x hx=> ?_⟩
 ·rw[h.o,Nm,Z] at hx;rcases hx with hx | rfl
  ·exact h.ob x hx
  ·omega
 ·rw[h.i,Nm,Z] at hx;rcases hx with hx | rfl
  ·exact h.ib x hx
  ·omega
theorem CT.push {n:Int} (h:CT c os is_ n m) (h2:os.length<=2) {k:Int} (hk:1<=k/\k<=4) (b:Bool) {c':EI} (ho:c'.Dj=c.Dj++[n*k]) (hi:c'.B4=c.B4++[if b then m*k else 1]):
  CT c' (os++[n]) (is_++[m]) (n*k) (if b then m*k else 1):=by
 have hp:=(Abh h.l3);have hn:=h.n1;have hm:=h.m1;have Gu:=h.n0;have WI:=h.m0;have AdF:(4:Int) ^ (os++[n]).length=4 ^ os.length*4:=by rw[V,d5,Int.pow_succ]
 have hmul:∀x:Int,0<=x->x<=4 ^ os.length->0<=x*k/\x*k<=4 ^ os.length*4:=fun x h0 h1=>⟨Qdq h0 Y,Qc5 h1 hk.2 Y Y⟩
 refine⟨by rw[ho,h.o],by rw[hi,h.i],by simp[h.l],by simp;omega,?_,?_,(hmul n Gu hn).1,by rw[AdF];exact(hmul n Gu hn).2,?_,?_⟩
 ·intro x hx;rw[Nm,Z] at hx;rcases hx with hx | rfl
  ·exact h.ob x hx
  ·omega
 ·intro x hx;rw[Nm,Z] at hx;rcases hx with hx | rfl
  ·exact h.ib x hx
  ·omega
 ·cases b
  ·simp
  ·exact(hmul m WI hm).1
 ·rw[AdF];cases b
  ·simp;omega
  ·exact(hmul m WI hm).2
theorem CT.same {n:Int} (h:CT c os is_ n m) {c':EI} (ho:c'.Dj=c.Dj) (hi:c'.B4=c.B4):CT c' os is_ n m:=
 ⟨ho.trans h.o,hi.trans h.i,h.l,h.l3,h.ob,h.ib,h.n0,h.n1,h.m0,h.m1⟩
theorem CT.Xx {n:Int} (h:CT c os is_ n m) {c':EI} (ho:c'.Dj=c.Dj) (hi:c'.B4=c.B4.dropLast++[1]):CT c' os is_ n 1:=by
 refine⟨ho.trans h.o,by rw[hi,h.i,Qat],h.l,h.l3,h.ob,h.ib,h.n0,h.n1,Y,(Abh h.l3).1⟩
theorem Kg {c:EI} {x:Nd} (h:x.kind≠108/\x.kind≠98/\x.kind≠40):(c.step x).Dj=c.Dj/\(c.step x).B4=c.B4:=by
 unfold EI.step;simp only[h.1,h.2.1,h.2.2,y4];split
 ·exact⟨rfl,rfl⟩
 ·split
  ·split <;>exact⟨rfl,rfl⟩
  ·exact⟨rfl,rfl⟩
theorem mW (cells:Int) (t:Bt):∀(d p:Nat) (c:EI) (B4:Bool) (os is_:List Int) (n m:Int),WF cells t d B4->CT c os is_ n m->os.length<=d->d<=3->
  Jj c (BP t d p)/\∃m',CT ((BP t d p).foldl EI.step c) os is_ n m':=by
 induction t with
 | nil=>intro d p c B4 os is_ n m _ h _ _;exact⟨h.cb,m,h⟩
 | set v op a b r ih=>
  intro d p c B4 os is_ n m hw h hd h3;have hs:= @Kg c {Nd.of 115 with v:=v,op:=op,a:=a,b:=b} ⟨by simp[Nd.of],by simp[Nd.of],by simp[Nd.of]⟩;exact maS
 | get v f s a r ih=>
  intro d p c B4 os is_ n m hw h hd h3;have hs:= @Kg c {Nd.of 103 with v:=v,first:=f,size:=s,AW:=a} ⟨by simp[Nd.of],by simp[Nd.of],by simp[Nd.of]⟩;exact maS
 | put f s i a r ih=>
  intro d p c B4 os is_ n m hw h hd h3;have hs:= @Kg c {Nd.of 112 with a:=a,first:=f,size:=s,AW:=i} ⟨by simp[Nd.of],by simp[Nd.of],by simp[Nd.of]⟩;exact maS
 | out a r ih=>
  intro d p c B4 os is_ n m hw h hd h3;have hs:= @Kg c {Nd.of 111 with a:=a} ⟨by simp[Nd.of],by simp[Nd.of],by simp[Nd.of]⟩;obtain⟨i1,i2⟩:=ih d (p+1) _ B4 os is_ n m hw.2 (h.same hs.1 hs.2) hd h3;exact⟨⟨h.cb,by simp[Nd.of],i1⟩,i2⟩
 | EA a b r ihb ihr=>
  intro d p c B4 os is_ n m hw h hd h3;have hs:= @Kg c {Nd.of 122 with a:=a,Aj:=d,Dg:=(p+1+Fm b:Nat)} ⟨by simp[Nd.of],by simp[Nd.of],by simp[Nd.of]⟩;obtain⟨i1,m',i2⟩:=ihb (d+1) (p+1) _ B4 os is_ n m hw.2.2.1 (h.same hs.1 hs.2) Y (by have:=hw.2.1;omega);obtain⟨j1,j2⟩:=ihr d (p+1+Fm b) _ B4 os is_ n m' hw.2.2.2 i2 hd h3;refine⟨⟨h.cb,by simp[Nd.of],Ly i1 j1⟩,?_⟩;exact mbX
 | atomic b r ihb ihr=>
  intro d p c B4 os is_ n m hw h hd h3;have h1:CT (c.step {Nd.of 40 with Aj:=d,Dg:=(p+1+Fm b+1:Nat)}) os is_ n 1:=h.Xx (by simp[EI.step,Nd.of]) (by simp[EI.step,Nd.of]);obtain⟨i1,m',i2⟩:=ihb (d+1) (p+1) _ true os is_ n 1 hw.2.2.1 h1 Y (by have:=hw.2.1;omega);have hs:= @Kg ((BP b (d+1) (p+1)).foldl EI.step (c.step {Nd.of 40 with Aj:=d,Dg:=(p+1+Fm b+1:Nat)})) (.of 41) ⟨by simp[Nd.of],by simp[Nd.of],by simp[Nd.of]⟩;obtain⟨j1,j2⟩:=ihr d (p+1+Fm b+1) _ B4 os is_ n m' hw.2.2.2 (i2.same hs.1 hs.2) hd h3;refine⟨⟨h.cb,by simp[Nd.of],Ly i1 ⟨i2.cb,by simp[Nd.of],j1⟩⟩,?_⟩;exact mbX
 | loop k b r ihb ihr=>
  intro d p c B4 os is_ n m hw h hd h3;have FJ:(c.Dj.getLast?).getD 0=n:=by rw[h.o];simp
  have S8:(c.B4.getLast?).getD 0=m:=by rw[h.i];simp
  have h1:CT (c.step {Nd.of 108 with n:=k,Aj:=d,Dg:=(p+1+Fm b+1:Nat)}) (os++[n]) (is_++[m]) (n*k) (if c.Fq then m*k else 1):=
   h.push (by have:=hw.2.1;omega) hw.1 c.Fq (by simp[EI.step,Nd.of,FJ]) (by simp[EI.step,Nd.of,S8])
  obtain⟨i1,m',i2⟩:=ihb (d+1) (p+1) _ B4 _ _ _ _ hw.2.2.1 h1 (by simp;omega) (by have:=hw.2.1;omega);have h2:CT (((BP b (d+1) (p+1)).foldl EI.step (c.step {Nd.of 108 with n:=k,Aj:=d,Dg:=(p+1+Fm b+1:Nat)})).step {Nd.of 98 with Dg:=(p+1:Nat),Aj:=d}) os is_ n m:=by
   generalize (BP b (d+1) (p+1)).foldl EI.step (c.step {Nd.of 108 with n:=k,Aj:=d,Dg:=(p+1+Fm b+1:Nat)})=q at i2;refine⟨?_,?_,h.l,h.l3,h.ob,h.ib,h.n0,h.n1,h.m0,h.m1⟩
   ·show q.Dj.dropLast=_;rw[i2.o,Qat]
   ·show q.B4.dropLast=_;rw[i2.i,Qat]
  obtain⟨j1,j2⟩:=ihr d (p+1+Fm b+1) _ B4 os is_ n m hw.2.2.2 h2 hd h3;refine⟨⟨h.cb,fun _=>hw.1,Ly i1 ⟨i2.cb,by simp[Nd.of],j1⟩⟩,?_⟩;exact mbX
theorem Acs (cells:Int) (t:Bt):∀(d p:Nat) (c:EI) (os is_:List Int) (n m:Int),WF cells t d true->CT c os is_ n m->os.length<=d->d<=3->c.Fq=true->c.B7<=c.BH->
  ∃o,Aq t m=some (0,o)/\0<=o/\(BP t d p).foldl EI.step c={c with B7:=c.B7+o,BH:=max c.BH (c.B7+o)}:=by
 induction t with
 | nil=>intro d p c os is_ n m _ h _ _ hi hm;exact⟨0,rfl,Y,by simp only[BP,List.foldl_nil];rw[show max c.BH (c.B7+0)=c.BH by omega,Int.add_zero]⟩
 | set v op a b r ih=>
  intro d p c os is_ n m hw h hd h3 hi hm;obtain⟨o,i1,i2,i3⟩:=ih d (p+1) c os is_ n m hw.2.2.2.2 h hd h3 hi hm;refine⟨o,i1,i2,?_⟩;simp only[BP,Qa8];rw[show c.step {Nd.of 115 with v:=v,op:=op,a:=a,b:=b}=c by simp[EI.step,Nd.of]];exact i3
 | get v f s a r ih=>
  intro d p c os is_ n m hw h hd h3 hi hm;obtain⟨o,i1,i2,i3⟩:=ih d (p+1) c os is_ n m hw.2.2.2.2 h hd h3 hi hm;refine⟨o,i1,i2,?_⟩;simp only[BP,Qa8];rw[show c.step {Nd.of 103 with v:=v,first:=f,size:=s,AW:=a}=c by simp[EI.step,Nd.of]];exact i3
 | put f s i a r ih=>
  intro d p c os is_ n m hw h hd h3 hi hm;obtain⟨o,i1,i2,i3⟩:=ih d (p+1) c os is_ n m hw.2.2.2.2 h hd h3 hi hm;refine⟨o,i1,i2,?_⟩;simp only[BP,Qa8];rw[show c.step {Nd.of 112 with a:=a,first:=f,size:=s,AW:=i}=c by simp[EI.step,Nd.of]];exact i3
 | out a r ih=>
  intro d p c os is_ n m hw h hd h3 hi hm;have S8:(c.B4.getLast?).getD 0=m:=by rw[h.i];simp
  have e:c.step {Nd.of 111 with a:=a}={c with B7:=c.B7+m,BH:=max c.BH (c.B7+m)}:=by
   unfold EI.step;simp[Nd.of,hi,S8];split <;>omega
  have WI:=h.m0;obtain⟨o,i1,i2,i3⟩:=ih d (p+1) {c with B7:=c.B7+m,BH:=max c.BH (c.B7+m)} os is_ n m hw.2 (h.same rfl rfl) hd h3 hi (by simp;omega);refine⟨m+o,by simp[Aq,i1],Y,?_⟩;simp only[BP,Qa8];rw[e,i3];exact mbQ
 | EA a b r ihb ihr=>
  intro d p c os is_ n m hw h hd h3 hi hm;obtain⟨o,i1,i2,i3⟩:=ihb (d+1) (p+1) c os is_ n m hw.2.2.1 h Y (by have:=hw.2.1;omega) hi hm;obtain⟨o',j1,j2,j3⟩:=ihr d (p+1+Fm b) {c with B7:=c.B7+o,BH:=max c.BH (c.B7+o)} os is_ n m hw.2.2.2 (h.same rfl rfl) hd h3 hi (by simp;omega);refine⟨o+o',by simp[Aq,i1,j1],Y,?_⟩;simp only[BP,Qa8,Qby];rw[show c.step {Nd.of 122 with a:=a,Aj:=d,Dg:=(p+1+Fm b:Nat)}=c by simp[EI.step,Nd.of],i3,j3];exact mbQ
 | atomic b r ihb ihr=>intro d p c os is_ n m hw;exact UV hw.1 AC
 | loop k b r ihb ihr=>
  intro d p c os is_ n m hw h hd h3 hi hm;have FJ:(c.Dj.getLast?).getD 0=n:=by rw[h.o];simp
  have S8:(c.B4.getLast?).getD 0=m:=by rw[h.i];simp
  have h1:CT (c.step {Nd.of 108 with n:=k,Aj:=d,Dg:=(p+1+Fm b+1:Nat)}) (os++[n]) (is_++[m]) (n*k) (m*k):=by
   have:=h.push (by have:=hw.2.1;omega) hw.1 true (c':=c.step {Nd.of 108 with n:=k,Aj:=d,Dg:=(p+1+Fm b+1:Nat)}) (by simp[EI.step,Nd.of,FJ]) (by simp[EI.step,Nd.of,S8,hi]);simpa using this
  have e1:c.step {Nd.of 108 with n:=k,Aj:=d,Dg:=(p+1+Fm b+1:Nat)}={c with Dj:=c.Dj++[n*k],B4:=c.B4++[m*k]}:=by simp[EI.step,Nd.of,FJ,S8,hi]
  rw[e1] at h1;obtain⟨o,i1,i2,i3⟩:=ihb (d+1) (p+1) _ _ _ _ _ hw.2.2.1 h1 (by simp;omega) (by have:=hw.2.1;omega) hi hm;obtain⟨o',j1,j2,j3⟩:=ihr d (p+1+Fm b+1) {c with B7:=c.B7+o,BH:=max c.BH (c.B7+o)} os is_ n m hw.2.2.2 (h.same rfl rfl) hd h3 hi (by simp;omega);refine⟨o+o',by simp[Aq,i1,j1],Y,?_⟩;simp only[BP,Qa8,Qby];rw[e1,i3];rw[show EI.step {blocks:=c.blocks,B7:=c.B7+o,BH:=max c.BH (c.B7+o),Dj:=c.Dj++[n*k],B4:=c.B4++[m*k],Fq:=c.Fq} {Nd.of 98 with Dg:=(p+1:Nat),Aj:=d}={c with B7:=c.B7+o,BH:=max c.BH (c.B7+o)} by simp[EI.step,Nd.of],j3];exact mbQ
theorem zY (cells:Int) (t:Bt):∀(d p:Nat) (c:EI) (os is_:List Int) (n:Int),WF cells t d false->CT c os is_ n 1->os.length<=d->d<=3->c.Fq=false->0<=c.BH->
  ∃B O M,(BP t d p).foldl EI.step c={c with blocks:=B,B7:=O,BH:=M}/\0<=M/\(M<=8<->c.BH<=8/\(Aq t n).isSome=true)/\∀b o,Aq t n=some (b,o)->B=c.blocks+b:=by
 induction t with
 | nil=>intro d p c os is_ n _ h _ _ hi hm;exact⟨c.blocks,c.B7,c.BH,rfl,hm,by simp[Aq],by simp[Aq]⟩
 | set v op a b r ih=>
  intro d p c os is_ n hw h hd h3 hi hm;obtain⟨B,O,M,i1,i2⟩:=ih d (p+1) c os is_ n hw.2.2.2.2 h hd h3 hi hm;refine⟨B,O,M,?_,i2⟩;simp only[BP,Qa8];rw[show c.step {Nd.of 115 with v:=v,op:=op,a:=a,b:=b}=c by simp[EI.step,Nd.of]];exact i1
 | get v f s a r ih=>intro d p c os is_ n hw;exact UV hw.2.2.2.1 AC
 | put f s i a r ih=>intro d p c os is_ n hw;exact UV hw.2.2.2.1 AC
 | out a r ih=>
  intro d p c os is_ n hw h hd h3 hi hm;obtain⟨B,O,M,i1,i2,i3,i4⟩:=ih d (p+1) c os is_ n hw.2 h hd h3 hi hm;refine⟨B,O,M,?_,i2,?_,?_⟩
  ·simp only[BP,Qa8];rw[show c.step {Nd.of 111 with a:=a}=c by simp[EI.step,Nd.of,hi]];exact i1
  ·rw[i3];simp only[Aq];cases Aq r n with
   | none=>simp
   | some q=>simp
  ·intro b o hb;simp only[Aq] at hb;cases hc:Aq r n with
   | none=>rw[hc] at hb;cases hb
   | some q=>
    rw[hc] at hb;simp only[Option.some.injEq,Prod.mk.injEq] at hb;rw[i4 q.1 q.2 hc,hb.1]
 | EA a b r ihb ihr=>
  intro d p c os is_ n hw h hd h3 hi hm;obtain⟨B,O,M,i1,i2,i3,i4⟩:=ihb (d+1) (p+1) c os is_ n hw.2.2.1 h Y (by have:=hw.2.1;omega) hi hm;obtain⟨B',O',M',j1,j2,j3,j4⟩:=ihr d (p+1+Fm b) {c with blocks:=B,B7:=O,BH:=M} os is_ n hw.2.2.2 (h.same rfl rfl) hd h3 hi i2;refine⟨B',O',M',?_,j2,?_,?_⟩
  ·simp only[BP,Qa8,Qby];rw[show c.step {Nd.of 122 with a:=a,Aj:=d,Dg:=(p+1+Fm b:Nat)}=c by simp[EI.step,Nd.of],i1,j1]
  ·rw[j3];show M<=8/\_<->_;rw[i3];simp only[Aq];cases Aq b n with
   | none=>simp
   | some q=>cases Aq r n <;>simp
  ·intro x o hb;simp only[Aq] at hb;cases hc:Aq b n with
   | none=>rw[hc] at hb;cases hb
   | some q=>
    rw[hc] at hb;cases UH:Aq r n with
    | none=>rw[UH] at hb;cases hb
    | some q'=>
     rw[UH] at hb;simp only[Option.some.injEq,Prod.mk.injEq] at hb;rw[j4 q'.1 q'.2 UH];show B+q'.1=_;rw[i4 q.1 q.2 hc,<-hb.1];omega
 | atomic b r ihb ihr=>
  intro d p c os is_ n hw h hd h3 hi hm;have FJ:(c.Dj.getLast?).getD 0=n:=by rw[h.o];simp
  have e1:c.step {Nd.of 40 with Aj:=d,Dg:=(p+1+Fm b+1:Nat)}={c with blocks:=c.blocks+n,B7:=0,Fq:=true}:=by
   simp[EI.step,Nd.of,FJ,h.i]
  obtain⟨o,a1,a2,a3⟩:=Acs cells b (d+1) (p+1) {c with blocks:=c.blocks+n,B7:=0,Fq:=true} os is_ n 1 hw.2.2.1 (h.same rfl rfl) Y (by have:=hw.2.1;omega) rfl hm;obtain⟨B',O',M',j1,j2,j3,j4⟩:=ihr d (p+1+Fm b+1) {c with blocks:=c.blocks+n,B7:=0+o,BH:=max c.BH (0+o)} os is_ n hw.2.2.2 (h.same rfl rfl) hd h3 hi (by simp;omega);refine⟨B',O',M',?_,j2,?_,?_⟩
  ·simp only[BP,Qa8,Qby];rw[e1,a3];rw[show EI.step {blocks:=c.blocks+n,B7:=0+o,BH:=max c.BH (0+o),Dj:=c.Dj,B4:=c.B4,Fq:=true} (Nd.of 41)={c with blocks:=c.blocks+n,B7:=0+o,BH:=max c.BH (0+o)} by simp[EI.step,Nd.of,hi],j1]
  ·rw[j3];show max c.BH (0+o)<=8/\_<->_;simp only[Aq,a1];by_cases h8:8 < o
   ·simp only[h8,Qau];constructor
    ·intro hh;have:=hh.1;omega
    ·simp
   ·simp only[h8,y4];cases Aq r n with
    | none=>simp
    | some q=>simp;omega
  ·intro x o' hb;simp only[Aq,a1] at hb;split at hb
   ·cases hb
   ·cases UH:Aq r n with
    | none=>rw[UH] at hb;cases hb
    | some q'=>
     rw[UH] at hb;simp only[Option.some.injEq,Prod.mk.injEq] at hb;rw[j4 q'.1 q'.2 UH];show c.blocks+n+q'.1=_;omega
 | loop k b r ihb ihr=>
  intro d p c os is_ n hw h hd h3 hi hm;have FJ:(c.Dj.getLast?).getD 0=n:=by rw[h.o];simp
  have h1:CT (c.step {Nd.of 108 with n:=k,Aj:=d,Dg:=(p+1+Fm b+1:Nat)}) (os++[n]) (is_++[1]) (n*k) 1:=by
   have:=h.push (by have:=hw.2.1;omega) hw.1 false (c':=c.step {Nd.of 108 with n:=k,Aj:=d,Dg:=(p+1+Fm b+1:Nat)}) (by simp[EI.step,Nd.of,FJ]) (by simp[EI.step,Nd.of,hi]);simpa using this
  have e1:c.step {Nd.of 108 with n:=k,Aj:=d,Dg:=(p+1+Fm b+1:Nat)}={c with Dj:=c.Dj++[n*k],B4:=c.B4++[1]}:=by simp[EI.step,Nd.of,FJ,hi]
  rw[e1] at h1;obtain⟨B,O,M,i1,i2,i3,i4⟩:=ihb (d+1) (p+1) _ _ _ _ hw.2.2.1 h1 (by simp;omega) (by have:=hw.2.1;omega) hi hm;obtain⟨B',O',M',j1,j2,j3,j4⟩:=ihr d (p+1+Fm b+1) {c with blocks:=B,B7:=O,BH:=M} os is_ n hw.2.2.2 (h.same rfl rfl) hd h3 hi i2;refine⟨B',O',M',?_,j2,?_,?_⟩
  ·simp only[BP,Qa8,Qby];rw[e1,i1];rw[show EI.step {blocks:=B,B7:=O,BH:=M,Dj:=c.Dj++[n*k],B4:=c.B4++[1],Fq:=c.Fq} {Nd.of 98 with Dg:=(p+1:Nat),Aj:=d}={c with blocks:=B,B7:=O,BH:=M} by simp[EI.step,Nd.of],j1]
  ·rw[j3];show M<=8/\_<->_;rw[i3];simp only[Aq];cases Aq b (n*k) with
   | none=>simp
   | some q=>cases Aq r n <;>simp
  ·intro x o hb;simp only[Aq] at hb;cases hc:Aq b (n*k) with
   | none=>rw[hc] at hb;cases hb
   | some q=>
    rw[hc] at hb;cases UH:Aq r n with
    | none=>rw[UH] at hb;cases hb
    | some q'=>
     rw[UH] at hb;simp only[Option.some.injEq,Prod.mk.injEq] at hb;rw[j4 q'.1 q'.2 UH];show B+q'.1=_;rw[i4 q.1 q.2 hc,<-hb.1];simp;omega
theorem CT.Dl:CT .Dl [] [] 1 1:=⟨rfl,rfl,rfl,EQ,EQ,EQ,Y,EQ,Y,EQ⟩
theorem jo (h:WF cells t 0 false):(decide (3 < (Ig (BP t 0 0)).1) || decide (8 < (Ig (BP t 0 0)).2))= !(match Aq t 1 with | none=>false | some (b,_)=>decide (b<=3)):=by
 obtain⟨B,O,M,h1,h2,h3,h4⟩:=zY cells t 0 0 .Dl [] [] 1 h .Dl EQ Y rfl (by simp[EI.Dl]);unfold Ig;simp only[h1];cases hc:Aq t 1 with
 | none=>
  rw[hc] at h3;simp at h3;simp;omega
 | some q=>
  rw[hc] at h3;have h5:=h4 q.1 q.2 hc;simp[EI.Dl] at h3 h5;obtain⟨b,o⟩:=q;have vc:B=b:=h5;subst vc;show(decide (3 < B) || decide (8 < M))= !decide (B<=3);have h8:¬8 < M:=Y
  by_cases h6:3 < B
  ·have h7:¬B<=3:=Y
   simp only[h6,h7,decide_true,decide_false,Bool.true_or,Bool.not_false]
  ·have h7:B<=3:=Y
   simp only[h6,h7,h8,decide_true,decide_false,Qcj,Bool.not_true]
theorem yj (h:WF cells t 0 false):Jj .Dl (BP t 0 0):=(mW cells t 0 0 .Dl false [] [] 1 1 h .Dl EQ Y).1
end Go.Proofs.YtpdfifdlhpmofaaGreatDoor
