/-
  Part 12 of the proof, packed by program out of P2, P3, P4, P5, P6, P7.
-/
import Derived.Test.YtpdfifdlhpmofaaGreatDoorZ03
import Derived.Test.YtpdfifdlhpmofaaGreatDoorZ09
import Derived.Test.YtpdfifdlhpmofaaGreatDoorZ11
set_option linter.unusedVariables false
set_option linter.unusedSimpArgs false
set_option maxHeartbeats 3200000
set_option maxRecDepth 100000
namespace Go.Proofs.YtpdfifdlhpmofaaGreatDoor
open Go.RowKit
open Go.Lib (hid)
def AA (b:By):ByteArray:=⟨b.toArray⟩
theorem Cs (b:By):bs (AA b)=b:=by simp[bs,AA]
theorem QF (s:ByteArray):AA (bs s)=s:=Lu (Cs _)
theorem NX {l:List ByteArray} {p:List By} (h:l.map bs=p):l=p.map AA:=by
 subst h;rw[List.map_map];have:(AA∘bs)=id:=funext QF;rw[this,List.map_id]
def Bv (p:By):List ByteArray:=(Ay 32 p).map AA
inductive IF where
 | atomic
 | ES (a:At)
 | loop (n:Int)
structure Fr where
 kind:IF
 body:Ck
def IF.Cr:IF→Bool
 | .atomic=>true
 | _=>false
def Fr.done (f:Fr) (rest:Ck):Ck:=match f.kind with
 | .atomic=> .atomic f.body rest
 | .ES a=> .ES a f.body rest
 | .loop n=> .loop n f.body rest
structure XL where
 name:ByteArray
 first:Int
 size:Int
structure qr where
 cells:Int
 Aa:List Ck
 Aw:List XL
 AB:List ByteArray
 Ai:List Fr
 Am:Int
def qr.Dk:qr:=⟨0,[],[],[],[],0⟩
structure Wd where
 name:ByteArray
 v:Int
def Wd.zero:Wd:=⟨⟨#[]⟩,0⟩
abbrev Ws:=List ByteArray
def Uh:Ws→Option (ByteArray×Ws)
 | []=>none
 | a::r=>if Bk (bs a) then some (a,r) else none
def EG:Ws→Option (Wd×Ws)
 | []=>none
 | a::r=>if Bk (bs a) then some (⟨a,0⟩,r) else match number (bs a) with
  | some v=>some (⟨⟨#[]⟩,v⟩,r)
  | none=>none
def Gx (B7:Int) (l:Ws):Option (Int×Ws):=match EG l with
 | none=>none
 | some (w,r)=>if w.name.size=0∧1≤w.v∧w.v≤B7 then some (w.v,r) else none
def jQ:Ws→Option (Wd×Ws)
 | []=>some (.zero,[])
 | a::r=>if bs a=YY then EG r else some (.zero,a::r)
def Z1 (a:ByteArray):Option ByteArray:=if 0≤Bf Dc a then some (wd Cn (Bf Dc a).toNat) else none
inductive OH where
 | set (n:ByteArray) (a:Wd) (op:ByteArray) (b:Wd)
 | get (n s:ByteArray) (A5:Wd)
 | put (s:ByteArray) (a:Wd) (A5:Wd)
 | out (a:Wd)
 | atomic
 | ES (a:Wd)
 | loop (n:Int)
def OH.Cr:OH→Bool
 | .get .. =>true
 | .put .. =>true
 | _=>false
def FZ {α:Type} (x:α):Ws→Option α
 | []=>some x
 | _::_=>none
def HU (r:Ws):Option OH:=match Uh r with
 | none=>none
 | some (n,r)=>match EG r with
  | none=>none
  | some (a,[])=>some (.set n a ⟨#[]⟩ .zero)
  | some (a,o::r)=>match Z1 o with
   | none=>none
   | some op=>match EG r with
    | none=>none
    | some (b,r)=>FZ (.set n a op b) r
def Js (r:Ws):Option OH:=match Uh r with
 | none=>none
 | some (n,r)=>match Uh r with
  | none=>none
  | some (s,r)=>match jQ r with
   | none=>none
   | some (a,r)=>FZ (.get n s a) r
def Jq (r:Ws):Option OH:=match Uh r with
 | none=>none
 | some (s,r)=>match EG r with
  | none=>none
  | some (a,r)=>match jQ r with
   | none=>none
   | some (i,r)=>FZ (.put s a i) r
def ED (f:Wd→OH) (r:Ws):Option OH:=match EG r with
 | none=>none
 | some (a,r)=>FZ (f a) r
def I1 (r:Ws):Option OH:=match Gx 4 r with
 | none=>none
 | some (n,r)=>FZ (.loop n) r
def GU (w:ByteArray) (r:Ws):Option OH:=
 if bs w=CK then HU r
 else if bs w=Cw then Js r
 else if bs w=CL then Jq r
 else if bs w=Ds then ED .out r
 else if bs w=AF then FZ .atomic r
 else if bs w=I8 then ED .ES r
 else if bs w=C6 then I1 r
 else none
namespace qr
def EI (x:qr):Nat:=if x.Aa=[] then 0 else x.Ai.length+1
def BE (x:qr):Bool:=x.Ai.any fun f=>f.kind.Cr
def CA (x:qr) (w:Wd):Except Int At:=
 if w.name.size=0 then .ok ⟨false,w.v⟩ else if 0≤Bf x.AB w.name then .ok ⟨true,Bf x.AB w.name⟩ else .error 4
def Pk (x:qr) (n:ByteArray):Option XL:=x.Aw.find? fun s=>decide (bs s.name=bs n)
def Dd (x:qr) (n:ByteArray):Except Int (Int×qr):=
 if (x.Pk n).isSome then .error 4
 else if 0≤Bf x.AB n then .ok (Bf x.AB n,x)
 else if x.AB.length=4 then .error 5
 else .ok (x.AB.length,{x with AB:=x.AB++[n]})
def cell (x:qr) (n:ByteArray) (A5:Wd):Except Int (Int×Int×At):=match x.Pk n with
 | none=> .error 4
 | some s=>match x.CA A5 with
  | .error c=> .error c
  | .ok a=> .ok (s.first,s.size,a)
def add (x:qr) (s:Ck→Ck):qr:=
 match x.Ai.getLast? with
 | some f=>{x with Ai:=x.Ai.dropLast++[{f with body:=f.body.Ec (s .nil)}]}
 | none=>match x.Aa.getLast? with
  | some t=>{x with Aa:=x.Aa.dropLast++[t.Ec (s .nil)]}
  | none=>x
def DH (x:qr) (k:IF):qr:={x with Ai:=x.Ai++[⟨k,.nil⟩]}
def finish (x:qr):OH→Except Int qr
 | .set n a op b=>match x.CA a with
  | .error c=> .error c
  | .ok a=>match x.CA b with
   | .error c=> .error c
   | .ok b=>match x.Dd n with
    | .error c=> .error c
    | .ok (v,x)=> .ok (x.add (.set v op a b))
 | .get n s A5=>match x.cell s A5 with
  | .error c=> .error c
  | .ok (f,z,a)=>match x.Dd n with
   | .error c=> .error c
   | .ok (v,x)=> .ok (x.add (.get v f z a))
 | .put s a A5=>match x.cell s A5 with
  | .error c=> .error c
  | .ok (f,z,i)=>match x.CA a with
   | .error c=> .error c
   | .ok a=> .ok (x.add (.put f z i a))
 | .out a=>match x.CA a with
  | .error c=> .error c
  | .ok a=> .ok (x.add (.out a))
 | .atomic=> .ok (x.DH .atomic)
 | .ES a=>match x.CA a with
  | .error c=> .error c
  | .ok a=> .ok (x.DH (.ES a))
 | .loop n=> .ok (x.DH (.loop n))
def AO (x:qr) (w:ByteArray) (r:Ws):Except Int qr:=match GU w r with
 | none=> .error 2
 | some s=>if x.Aa=[]∨(s.Cr=true∧x.BE=false)∨(bs w=AF∧x.BE=true) then .error 3
  else match x.finish s with
   | .error c=> .error c
   | .ok y=>if 14 < y.Am+1∨4 < y.EI then .error 5 else .ok {y with Am:=y.Am+1}
def DU (x:qr) (r:Ws):Except Int qr:=match Uh r with
 | none=> .error 2
 | some (n,r)=>match (match r with | []=>some (1,[]) | a::r=>Gx 6 (a::r)) with
  | none=> .error 2
  | some (_,_::_)=> .error 2
  | some (size,[])=>if x.Aa≠[] then .error 3 else if (x.Pk n).isSome then .error 4
   else .ok {x with Aw:=x.Aw++[⟨n,x.cells,size⟩],cells:=x.cells+size}
def row (x:qr):Ws→Except Int qr
 | []=> .error 2
 | w::r=>
  if bs w=AN then x.DU r
  else if bs w=AE then
   if r≠[] then .error 2 else if x.Ai≠[] then .error 3
   else .ok {x with Aa:=x.Aa++[.nil],AB:=[],Am:=0,Ai:=[]}
  else if bs w=D7 then
   if r≠[] then .error 2 else match x.Ai.getLast? with
    | none=> .error 3
    | some f=> .ok ({x with Ai:=x.Ai.dropLast}.add f.done)
  else x.AO w r
end qr
def Az:Ck→Int→Option (Int×Int)
 | .nil,_=>some (0,0)
 | .set _ _ _ _ r,n=>Az r n
 | .get _ _ _ _ r,n=>Az r n
 | .put _ _ _ _ r,n=>Az r n
 | .out _ r,n=>match Az r n with | none=>none | some (b,o)=>some (b,n+o)
 | .ES _ b r,n=>match Az b n with
  | none=>none
  | some (b1,o1)=>match Az r n with | none=>none | some (b2,o2)=>some (b1+b2,o1+o2)
 | .loop k b r,n=>match Az b (n*k) with
  | none=>none
  | some (b1,o1)=>match Az r n with | none=>none | some (b2,o2)=>some (b1+b2,o1+o2)
 | .atomic b r,n=>match Az b 1 with
  | none=>none
  | some (_,e)=>if 8 < e then none else match Az r n with | none=>none | some (b2,o2)=>some (n+b2,o2)
def Em (x:qr):Bool:=decide (x.cells≤6) && (decide (x.Aa.length≤3) && x.Aa.all fun t=>match Az t 1 with | none=>false | some (b,_)=>decide (b≤3))
def GW (n:Nat) (x:qr):Except (Int×Nat) qr:=
 if x.Ai≠[]∨x.Aa=[] then .error (3,n+1) else if Em x then .ok x else .error (5,0)
def GV:List By→Nat→qr→Except (Int×Nat) qr
 | [],n,x=>GW n x
 | [p],n,x=>if p=[]∧0 < n then GW n x else .error (2,n+1)
 | p::q::r,n,x=>match x.row (Bv p) with
  | .error c=> .error (c,n+1)
  | .ok y=>GV (q::r) (n+1) y
def EY (s:By):Except (Int×Nat) qr:=if 2000 < s.length then .error (1,0) else GV (Ay 10 s) 0 .Dk
structure Nd where
 kind:Nat
 v:Int
 op:ByteArray
 a:At
 b:At
 A5:At
 first:Int
 size:Int
 C2:Int
 n:Int
 Aj:Int
def Nd.of (k:Nat):Nd:=⟨k,0,⟨#[]⟩,.zero,.zero,.zero,0,0,0,0,0⟩
structure RP where
 Aa:List (List Nd)
 cells:Int
 AD:List (List Bool)
 Cu:List Bool
structure RS where
 p:RP
 Aw:List ByteArray
 first:List Int
 size:List Int
 AB:List ByteArray
 Ai:List Nat
 Am:Int
def RS.Dk:RS:=⟨⟨[],0,[],[]⟩,[],[],[],[],[],0⟩
namespace RS
def Dg (r:RS):List Nd:=(r.p.Aa.getLast?).getD []
def Bs (r:RS) (l:List Nd):RS:={r with p:={r.p with Aa:=r.p.Aa.dropLast++[l]}}
def CA (r:RS) (s:ByteArray):At×Bool:=match number (bs s) with
 | some v=>(⟨false,v⟩,true)
 | none=>(⟨true,Bf r.AB s⟩,decide (0≤Bf r.AB s))
def Fu (r:RS) (c:Int):RS:={r with p:={r.p with AD:=r.p.AD.dropLast++[((r.p.AD.getLast?).getD []).set c.toNat true]}}
def Ee (r:RS):RS:={r with p:={r.p with Cu:=r.p.Cu.dropLast++[true]}}
def cell (r:RS) (x:Nd) (s:ByteArray) (w:Ws):RS×Nd×Bool:=
 let k:=Bf r.Aw s
 if k < 0 then (r,x,false) else
  let x:={x with first:=r.first.getD k.toNat 0,size:=r.size.getD k.toNat 0}
  let r:=r.Fu x.first
  if w.length=5 then
   let (a,ok):=r.CA (wd w 4)
   (r,{x with A5:=a},ok)
  else (r,x,true)
def I7 (r:RS) (x:Nd) (s:ByteArray):Except Int (RS×Nd):=
 if 0≤Bf r.Aw s then .error 4
 else if 0≤Bf r.AB s then .ok (r,{x with v:=Bf r.AB s})
 else if r.AB.length=4 then .error 5
 else .ok ({r with AB:=r.AB++[s]},{x with v:=r.AB.length})
def node (r:RS) (w:Ws):Except Int (RS×Nd):=
 let w0:=bs (wd w 0)
 if w0=CK then
  let (a,ok):=r.CA (wd w 2)
  let x:={Nd.of 115 with a:=a}
  let (x,ok):=if w.length=5 then
    let (b,too):=r.CA (wd w 4)
    ({x with op:=wd Cn (Bf Dc (wd w 3)).toNat,b:=b},ok && too)
   else (x,ok)
  if ok then r.I7 x (wd w 1) else .error 4
 else if w0=Cw then
  let (r,x,ok):=r.cell (.of 103) (wd w 2) w
  if ok then r.I7 x (wd w 1) else .error 4
 else if w0=CL then
  let (r,x,ok):=r.cell (.of 112) (wd w 1) w
  let (a,fine):=r.CA (wd w 2)
  if ok && fine then .ok (r.Ee,{x with a:=a}) else .error 4
 else if w0=Ds then
  let (a,fine):=r.CA (wd w 1)
  if fine then .ok (r,{Nd.of 111 with a:=a}) else .error 4
 else if w0=I8 then
  let (a,fine):=r.CA (wd w 1)
  if fine then .ok (r,{Nd.of 122 with a:=a}) else .error 4
 else if w0=C6 then .ok (r,{Nd.of 108 with n:=(number (bs (wd w 1))).getD 0})
 else if w0=AF then .ok (r,.of 40)
 else .ok (r,.of 0)
def DU (r:RS) (w:Ws):Except Int RS:=
 if r.p.Aa≠[] then .error 3 else if 0≤Bf r.Aw (wd w 1) then .error 4
 else
  let n:=if 2 < w.length then (number (bs (wd w 2))).getD 0 else 1
  .ok {r with Aw:=r.Aw++[wd w 1],first:=r.first++[r.p.cells],size:=r.size++[n],p:={r.p with cells:=r.p.cells+n}}
def LG (r:RS):Except Int RS:=match r.Ai.getLast? with
 | none=> .error 3
 | some A5=>
  let l:=r.Dg
  let k:=(l.getD A5 (.of 0)).kind
  let l:=if k=40 then l++[.of 41] else if k=108 then l++[{Nd.of 98 with C2:=A5+1,Aj:=(l.getD A5 (.of 0)).Aj}] else l
  .ok ({r with Ai:=r.Ai.dropLast}.Bs (l.set A5 {l.getD A5 (.of 0) with C2:=l.length}))
def BE (r:RS):Bool:=r.Ai.any fun k=>(r.Dg.getD k (.of 0)).kind==40
def row (r:RS) (w:Ws):Except Int RS:=
 let w0:=bs (wd w 0)
 if w0=AN then r.DU w
 else if w0=AE then
  if r.Ai≠[] then .error 3
  else .ok {r with p:={r.p with Aa:=r.p.Aa++[[]],AD:=r.p.AD++[List.replicate r.p.cells.toNat false],Cu:=r.p.Cu++[false]},AB:=[],Am:=0}
 else if w0=D7 then r.LG
 else if r.p.Aa=[]∨(r.BE=false∧(w0=Cw∨w0=CL))∨(r.BE=true∧w0=AF) then .error 3
 else match r.node w with
  | .error c=> .error c
  | .ok (r,x)=>
   if 14 < r.Am+1 then .error 5
   else if x.kind=122∨x.kind=108∨x.kind=40 then
    if r.Ai.length=3 then .error 5
    else .ok ({r with Am:=r.Am+1,Ai:=r.Ai++[r.Dg.length]}.Bs (r.Dg++[{x with Aj:=r.Ai.length}]))
   else .ok ({r with Am:=r.Am+1}.Bs (r.Dg++[x]))
end RS
structure Eh where
 blocks:Int
 C4:Int
 B7:Int
 CZ:List Int
 CJ:List Int
 EU:Bool
def Eh.Dk:Eh:=⟨0,0,0,[1],[1],false⟩
def Eh.step (c:Eh) (x:Nd):Eh:=
 let o:=(c.CZ.getLast?).getD 0
 let i:=(c.CJ.getLast?).getD 0
 if x.kind=108 then {c with CZ:=c.CZ++[o*x.n],CJ:=c.CJ++[if c.EU then i*x.n else 1]}
 else if x.kind=98 then {c with CZ:=c.CZ.dropLast,CJ:=c.CJ.dropLast}
 else if x.kind=40 then {c with blocks:=c.blocks+o,C4:=0,EU:=true,CJ:=c.CJ.dropLast++[1]}
 else if x.kind=41 then {c with EU:=false}
 else if x.kind=111 then (if c.EU then {c with C4:=c.C4+i,B7:=if c.B7 < c.C4+i then c.C4+i else c.B7} else c)
 else c
def Gt (l:List Nd):Int×Int:=let c:=l.foldl Eh.step .Dk;(c.blocks,c.B7)
def Iq (n:Nat) (r:RS):Except (Int×Nat) RP:=
 if r.Ai≠[]∨r.p.Aa=[] then .error (3,n+1)
 else if (r.p.Aa.any fun t=>decide (3 < (Gt t).1) || decide (8 < (Gt t).2)) || (decide (6 < r.p.cells) || decide (3 < r.p.Aa.length)) then .error (5,0)
 else .ok r.p
def J6:List By→Nat→RS→Except (Int×Nat) RP
 | [],n,r=>Iq n r
 | [p],n,r=>if p=[]∧0 < n then Iq n r else .error (2,n+1)
 | p::q::l,n,r=>if Bz (Bv p) then match r.row (Bv p) with
   | .error c=> .error (c,n+1)
   | .ok r=>J6 (q::l) (n+1) r
  else .error (2,n+1)
def GR (s:By):Except (Int×Nat) RP:=if 2000 < s.length then .error (1,0) else J6 (Ay 10 s) 0 .Dk
structure KL (R:RS) (n:Nat):Prop where
 bn:R.Aw.length+R.p.Aa.length≤n
 nn:n≤2500
 c0:0≤R.p.cells
 c1:R.p.cells≤6*R.Aw.length
 fi:∀c,c∈R.first→0≤c∧c < R.p.cells
 tc:∀t,t∈R.p.AD→(t.length:Int)=R.p.cells
structure Pp (R:RS):Prop where
 ne:R.Ai≠[]→R.p.Aa≠[]
 lt:∀k,k∈R.Ai→k < R.Dg.length
 ol:R.Ai.length≤3
 nl:R.Dg.length≤100
def EP:Ck→Nat
 | .nil=>0
 | .set _ _ _ _ r=>1+EP r
 | .get _ _ _ _ r=>1+EP r
 | .put _ _ _ _ r=>1+EP r
 | .out _ r=>1+EP r
 | .atomic b r=>1+EP b+1+EP r
 | .ES _ b r=>1+EP b+EP r
 | .loop _ b r=>1+EP b+1+EP r
def B4:Ck→Nat→Nat→List Nd
 | .nil,_,_=>[]
 | .set v op a b r,d,p=>{Nd.of 115 with v:=v,op:=op,a:=a,b:=b}::B4 r d (p+1)
 | .get v f s a r,d,p=>{Nd.of 103 with v:=v,first:=f,size:=s,A5:=a}::B4 r d (p+1)
 | .put f s i a r,d,p=>{Nd.of 112 with a:=a,first:=f,size:=s,A5:=i}::B4 r d (p+1)
 | .out a r,d,p=>{Nd.of 111 with a:=a}::B4 r d (p+1)
 | .atomic b r,d,p=>{Nd.of 40 with Aj:=d,C2:=(p+1+EP b+1:Nat)}::(B4 b (d+1) (p+1)++Nd.of 41::B4 r d (p+1+EP b+1))
 | .ES a b r,d,p=>{Nd.of 122 with a:=a,Aj:=d,C2:=(p+1+EP b:Nat)}::(B4 b (d+1) (p+1)++B4 r d (p+1+EP b))
 | .loop n b r,d,p=>{Nd.of 108 with n:=n,Aj:=d,C2:=(p+1+EP b+1:Nat)}::(B4 b (d+1) (p+1)++{Nd.of 98 with C2:=(p+1:Nat),Aj:=d}::B4 r d (p+1+EP b+1))
theorem Eo (s:Ck) (d p:Nat):(B4 s d p).length=EP s:=by
 induction s generalizing d p <;>simp_all[B4,EP] <;>omega
theorem Xq (s t:Ck) (d p:Nat):B4 (s.Ec t) d p=B4 s d p++B4 t d (p+EP s):=by
 induction s generalizing p with
 | nil=>simp[Ck.Ec,B4,EP]
 | atomic b r _ ih=>simp only[Ck.Ec,B4,EP,ih,List.cons_append,List.append_assoc];congr 5;omega
 | ES a b r _ ih=>simp only[Ck.Ec,B4,EP,ih,List.cons_append,List.append_assoc];congr 4;omega
 | loop n b r _ ih=>simp only[Ck.Ec,B4,EP,ih,List.cons_append,List.append_assoc];congr 5;omega
 | set v op a b r ih=>simp only[Ck.Ec,B4,EP,ih,List.cons_append];congr 3;omega
 | get v f s a r ih=>simp only[Ck.Ec,B4,EP,ih,List.cons_append];congr 3;omega
 | put f s i a r ih=>simp only[Ck.Ec,B4,EP,ih,List.cons_append];congr 3;omega
 | out a r ih=>simp only[Ck.Ec,B4,EP,ih,List.cons_append];congr 3;omega
def CP (k:IF) (d:Nat):Nd:=match k with
 | .atomic=>{Nd.of 40 with Aj:=d}
 | .ES a=>{Nd.of 122 with a:=a,Aj:=d}
 | .loop n=>{Nd.of 108 with n:=n,Aj:=d}
def Fo:List Fr→Nat→Nat→List Nd
 | [],_,_=>[]
 | f::fs,d,p=>CP f.kind d::(B4 f.body (d+1) (p+1)++Fo fs (d+1) (p+1+EP f.body))
def Jy:List Fr→Nat
 | []=>0
 | f::fs=>1+EP f.body+Jy fs
def Jt:List Fr→Nat→List Nat
 | [],_=>[]
 | f::fs,p=>p::Jt fs (p+1+EP f.body)
theorem Oz (fs:List Fr) (d p:Nat):(Fo fs d p).length=Jy fs:=by
 induction fs generalizing d p with
 | nil=>rfl
 | cons f fs ih=>simp only[Fo,Jy,List.length_cons,List.length_append,Eo,ih];omega
theorem fM (fs gs:List Fr):Jy (fs++gs)=Jy fs+Jy gs:=by
 induction fs with
 | nil=>simp[Jy]
 | cons f fs ih=>simp only[List.cons_append,Jy,ih];omega
theorem Pg (fs gs:List Fr) (d p:Nat):Fo (fs++gs) d p=Fo fs d p++Fo gs (d+fs.length) (p+Jy fs):=by
 induction fs generalizing d p with
 | nil=>simp[Fo,Jy]
 | cons f fs ih=>
  simp only[List.cons_append,Fo,Jy,ih,List.append_assoc,List.length_cons];congr 4 <;>omega
theorem Rx (fs gs:List Fr) (p:Nat):Jt (fs++gs) p=Jt fs p++Jt gs (p+Jy fs):=by
 induction fs generalizing p with
 | nil=>simp[Jt,Jy]
 | cons f fs ih=>
  simp only[List.cons_append,Jt,Jy,ih];congr 3;omega
theorem WE (fs:List Fr) (p:Nat):(Jt fs p).length=fs.length:=by
 induction fs generalizing p with
 | nil=>rfl
 | cons f fs ih=>simp[Jt,ih]
structure LD (x:qr) (r:RS):Prop where
 cells:r.p.cells=x.cells
 PX:r.Aw=x.Aw.map XL.name
 first:r.first=x.Aw.map XL.first
 size:r.size=x.Aw.map XL.size
 AB:r.AB=x.AB
 Am:r.Am=x.Am
 depth:x.Ai.length≤3
 Aa:(x.Aa=[]∧x.Ai=[]∧r.p.Aa=[]∧r.Ai=[])∨
  ∃ts t,x.Aa=ts++[t]∧r.p.Aa=ts.map (B4 · 0 0)++[B4 t 0 0++Fo x.Ai 0 (EP t)]∧r.Ai=Jt x.Ai (EP t)
theorem LD.Dk:LD .Dk .Dk:=⟨rfl,rfl,rfl,rfl,rfl,rfl,Nat.zero_le _,.inl ⟨rfl,rfl,rfl,rfl⟩⟩
theorem Og {α:Type} (f:α→ByteArray) (l:List α) (n:ByteArray) (k:Nat):
  match l.find? (fun s=>decide (bs (f s)=bs n)) with
  | none=>DC (l.map f) n k= -1
  | some s=>∃i,l[i]?=some s∧DC (l.map f) n k=((k+i:Nat):Int):=by
 induction l generalizing k with
 | nil=>simp[DC]
 | cons a r ih=>
  simp only[List.find?_cons,List.map_cons,DC];by_cases h:bs (f a)=bs n
  ·simp only[h,decide_true,if_pos];exact⟨0,rfl,rfl⟩
  ·simp only[h,decide_false,if_false];have:=ih (k+1);generalize List.find? (fun s=>decide (bs (f s)=bs n)) r=q at this⊢;cases q with
   | none=>exact this
   | some s=>
    obtain⟨i,h1,h2⟩:=this;exact⟨i+1,by simpa using h1,by show DC _ _ _=_;rw[h2];congr 1;omega⟩
theorem Pj {x:qr} {n:ByteArray} (h:x.Pk n=none):Bf (x.Aw.map XL.name) n= -1:=by
 have:=Og XL.name x.Aw n 0;unfold qr.Pk at h;rw[h] at this;exact this
theorem Ph {x:qr} {n:ByteArray} {s:XL} (h:x.Pk n=some s):∃i:Nat,x.Aw[i]?=some s∧Bf (x.Aw.map XL.name) n=i:=by
 have:=Og XL.name x.Aw n 0;unfold qr.Pk at h;rw[h] at this;obtain⟨i,h1,h2⟩:=this;exact⟨i,h1,by unfold Bf;rw[h2];simp⟩
theorem Ui {s:By} (h:Bk s=true):0 < s.length:=by
 unfold Bk at h;simp at h;exact h.2.1
theorem Oj {s:By} (h:Bk s=true):number s=none:=by
 have hp:=Ui h;cases s with
 | nil=>simp at hp
 | cons c r=>
  have hc:low c=true:=by
   unfold Bk at h;simp at h;exact h.1.1
  unfold low at hc;simp only[Bool.and_eq_true,decide_eq_true_eq,UInt8.le_iff_toNat_le] at hc;have h97:97≤c.toNat:=hc.1;have hb:(c==45)=false:=by
   rw[beq_eq_false_iff_ne];rintro rfl;exact absurd h97 (by decide)
  unfold number;simp only[List.headD_cons,hb,Bool.false_eq_true,if_false];split
  ·rfl
  ·unfold D5;rw[if_pos (by right;omega)]
def DA (s:ByteArray):Wd:=if Bk (bs s) then ⟨s,0⟩ else ⟨⟨#[]⟩,(number (bs s)).getD 0⟩
theorem BW (a:ByteArray) (r:Ws):EG (a::r)=if CO (bs a) then some (DA a,r) else none:=by
 unfold EG DA CO;by_cases h:Bk (bs a)
 ·simp[h]
 ·simp only[h];cases number (bs a) <;>simp
theorem Ct:EG []=none:=rfl
theorem CV (a:ByteArray) (r:Ws):Uh (a::r)=if Bk (bs a) then some (a,r) else none:=rfl
theorem DD:Uh []=none:=rfl
theorem Es:jQ []=some (.zero,[]):=rfl
theorem Di (a:ByteArray) (r:Ws):jQ (a::r)=if bs a=YY then EG r else some (.zero,a::r):=rfl
theorem Wm {s:ByteArray} (h:Bk (bs s)=true):¬s.size=0:=by
 have:=Ui h;rw[Bu] at this;omega
theorem Cx (m:Int) (a:ByteArray) (r:Ws):Gx m (a::r)=if Fz (bs a) m then some ((number (bs a)).getD 0,r) else none:=by
 unfold Gx;rw[BW];unfold CO DA Fz;by_cases h:Bk (bs a)
 ·have:=Wm h;simp[h,this,Oj h]
 ·simp only[h];cases hn:number (bs a) with
  | none=>simp
  | some v=>
   have h0:ByteArray.size ⟨#[]⟩=0:=rfl;simp[h0]
theorem Da (m:Int):Gx m []=none:=rfl
theorem F1 (a:ByteArray) (l:Ws):wd (a::l) 0=a:=rfl
theorem GP (a:ByteArray) (l:Ws) (k:Nat):wd (a::l) (k+1)=wd l k:=by simp[wd]
theorem Ca {α:Type} (x:α):FZ x []=some x:=rfl
theorem BS {α:Type} (x:α) (a:ByteArray) (l:Ws):FZ x (a::l)=none:=rfl
theorem QY (l:Ws):l=[]∨(∃a,l=[a])∨(∃a b,l=[a,b])∨(∃a b c,l=[a,b,c])∨(∃a b c d,l=[a,b,c,d])∨∃a b c d e r,l=a::b::c::d::e::r:=by
 rcases l with _ | ⟨a,_ | ⟨b,_ | ⟨c,_ | ⟨d,_ | ⟨e,r⟩⟩⟩⟩⟩
 ·exact .inl rfl
 ·exact .inr (.inl ⟨_,rfl⟩)
 ·exact .inr (.inr (.inl ⟨_,_,rfl⟩))
 ·exact .inr (.inr (.inr (.inl ⟨_,_,_,rfl⟩)))
 ·exact .inr (.inr (.inr (.inr (.inl ⟨_,_,_,_,rfl⟩))))
 ·exact .inr (.inr (.inr (.inr (.inr ⟨_,_,_,_,_,_,rfl⟩))))
theorem Ud (w:ByteArray) (l:Ws) (hw:bs w=CK):HU l=if Bz (w::l) then
  some (.set (wd l 0) (DA (wd l 1)) (if l.length=4 then wd Cn (Bf Dc (wd l 2)).toNat else ⟨#[]⟩) (if l.length=4 then DA (wd l 3) else .zero)) else none:=by
 rcases QY l with rfl | ⟨a,rfl⟩ | ⟨a,b,rfl⟩ | ⟨a,b,c,rfl⟩ | ⟨a,b,c,d,rfl⟩ | ⟨a,b,c,d,e,r,rfl⟩ <;>
  simp[Bz,ET,F1,GP,hw,CK,AN,AE,D7,AF,HU,BW,Ct,CV,DD,Z1,Ca,BS]
 ·by_cases h1:Bk (bs a) <;>simp[h1,Ct,BW,Ca,BS,DD,CV,Es,Di,Cx,Da]
 ·by_cases h1:Bk (bs a) <;>by_cases h2:CO (bs b) <;>simp[h1,h2,Ct,BW,Ca,BS,DD,CV,Es,Di,Cx,Da]
 ·by_cases h1:Bk (bs a) <;>by_cases h2:CO (bs b) <;>by_cases h3:0≤Bf Dc c <;>simp[h1,h2,h3,Ct,BW,Ca,BS,DD,CV,Es,Di,Cx,Da]
 ·by_cases h1:Bk (bs a) <;>by_cases h2:CO (bs b) <;>by_cases h3:0≤Bf Dc c <;>by_cases h4:CO (bs d) <;>simp[h1,h2,h3,h4,Ct,BW,Ca,BS,DD,CV,Es,Di,Cx,Da]
 ·by_cases h1:Bk (bs a) <;>by_cases h2:CO (bs b) <;>by_cases h3:0≤Bf Dc c <;>by_cases h4:CO (bs d) <;>simp[h1,h2,h3,h4,Ct,BW,Ca,BS,DD,CV,Es,Di,Cx,Da]
theorem Uf (w:ByteArray) (l:Ws) (hw:bs w=Cw):Js l=if Bz (w::l) then
  some (.get (wd l 0) (wd l 1) (if l.length=4 then DA (wd l 3) else .zero)) else none:=by
 rcases QY l with rfl | ⟨a,rfl⟩ | ⟨a,b,rfl⟩ | ⟨a,b,c,rfl⟩ | ⟨a,b,c,d,rfl⟩ | ⟨a,b,c,d,e,r,rfl⟩ <;>
  simp[Bz,ET,F1,GP,hw,Cw,CK,AN,AE,D7,AF,Js,BW,Ct,CV,DD,Es,Di,Ca,BS]
 ·by_cases h1:Bk (bs a) <;>simp[h1,Ct,BW,Ca,BS,DD,CV,Es,Di,Cx,Da]
 ·by_cases h1:Bk (bs a) <;>by_cases h2:Bk (bs b) <;>simp[h1,h2,Ct,BW,Ca,BS,DD,CV,Es,Di,Cx,Da]
 ·by_cases h1:Bk (bs a) <;>by_cases h2:Bk (bs b) <;>by_cases h3:bs c=YY <;>simp[h1,h2,h3,Ct,BW,Ca,BS,DD,CV,Es,Di,Cx,Da]
 ·by_cases h1:Bk (bs a) <;>by_cases h2:Bk (bs b) <;>by_cases h3:bs c=YY <;>by_cases h4:CO (bs d) <;>simp[h1,h2,h3,h4,Ct,BW,Ca,BS,DD,CV,Es,Di,Cx,Da]
 ·by_cases h1:Bk (bs a) <;>by_cases h2:Bk (bs b) <;>by_cases h3:bs c=YY <;>by_cases h4:CO (bs d) <;>simp[h1,h2,h3,h4,Ct,BW,Ca,BS,DD,CV,Es,Di,Cx,Da]
theorem Ue (w:ByteArray) (l:Ws) (hw:bs w=CL):Jq l=if Bz (w::l) then
  some (.put (wd l 0) (DA (wd l 1)) (if l.length=4 then DA (wd l 3) else .zero)) else none:=by
 rcases QY l with rfl | ⟨a,rfl⟩ | ⟨a,b,rfl⟩ | ⟨a,b,c,rfl⟩ | ⟨a,b,c,d,rfl⟩ | ⟨a,b,c,d,e,r,rfl⟩ <;>
  simp[Bz,ET,F1,GP,hw,CL,Cw,CK,AN,AE,D7,AF,Jq,BW,Ct,CV,DD,Es,Di,Ca,BS]
 ·by_cases h1:Bk (bs a) <;>simp[h1,Ct,BW,Ca,BS,DD,CV,Es,Di,Cx,Da]
 ·by_cases h1:Bk (bs a) <;>by_cases h2:CO (bs b) <;>simp[h1,h2,Ct,BW,Ca,BS,DD,CV,Es,Di,Cx,Da]
 ·by_cases h1:Bk (bs a) <;>by_cases h2:CO (bs b) <;>by_cases h3:bs c=YY <;>simp[h1,h2,h3,Ct,BW,Ca,BS,DD,CV,Es,Di,Cx,Da]
 ·by_cases h1:Bk (bs a) <;>by_cases h2:CO (bs b) <;>by_cases h3:bs c=YY <;>by_cases h4:CO (bs d) <;>simp[h1,h2,h3,h4,Ct,BW,Ca,BS,DD,CV,Es,Di,Cx,Da]
 ·by_cases h1:Bk (bs a) <;>by_cases h2:CO (bs b) <;>by_cases h3:bs c=YY <;>by_cases h4:CO (bs d) <;>simp[h1,h2,h3,h4,Ct,BW,Ca,BS,DD,CV,Es,Di,Cx,Da]
theorem Ld (f:Wd→OH) (w:ByteArray) (l:Ws) (hw:bs w=Ds∨bs w=I8):ED f l=if Bz (w::l) then some (f (DA (wd l 0))) else none:=by
 rcases hw with hw | hw <;>rcases l with _ | ⟨a,_ | ⟨b,r⟩⟩ <;>
  simp[Bz,ET,F1,GP,hw,Ds,I8,CL,Cw,CK,AN,AE,D7,AF,ED,BW,Ct,Ca,BS]
 all_goals by_cases h1:CO (bs a) <;>simp[h1,Ct,Ca,BS]
theorem Rv (w:ByteArray) (l:Ws) (hw:bs w=C6):I1 l=if Bz (w::l) then some (.loop ((number (bs (wd l 0))).getD 0)) else none:=by
 rcases l with _ | ⟨a,_ | ⟨b,r⟩⟩ <;>
  simp[Bz,ET,F1,GP,hw,C6,Ds,I8,CL,Cw,CK,AN,AE,D7,AF,I1,Cx,Da,Ca,BS]
 all_goals by_cases h1:Fz (bs a) 4 <;>simp[h1,Ct,Ca,BS]
theorem UQ (w:ByteArray) (l:Ws) (hw:bs w=AF):FZ OH.atomic l=if Bz (w::l) then some .atomic else none:=by
 rcases l with _ | ⟨a,r⟩ <;>simp[Bz,ET,F1,hw,AN,AE,D7,AF,Ca,BS]
theorem bG (w:ByteArray) (l:Ws) (h1:¬bs w=AN) (h2:¬bs w=AE) (h3:¬bs w=D7) (h:Bz (w::l)=false):GU w l=none:=by
 unfold GU;split
 ·rename_i hw;rw[Ud w l hw,h];rfl
 ·split
  ·rename_i hw;rw[Uf w l hw,h];rfl
  ·split
   ·rename_i hw;rw[Ue w l hw,h];rfl
   ·split
    ·rename_i hw;rw[Ld _ w l (.inl hw),h];rfl
    ·split
     ·rename_i hw;rw[UQ w l hw,h];rfl
     ·split
      ·rename_i hw;rw[Ld _ w l (.inr hw),h];rfl
      ·split
       ·rename_i hw;rw[Rv w l hw,h];rfl
       ·rfl
theorem RU (w:ByteArray) (l:Ws) (h1:¬bs w=AN) (h2:¬bs w=AE) (h3:¬bs w=D7) (h:Bz (w::l)=true):
  bs w=CK∨bs w=Cw∨bs w=CL∨bs w=Ds∨bs w=AF∨bs w=I8∨bs w=C6:=by
 unfold Bz ET at h;simp only[F1,h1,h2,h3,if_false] at h;by_cases a1:bs w=AF
 ·simp[a1]
 by_cases a2:bs w=CK
 ·simp[a2]
 by_cases a3:bs w=Cw
 ·simp[a3]
 by_cases a4:bs w=CL
 ·simp[a4]
 by_cases a5:bs w=Ds
 ·simp[a5]
 by_cases a6:bs w=I8
 ·simp[a6]
 by_cases a7:bs w=C6
 ·simp[a7]
 simp[a1,a2,a3,a4,a5,a6,a7] at h
theorem Wx (x:qr) (w:ByteArray) (r:Ws):x.row (w::r)=if bs w=AN then x.DU r
  else if bs w=AE then
   if r≠[] then .error 2 else if x.Ai≠[] then .error 3
   else .ok {x with Aa:=x.Aa++[.nil],AB:=[],Am:=0,Ai:=[]}
  else if bs w=D7 then
   if r≠[] then .error 2 else match x.Ai.getLast? with
    | none=> .error 3
    | some f=> .ok ({x with Ai:=x.Ai.dropLast}.add f.done)
  else x.AO w r:=rfl
theorem dh (x:qr) (w:ByteArray) (l:Ws) (h:Bz (w::l)=false):x.row (w::l)= .error 2:=by
 rw[Wx];by_cases h1:bs w=AN
 ·rw[if_pos h1];unfold qr.DU;rcases l with _ | ⟨a,_ | ⟨b,_ | ⟨c,r⟩⟩⟩ <;>simp[Bz,ET,F1,GP,h1,AN] at h <;>simp[DD,CV,Cx]
  ·simp[h]
  ·by_cases h2:Bk (bs a)
   ·simp[h2,h h2]
   ·simp[h2]
  ·by_cases h2:Bk (bs a)
   ·by_cases h3:Fz (bs b) 6 <;>simp[h2,h3]
   ·simp[h2]
 ·rw[if_neg h1];by_cases h2:bs w=AE
  ·rw[if_pos h2];rcases l with _ | ⟨a,r⟩ <;>simp[Bz,ET,F1,h2,AN,AE] at h⊢
  ·rw[if_neg h2];by_cases h3:bs w=D7
   ·rw[if_pos h3];rcases l with _ | ⟨a,r⟩ <;>simp[Bz,ET,F1,h3,AN,AE,D7] at h⊢
   ·rw[if_neg h3];unfold qr.AO;rw[bG w l h1 h2 h3 h]
theorem YU:ByteArray.size ⟨#[]⟩=0:=rfl
theorem KJ {x:qr} {r:RS} (h:r.AB=x.AB) {s:ByteArray} (hs:CO (bs s)=true):
  x.CA (DA s)=if (r.CA s).2 then .ok (r.CA s).1 else .error 4:=by
 unfold qr.CA RS.CA DA;by_cases hn:Bk (bs s)
 ·simp only[hn,if_pos,Oj hn,Wm hn,if_neg,h,decide_eq_true_eq,if_false]
 ·unfold CO at hs;simp only[hn,Bool.false_or] at hs;cases hv:number (bs s) with
  | none=>rw[hv] at hs;cases hs
  | some v=>simp[hn,YU]
theorem US (x:qr):x.CA .zero= .ok .zero:=rfl
def Ql (r q:RS):Prop:=q.Aw=r.Aw∧q.first=r.first∧q.size=r.size∧q.AB=r.AB∧q.Ai=r.Ai∧q.Am=r.Am∧q.p.Aa=r.p.Aa∧q.p.cells=r.p.cells
theorem Ql.refl (r:RS):Ql r r:=⟨rfl,rfl,rfl,rfl,rfl,rfl,rfl,rfl⟩
theorem LD.same {x:qr} {r q:RS} (h:LD x r) (k:Ql r q):LD x q:=by
 obtain⟨k1,k2,k3,k4,k5,k6,k7,k8⟩:=k;exact⟨k8.trans h.cells,k1.trans h.PX,k2.trans h.first,k3.trans h.size,k4.trans h.AB,k6.trans h.Am,h.depth,by rw[k7,k5];exact h.Aa⟩
def jI (r:RS) (nd:Nd) (s:ByteArray) (w:Ws) (res:Except Int (Int×Int×At)):Prop:=match res with
 | .error c=>c=4∧(r.cell nd s w).2.2=false
 | .ok (f,z,a)=>(r.cell nd s w).2.2=true∧(r.cell nd s w).2.1={nd with first:=f,size:=z,A5:=a}∧Ql r (r.cell nd s w).1
theorem jc {x:qr} {r:RS} (h:LD x r) (nd:Nd) (hz:nd.A5= .zero) (s:ByteArray) (w:Ws) (Fh:w.length=5→CO (bs (wd w 4))=true):
  jI r nd s w (x.cell s (if w.length=5 then DA (wd w 4) else .zero)):=by
 unfold jI qr.cell RS.cell;rw[h.PX];cases hf:x.Pk s with
 | none=>
  rw[Pj hf];simp
 | some sv=>
  obtain⟨i,h1,h2⟩:=Ph hf;rw[h2];have hi:¬((i:Int) < 0):=by omega
  have e1:r.first.getD i 0=sv.first:=by rw[h.first];simp[List.getD_eq_getElem?_getD,h1]
  have e2:r.size.getD i 0=sv.size:=by rw[h.size];simp[List.getD_eq_getElem?_getD,h1]
  simp only[hi,if_false,Int.toNat_natCast,e1,e2];by_cases h5:w.length=5
  ·simp only[h5,if_true];rw[KJ (r:=r.Fu sv.first) h.AB (Fh h5)];by_cases ha:((r.Fu sv.first).CA (wd w 4)).2
   ·simp only[ha,if_true];exact⟨trivial,trivial,⟨rfl,rfl,rfl,rfl,rfl,rfl,rfl,rfl⟩⟩
   ·simp only[ha];simp
  ·simp only[h5,if_false,US];exact⟨trivial,by rw[←hz],⟨rfl,rfl,rfl,rfl,rfl,rfl,rfl,rfl⟩⟩
theorem RL {x:qr} {r:RS} (h:LD x r) (nd:Nd) (n:ByteArray):
  match x.Dd n with
  | .error c=>r.I7 nd n= .error c
  | .ok (v,y)=>∃q,r.I7 nd n= .ok (q,{nd with v:=v})∧LD y q∧y.Aa=x.Aa∧y.Ai=x.Ai∧y.Am=x.Am:=by
 unfold qr.Dd RS.I7;rw[h.PX,h.AB];cases hf:x.Pk n with
 | some sv=>
  obtain⟨i,h1,h2⟩:=Ph hf;rw[h2];have:(0:Int)≤(i:Int):=by omega
  simp[this]
 | none=>
  rw[Pj hf];simp only[Option.isSome_none,Bool.false_eq_true,if_false,show¬(0:Int)≤ -1 by omega];by_cases hp:0≤Bf x.AB n
  ·simp only[hp,if_true];exact⟨r,rfl,h,trivial,trivial,trivial⟩
  ·simp only[hp,if_false];by_cases h4:x.AB.length=4
   ·simp[h4]
   ·simp only[h4,if_false];exact⟨_,rfl,⟨h.cells,rfl,h.first,h.size,rfl,h.Am,h.depth,h.Aa⟩,trivial,trivial,trivial⟩
def xo (f:Ck→Ck) (nd:Nd):Prop:=(∀d p,B4 (f .nil) d p=[nd])∧EP (f .nil)=1∧¬(nd.kind=122∨nd.kind=108∨nd.kind=40)
theorem OG {x:qr} {ts:List Ck} {t:Ck} (h:x.Aa=ts++[t]) (s:Ck→Ck):
  ∃t',(x.add s).Aa=ts++[t']∧B4 t' 0 0++Fo (x.add s).Ai 0 (EP t')=(B4 t 0 0++Fo x.Ai 0 (EP t))++B4 (s .nil) x.Ai.length (EP t+Jy x.Ai)∧
   Jt (x.add s).Ai (EP t')=Jt x.Ai (EP t)∧(x.add s).Ai.map Fr.kind=x.Ai.map Fr.kind∧(x.add s).cells=x.cells∧(x.add s).Aw=x.Aw∧(x.add s).AB=x.AB∧(x.add s).Am=x.Am:=by
 rcases List.eq_nil_or_concat x.Ai with h0 | ⟨fs,f,h0⟩
 ·unfold qr.add;rw[h0,h];refine⟨t.Ec (s .nil),?_,?_,?_,?_,by simp,by simp,by simp,by simp⟩
  ·simp
  ·simp only[List.getLast?_nil,List.getLast?_append,List.getLast?_singleton,Option.some_or,h0,Fo,List.append_nil,Xq,List.length_nil,Jy,Nat.add_zero,Nat.zero_add]
  ·simp[h0,Jt]
  ·simp[h0]
 ·rw[List.concat_eq_append] at h0;unfold qr.add;rw[h0];refine⟨t,?_,?_,?_,?_,?_,?_,?_,?_⟩
  ·simp[h]
  ·simp only[List.getLast?_append,List.getLast?_singleton,Option.some_or,List.dropLast_concat,Pg,Fo,List.append_nil,Xq,List.append_assoc,List.cons_append,fM,Jy,List.length_append,List.length_singleton];congr 5
   ·omega
   ·omega
  ·simp only[List.getLast?_append,List.getLast?_singleton,Option.some_or,List.dropLast_concat,Rx,Jt]
  ·simp
  ·simp
  ·simp
  ·simp
  ·simp
theorem JS {r:RS} {ts:List (List Nd)} {l m:List Nd} (h:r.p.Aa=ts++[l]):(r.Bs m).p.Aa=ts++[m]:=by
 unfold RS.Bs;simp[h]
theorem Dr {r:RS} {ts:List (List Nd)} {l:List Nd} (h:r.p.Aa=ts++[l]):r.Dg=l:=by
 unfold RS.Dg;simp[h]
theorem aK {x:qr} {s:Ck→Ck} {ts:List Ck} {t:Ck} (h:x.Aa=ts++[t]):(x.add s).Ai.length=x.Ai.length:=by
 obtain⟨_,_,_,_,h4,_⟩:=OG h s;have:=congrArg List.length h4;simpa using this
theorem aJ {x:qr} {r:RS} (h:LD x r) {ts:List Ck} {t:Ck} (ht:x.Aa=ts++[t]) (s:Ck→Ck) (l:List Nd)
  (hl:l=B4 (s .nil) x.Ai.length (EP t+Jy x.Ai)):LD (x.add s) (r.Bs (r.Dg++l)):=by
 obtain⟨t',a1,a2,a3,a4,a5,a6,a7,a8⟩:=OG ht s;rcases h.Aa with⟨h0,_⟩ | ⟨ts',u,b1,b2,b3⟩
 ·rw[ht] at h0;simp at h0
 ·rw[ht] at b1;obtain⟨rfl,hu⟩:=List.append_inj' b1 rfl;cases hu;refine⟨h.cells.trans a5.symm,h.PX.trans (by rw[a6]),h.first.trans (by rw[a6]),h.size.trans (by rw[a6]),h.AB.trans a7.symm,h.Am.trans a8.symm,by rw[aK ht];exact h.depth,.inr ⟨ts,t',a1,?_,?_⟩⟩
  ·rw[JS b2,Dr b2,a2,hl]
  ·rw[a3];exact b3
theorem dA {x:qr} {r:RS} (h:LD x r) {ts:List Ck} {t:Ck} (ht:x.Aa=ts++[t]) (k:IF) (h3:x.Ai.length < 3):
  LD (x.DH k) ({r with Ai:=r.Ai++[r.Dg.length]}.Bs (r.Dg++[CP k x.Ai.length])):=by
 rcases h.Aa with⟨h0,_⟩ | ⟨ts',u,b1,b2,b3⟩
 ·rw[ht] at h0;simp at h0
 ·refine⟨h.cells,h.PX,h.first,h.size,h.AB,h.Am,by unfold qr.DH;simp;omega,.inr ⟨ts',u,b1,?_,?_⟩⟩
  ·rw[JS (r:={r with Ai:=r.Ai++[r.Dg.length]}) b2,Dr b2];unfold qr.DH;simp[Pg,Fo,B4]
  ·show r.Ai++[r.Dg.length]=_;unfold qr.DH;rw[Dr b2,b3];simp[Rx,Jt,Eo,Oz]
theorem QT {α:Type} (A:List α) (a:α) (B:List α) (z:α):(A++a::B).getD A.length z=a:=by simp
theorem Y0 (fs:List Fr) (A:List Nd) (d p:Nat) (hp:A.length=p) (B:List Nd):
  ((Jt fs p).any fun k=>((A++Fo fs d p++B).getD k (.of 0)).kind==40)=fs.any fun f=>f.kind.Cr:=by
 induction fs generalizing A d p with
 | nil=>rfl
 | cons f fs ih=>
  simp only[Jt,List.any_cons,Fo];have e:A++CP f.kind d::(B4 f.body (d+1) (p+1)++Fo fs (d+1) (p+1+EP f.body))++B=(A++CP f.kind d::B4 f.body (d+1) (p+1))++Fo fs (d+1) (p+1+EP f.body)++B:=by simp
  congr 1
  ·subst hp;rw[List.append_assoc,List.cons_append,QT];cases f.kind <;>rfl
  ·rw[e];exact ih _ _ _ (by simp[Eo,hp];omega)
theorem YZ {x:qr} {r:RS} (h:LD x r):r.BE=x.BE:=by
 unfold RS.BE qr.BE;rcases h.Aa with⟨_,h1,_,h3⟩ | ⟨ts,t,b1,b2,b3⟩
 ·rw[h1,h3];rfl
 ·rw[b3,Dr b2];have:=Y0 x.Ai (B4 t 0 0) 0 (EP t) (Eo _ _ _) [];rw[List.append_nil] at this;exact this
theorem Jf {x:qr} {r:RS} (h:LD x r):r.Ai.length=x.Ai.length:=by
 rcases h.Aa with⟨_,h1,_,h3⟩ | ⟨ts,t,b1,b2,b3⟩
 ·rw[h1,h3];rfl
 ·rw[b3,WE]
theorem JQ {x:qr} {r:RS} (h:LD x r):r.p.Aa=[]↔x.Aa=[]:=by
 rcases h.Aa with⟨h0,h1,h2,h3⟩ | ⟨ts,t,b1,b2,b3⟩
 ·rw[h0,h2];simp
 ·rw[b1,b2];simp
def IV (x:qr) (r:RS) (w:Ws) (res:Except Int qr):Prop:=match res with
 | .error c=>r.node w= .error c
 | .ok y=>∃y0 q nd,r.node w= .ok (q,nd)∧LD y0 q∧y0.Aa=x.Aa∧y0.Ai=x.Ai∧y0.Am=x.Am∧
   ((∃f,xo f nd∧y=y0.add f)∨∃k,nd=CP k 0∧y=y0.DH k)
theorem fY {w:ByteArray} {l:Ws} (hw:bs w=CK) (h:Bz (w::l)=true):CO (bs (wd l 1))=true∧(l.length=4→CO (bs (wd l 3))=true):=by
 simp[Bz,ET,F1,GP,hw,CK,AN,AE,D7,AF] at h;exact⟨h.1.2.2,fun h4=>by rcases h.2 with h2 | h2;omega;exact h2.2.2⟩
theorem ga {w:ByteArray} {l:Ws} (hw:bs w=Cw) (h:Bz (w::l)=true):l.length=4→CO (bs (wd l 3))=true:=by
 simp[Bz,ET,F1,GP,hw,Cw,CK,AN,AE,D7,AF] at h;exact fun h4=>by rcases h.2 with h2 | h2;omega;exact h2.2.2.2
theorem fZ {w:ByteArray} {l:Ws} (hw:bs w=CL) (h:Bz (w::l)=true):CO (bs (wd l 1))=true∧(l.length=4→CO (bs (wd l 3))=true):=by
 simp[Bz,ET,F1,GP,hw,CL,Cw,CK,AN,AE,D7,AF] at h;exact⟨h.1.2.2,fun h4=>by rcases h.2 with h2 | h2;omega;exact h2.2.2.2⟩
theorem Uq {w:ByteArray} {l:Ws} (hw:bs w=Ds∨bs w=I8) (h:Bz (w::l)=true):CO (bs (wd l 0))=true:=by
 rcases hw with hw | hw <;>simp[Bz,ET,F1,GP,hw,Ds,I8,CL,Cw,CK,AN,AE,D7,AF] at h <;>exact h.2
theorem fH (x:qr) (r:RS) (h:LD x r) (w:ByteArray) (l:Ws) (hw:bs w=CK) (hl:Bz (w::l)=true):
  IV x r (w::l) (x.finish (.set (wd l 0) (DA (wd l 1)) (if l.length=4 then wd Cn (Bf Dc (wd l 2)).toNat else ⟨#[]⟩) (if l.length=4 then DA (wd l 3) else .zero))):=by
 obtain⟨h1,h3⟩:=fY hw hl;unfold IV qr.finish RS.node;simp only[F1,hw,if_true,GP,List.length_cons];have ha:=KJ (x:=x) (r:=r) h.AB h1;rw[ha];by_cases hA:(r.CA (wd l 1)).2
 ·simp only[hA,if_true];by_cases h4:l.length=4
  ·have h5:l.length+1=5:=by omega
   simp only[if_pos h4,if_pos h5];have hb:=KJ (x:=x) (r:=r) h.AB (h3 h4);rw[hb];by_cases hB:(r.CA (wd l 3)).2
   ·simp only[hB,if_true,Bool.true_and];have hm:=RL h {Nd.of 115 with a:=(r.CA (wd l 1)).1,op:=wd Cn (Bf Dc (wd l 2)).toNat,b:=(r.CA (wd l 3)).1} (wd l 0);cases hx:x.Dd (wd l 0) with
    | error c=>rw[hx] at hm;exact hm
    | ok vy=>
     rw[hx] at hm;obtain⟨q,m1,m2,m3,m4,m5⟩:=hm;exact⟨vy.2,q,_,m1,m2,m3,m4,m5,.inl ⟨_,⟨fun d p=>rfl,rfl,by simp[Nd.of]⟩,rfl⟩⟩
   ·simp[hB]
  ·have h5:¬l.length+1=5:=by omega
   simp only[if_neg h4,if_neg h5,US];have hm:=RL h {Nd.of 115 with a:=(r.CA (wd l 1)).1} (wd l 0);cases hx:x.Dd (wd l 0) with
   | error c=>rw[hx] at hm;simpa using hm
   | ok vy=>
    rw[hx] at hm;obtain⟨q,m1,m2,m3,m4,m5⟩:=hm;exact⟨vy.2,q,_,by rw[if_pos trivial];exact m1,m2,m3,m4,m5,.inl ⟨_,⟨fun d p=>rfl,rfl,by simp[Nd.of]⟩,rfl⟩⟩
 ·simp only[hA];by_cases h4:l.length=4 <;>simp[h4]
theorem Jz:¬Cw=CK∧¬CL=CK∧¬CL=Cw∧¬Ds=CK∧¬Ds=Cw∧¬Ds=CL∧¬I8=CK∧¬I8=Cw∧¬I8=CL∧¬I8=Ds∧¬C6=CK∧¬C6=Cw∧¬C6=CL∧¬C6=Ds∧¬C6=I8∧
  ¬AF=CK∧¬AF=Cw∧¬AF=CL∧¬AF=Ds∧¬AF=I8∧¬AF=C6:=by decide
theorem UI {x:qr} {r:RS} (h:LD x r) (k:Nat) (s:ByteArray) (w:ByteArray) (l:Ws) (Fh:l.length=4→CO (bs (wd l 3))=true):
  jI r (.of k) s (w::l) (x.cell s (if l.length=4 then DA (wd l 3) else .zero)):=by
 have:=jc h (.of k) rfl s (w::l) (by intro h5;exact Fh (by simpa using h5));simpa[GP] using this
theorem fK (x:qr) (r:RS) (h:LD x r) (w:ByteArray) (l:Ws) (hw:bs w=Cw) (hl:Bz (w::l)=true):
  IV x r (w::l) (x.finish (.get (wd l 0) (wd l 1) (if l.length=4 then DA (wd l 3) else .zero))):=by
 have h3:=ga hw hl;have hk:=Jz;have hc:=UI h 103 (wd l 1) w l h3;unfold IV qr.finish RS.node;simp only[F1,hw,GP,hk,if_false,if_true];cases hx:x.cell (wd l 1) (if l.length=4 then DA (wd l 3) else .zero) with
 | error c=>
  rw[hx] at hc;obtain⟨rfl,hc⟩:=hc;simp[hc]
 | ok v=>
  obtain⟨f,z,a⟩:=v;rw[hx] at hc;obtain⟨LC,LB,ui⟩:=hc;simp only[LC,if_true,LB];have hm:=RL (h.same ui) {Nd.of 103 with first:=f,size:=z,A5:=a} (wd l 0);cases hy:x.Dd (wd l 0) with
  | error c=>rw[hy] at hm;exact hm
  | ok vy=>
   rw[hy] at hm;obtain⟨q,m1,m2,m3,m4,m5⟩:=hm;exact⟨vy.2,q,_,m1,m2,m3,m4,m5,.inl ⟨_,⟨fun d p=>rfl,rfl,by simp[Nd.of]⟩,rfl⟩⟩
theorem Ql.Ee {r q:RS} (h:Ql r q):Ql r q.Ee:=h
theorem dD {r q:RS} (h:Ql r q) (s:ByteArray):q.CA s=r.CA s:=by unfold RS.CA;rw[h.2.2.2.1]
theorem fI (x:qr) (r:RS) (h:LD x r) (w:ByteArray) (l:Ws) (hw:bs w=CL) (hl:Bz (w::l)=true):
  IV x r (w::l) (x.finish (.put (wd l 0) (DA (wd l 1)) (if l.length=4 then DA (wd l 3) else .zero))):=by
 obtain⟨h1,h3⟩:=fZ hw hl;have hk:=Jz;have hc:=UI h 112 (wd l 0) w l h3;have ha:=KJ (x:=x) (r:=r) h.AB h1;unfold IV qr.finish RS.node;simp only[F1,hw,GP,hk,if_false,if_true];cases hx:x.cell (wd l 0) (if l.length=4 then DA (wd l 3) else .zero) with
 | error c=>
  rw[hx] at hc;obtain⟨rfl,hc⟩:=hc;simp[hc]
 | ok v=>
  obtain⟨f,z,a⟩:=v;rw[hx] at hc;obtain⟨LC,LB,ui⟩:=hc;simp only[LC,Bool.true_and,LB,ha,dD ui];by_cases hA:(r.CA (wd l 1)).2
  ·simp only[hA,if_true];exact⟨x,_,_,rfl,h.same ui.Ee,rfl,rfl,rfl,.inl ⟨_,⟨fun d p=>rfl,rfl,by simp[Nd.of]⟩,rfl⟩⟩
  ·simp[hA]
theorem fJ (x:qr) (r:RS) (h:LD x r) (w:ByteArray) (l:Ws) (hw:bs w=Ds) (hl:Bz (w::l)=true):
  IV x r (w::l) (x.finish (.out (DA (wd l 0)))):=by
 have h1:=Uq (.inl hw) hl;have hk:=Jz;have ha:=KJ (x:=x) (r:=r) h.AB h1;unfold IV qr.finish RS.node;simp only[F1,hw,GP,hk,if_false,if_true,ha];by_cases hA:(r.CA (wd l 0)).2
 ·simp only[hA,if_true];exact⟨x,_,_,rfl,h,rfl,rfl,rfl,.inl ⟨_,⟨fun d p=>rfl,rfl,by simp[Nd.of]⟩,rfl⟩⟩
 ·simp[hA]
theorem kG (x:qr) (r:RS) (h:LD x r) (w:ByteArray) (l:Ws) (hw:bs w=I8) (hl:Bz (w::l)=true):
  IV x r (w::l) (x.finish (.ES (DA (wd l 0)))):=by
 have h1:=Uq (.inr hw) hl;have hk:=Jz;have ha:=KJ (x:=x) (r:=r) h.AB h1;unfold IV qr.finish RS.node;simp only[F1,hw,GP,hk,if_false,if_true,ha];by_cases hA:(r.CA (wd l 0)).2
 ·simp only[hA,if_true];exact⟨x,_,_,rfl,h,rfl,rfl,rfl,.inr ⟨_,rfl,rfl⟩⟩
 ·simp[hA]
theorem bO (x:qr) (r:RS) (h:LD x r) (w:ByteArray) (l:Ws) (hw:bs w=C6):
  IV x r (w::l) (x.finish (.loop ((number (bs (wd l 0))).getD 0))):=by
 have hk:=Jz;unfold IV qr.finish RS.node;simp only[F1,hw,GP,hk,if_false,if_true];exact⟨x,_,_,rfl,h,rfl,rfl,rfl,.inr ⟨_,rfl,rfl⟩⟩
theorem WO (x:qr) (r:RS) (h:LD x r) (w:ByteArray) (l:Ws) (hw:bs w=AF):
  IV x r (w::l) (x.finish .atomic):=by
 have hk:=Jz;unfold IV qr.finish RS.node;simp only[F1,hw,hk,if_false,if_true];exact⟨x,_,_,rfl,h,rfl,rfl,rfl,.inr ⟨_,rfl,rfl⟩⟩
theorem iT (f:Fr) (d p:Nat):
  let k:=(CP f.kind d).kind
  let l:=CP f.kind d::B4 f.body (d+1) (p+1)
  let m:=if k=40 then [Nd.of 41] else if k=108 then [{Nd.of 98 with C2:=(p:Int)+1,Aj:=(CP f.kind d).Aj}] else []
  (l++m).set 0 {CP f.kind d with C2:=((p+(l++m).length:Nat):Int)}=B4 (f.done .nil) d p:=by
 obtain⟨k,b⟩:=f;cases k with
 | atomic=>simp[CP,Nd.of,Fr.done,B4,EP,Eo];omega
 | ES a=>simp[CP,Nd.of,Fr.done,B4,EP,Eo];omega
 | loop n=>simp[CP,Nd.of,Fr.done,B4,EP,Eo];omega
theorem nE {α:Type} (A B:List α) (x:α):(A++B).set A.length x=A++B.set 0 x:=by
 induction A with
 | nil=>simp
 | cons a A ih=>simp[ih]
theorem lG {x:qr} {r:RS} (h:LD x r):match x.Ai.getLast? with
  | none=>r.LG= .error 3
  | some f=>∃q,r.LG= .ok q∧LD ({x with Ai:=x.Ai.dropLast}.add f.done) q:=by
 rcases List.eq_nil_or_concat x.Ai with h0 | ⟨fs,f,h0⟩
 ·rw[h0];have:r.Ai=[]:=List.eq_nil_of_length_eq_zero (by rw[Jf h,h0];rfl);unfold RS.LG;rw[this];rfl
 ·rw[List.concat_eq_append] at h0;rw[h0];simp only[List.getLast?_append,List.getLast?_singleton,Option.some_or,List.dropLast_concat];rcases h.Aa with⟨_,h1,_⟩ | ⟨ts,t,b1,b2,b3⟩
  ·rw[h0] at h1;simp at h1
  ·rw[h0] at b3 b2;rw[Rx] at b3;simp only[Jt] at b3;rw[Pg] at b2;simp only[Fo,List.append_nil,Nat.zero_add] at b2;have FA:=Dr b2;unfold RS.LG;rw[b3,FA];simp only[List.getLast?_append,List.getLast?_singleton,Option.some_or,List.dropLast_concat];generalize hA:B4 t 0 0++Fo fs 0 (EP t)=A;have zp:A.length=EP t+Jy fs:=by rw[←hA,List.length_append,Eo,Oz]
   have e1:B4 t 0 0++(Fo fs 0 (EP t)++CP f.kind fs.length::B4 f.body (fs.length+1) (EP t+Jy fs+1))=A++CP f.kind fs.length::B4 f.body (fs.length+1) (EP t+Jy fs+1):=by rw[←hA,List.append_assoc]
   rw[e1,←zp];simp only[QT];have hy:LD {x with Ai:=fs} {r with Ai:=Jt fs (EP t),p:={r.p with Aa:=ts.map (B4 · 0 0)++[A]}}:=
    ⟨h.cells,h.PX,h.first,h.size,h.AB,h.Am,by have:=h.depth;rw[h0] at this;simp at this;show fs.length≤3;omega,.inr ⟨ts,t,b1,by rw[←hA],rfl⟩⟩
   have hz:=aJ (ts:=ts) (t:=t) hy b1 f.done _ rfl;refine⟨_,rfl,?_⟩;have Na:(RS.Dg {r with Ai:=Jt fs (EP t),p:={r.p with Aa:=ts.map (B4 · 0 0)++[A]}})=A:=Dr rfl;rw[Na] at hz;have hf:=iT f fs.length (EP t+Jy fs);simp only[] at hf;have W6:∀m:List Nd,((A++CP f.kind fs.length::B4 f.body (fs.length+1) (A.length+1))++m).set A.length {CP f.kind fs.length with C2:=(((A++CP f.kind fs.length::B4 f.body (fs.length+1) (A.length+1))++m).length:Int)}=
     A++((CP f.kind fs.length::B4 f.body (fs.length+1) (A.length+1))++m).set 0 {CP f.kind fs.length with C2:=((A.length+((CP f.kind fs.length::B4 f.body (fs.length+1) (A.length+1))++m).length:Nat):Int)}:=by
    intro m;rw[List.append_assoc,nE,List.length_append]
   have key:∀L:List Nd,L=A++B4 (f.done .nil) fs.length (EP t+Jy fs)→LD ({x with Ai:=fs}.add f.done) (RS.Bs {r with Ai:=Jt fs (EP t)} L):=by
    intro L hL;have:RS.Bs {r with Ai:=Jt fs (EP t)} L=RS.Bs {r with Ai:=Jt fs (EP t),p:={r.p with Aa:=ts.map (B4 · 0 0)++[A]}} L:=by
     unfold RS.Bs;simp[b2]
    rw[this,hL];exact hz
   apply key;rw[←hf];have hg:∀m:List Nd,(A++CP f.kind fs.length::B4 f.body (fs.length+1) (A.length+1)++m).getD A.length (Nd.of 0)=CP f.kind fs.length:=by
    intro m;rw[List.append_assoc,List.cons_append,QT]
   have yX:(A++CP f.kind fs.length::B4 f.body (fs.length+1) (A.length+1)).getD A.length (Nd.of 0)=CP f.kind fs.length:=QT _ _ _ _;rw[←zp];obtain⟨k,b⟩:=f;have dV:=W6 [];rw[List.append_nil,List.append_nil] at dV;cases k with
   | atomic=>simp only[CP,Nd.of] at W6 hg⊢;simp only[if_true];rw[hg,W6]
   | ES a=>simp only[CP,Nd.of] at W6 yX dV⊢;simp only[show¬(122:Nat)=40 by decide,show¬(122:Nat)=108 by decide,if_false,List.append_nil];rw[yX,dV]
   | loop n=>simp only[CP,Nd.of] at W6 hg⊢;simp only[show¬(108:Nat)=40 by decide,if_false,if_true];rw[hg,W6]
theorem fG (x:qr) (r:RS) (h:LD x r) (w:ByteArray) (l:Ws) (hw:bs w=CK∨bs w=Cw∨bs w=CL∨bs w=Ds∨bs w=AF∨bs w=I8∨bs w=C6) (hl:Bz (w::l)=true):
  ∃s,GU w l=some s∧(s.Cr=true↔(bs w=Cw∨bs w=CL))∧IV x r (w::l) (x.finish s):=by
 have hk:=Jz;unfold GU;rcases hw with hw | hw | hw | hw | hw | hw | hw <;>simp only[hw,hk,if_true,if_false]
 ·exact⟨_,by rw[Ud w l hw,hl];rfl,by simp[OH.Cr,CK,Cw,CL],fH x r h w l hw hl⟩
 ·exact⟨_,by rw[Uf w l hw,hl];rfl,by simp[OH.Cr],fK x r h w l hw hl⟩
 ·exact⟨_,by rw[Ue w l hw,hl];rfl,by simp[OH.Cr],fI x r h w l hw hl⟩
 ·exact⟨_,by rw[Ld _ w l (.inl hw),hl];rfl,by simp[OH.Cr],fJ x r h w l hw hl⟩
 ·exact⟨_,by rw[UQ w l hw,hl];rfl,by simp[OH.Cr],WO x r h w l hw⟩
 ·exact⟨_,by rw[Ld _ w l (.inr hw),hl];rfl,by simp[OH.Cr],kG x r h w l hw hl⟩
 ·exact⟨_,by rw[Rv w l hw,hl];rfl,by simp[OH.Cr],bO x r h w l hw⟩
end Go.Proofs.YtpdfifdlhpmofaaGreatDoor
