/- Part 20 of the proof. -/
import Derived.Test.YtpdfifdlhpmofaaGreatDoorA05
import Derived.Test.YtpdfifdlhpmofaaGreatDoorB00
set_option linter.unusedVariables false
set_option linter.unusedSimpArgs false
set_option maxHeartbeats 0
set_option maxRecDepth 99999
namespace Go.Proofs.YtpdfifdlhpmofaaGreatDoor
open Go.RowKit
open Value renaming slice->qD,string->qE,bool->qF,tuple->qG,agg->qH,pointer->qI
open Ending renaming returned->qJ
open Obj renaming cells->qK
open Option renaming none->Z,some->U
open Bool renaming true->V,false->I
open Go.Lib renaming hid->D
open List renaming length->J
theorem nal {p:Prop} (h:p:=by
 exact Rn.XV hb (T:=8) (.wr c) hl.1 hl.2.1 Y (O6 Y) rfl λR' hR=>⟨λ_=>q 2 R' AC hR,λhv=>Jk ((BI.wrF hm hc).2 hf) hv⟩):p:=h
theorem nas {p:Prop} (h:p:=by
 rw[Va hb o ho Y];subst hf;rfl):p:=h
theorem nat {p:Prop} (h:p:=by
 exact⟨_,_,by rw[hp];exact hc,this.1,this.2,rfl⟩):p:=h
theorem nay {p:Prop} (h:p:=by
 rw[show m.toNat=(m.toNat-1)+1 by omega,jC,f8];omega):p:=h
theorem naz {p:Prop} (h:p:=by
 rw[show w.toNat-1=((w-1).toNat-1)+1 by omega,jC,Nat.add_comm]):p:=h
variable {x t u i e d v lv rv:Int} {o:List Int} {p c p0 L:Nat} {s b:Bj} {l:List GI} {rd' A5:Nat->Option Int} {a:Ag} {R R':Nat->Int} {f:Nat->Nat->List LI} {α:Type}
def Lh (f:BitVec 64->BitVec 64->BitVec 64) (x y:Int):Int:=wrap64 (f (BitVec.ofInt 64 x) (BitVec.ofInt 64 y)).toNat
def bI:Nat->Int->Int
 |0,a=>a
 |n+1,a=>bI n (wrap64 (a+a))
def YX:Nat->Int->Int
 |0,a=>a
 |n+1,a=>YX n (wrap64 ((wrap64 (a-Lh (· &&& ·) a 1)).tdiv 2))
def xt:ByteArray:=⟨#[109,117,108]⟩
def T0:ByteArray:=⟨#[100,105,118]⟩
def Zu:ByteArray:=⟨#[109,111,100]⟩
def xr:ByteArray:=⟨#[120,111,114]⟩
def BP (op:ByteArray) (a b:Int):Option Int:=
 if op=KO then U (wrap64 (a+b)) else if op=KN then U (wrap64 (a-b)) else if op=xt then U (wrap64 (a*b))
 else if op=T0\/op=Zu then
  if b=0 then Z else if b= -1 then U (if op=T0 then wrap64 (-a) else 0) else U (if op=T0 then wrap64 (a.tdiv b) else a.tmod b)
 else if op=bO then U (Lh (· &&& ·) a b) else if op=nOr then U (Lh (· ||| ·) a b) else if op=xr then U (Lh (· ^^^ ·) a b)
 else if op=Vh then U (bI (Lh (· &&& ·) b 63).toNat a) else if op=Zs then U (YX (Lh (· &&& ·) b 63).toNat a)
 else if op=dN then U (if a<b then 1 else 0) else if op=dO then U (if a=b then 1 else 0) else U 0
theorem ER (h: -9223372036854775808<=x) (k:x<9223372036854775808):wrap64 x=x:=by unfold wrap64;omega
theorem u7 (x:Int) (h:0<=x) (k:x<9223372036854775808):(BitVec.ofInt 64 x).toNat=x.toNat:=by
 rw[BitVec.toNat_ofInt];omega
theorem nS (v:Int) (h:0<=v) (k:v<4000000000000000000):Lh (· &&& ·) (2*v) 1=0:=by
 grind [Lh,u7,ER]
theorem Agh (v:Int) (h:0<=v) (k:v<4000000000000000000):Lh (· &&& ·) (2*v+1) 1=1:=by
 grind [Lh,u7,ER]
theorem AeN (v:Int) (h:0<=v) (k:v<4000000000000000000):Lh (· ||| ·) (2*v) 1=2*v+1:=by
 unfold Lh;rw[BitVec.toNat_or,u7 _ Y Y,u7 _ Y Y,show(1:Int).toNat=1 by rfl];have h2:(2*v).toNat ||| 1=2*v.toNat+1:=by
  rw[show(2*v).toNat=2*v.toNat by omega];have:=Nat.two_pow_add_eq_or_of_lt (i:=1) (b:=1) Do v.toNat;grind
 rw[h2,ER Y Y];omega
theorem AaV (v:Int) (h:0<=v) (k:v<4000000000000000000):YX 1 (2*v)=v:=by
 unfold YX YX;rw[nS v h k,ER (x:=2*v-0) Y Y,Int.tdiv_eq_ediv_of_nonneg Y,show(2*v-0) / 2=v by omega,ER Y Y]
theorem Aez (v:Int) (h:0<=v) (k:v<4000000000000000000):bI 1 v=2*v:=by
 grind [bI,ER]
theorem AdV:(Lh (· &&& ·) 1 63).toNat=1:=by decide+kernel
theorem Of (a b:Int):BP KO a b=U (wrap64 (a+b)):=by unfold BP;rw[Jd rfl]
theorem dS (a b:Int):BP KN a b=U (wrap64 (a-b)):=by unfold BP;rw[In (by decide+kernel),Jd rfl]
theorem Wj (a b:Int):BP bO a b=U (Lh (· &&& ·) a b):=by unfold BP;rw[In (by decide+kernel),In (by decide+kernel),In (by decide+kernel),In (by decide+kernel),Jd rfl]
theorem lV (a b:Int):BP nOr a b=U (Lh (· ||| ·) a b):=by unfold BP;rw[In (by decide+kernel),In (by decide+kernel),In (by decide+kernel),In (by decide+kernel),In (by decide+kernel),Jd rfl]
theorem xY (a:Int):BP Vh a 1=U (bI 1 a):=by unfold BP;rw[In (by decide+kernel),In (by decide+kernel),In (by decide+kernel),In (by decide+kernel),In (by decide+kernel),In (by decide+kernel),In (by decide+kernel),Jd rfl,AdV]
theorem xX (a:Int):BP Zs a 1=U (YX 1 a):=by unfold BP;rw[In (by decide+kernel),In (by decide+kernel),In (by decide+kernel),In (by decide+kernel),In (by decide+kernel),In (by decide+kernel),In (by decide+kernel),In (by decide+kernel),Jd rfl,AdV]
theorem Rb (a b:Int):BP dN a b=U (if a<b then 1 else 0):=by unfold BP;rw[In (by decide+kernel),In (by decide+kernel),In (by decide+kernel),In (by decide+kernel),In (by decide+kernel),In (by decide+kernel),In (by decide+kernel),In (by decide+kernel),In (by decide+kernel),Jd rfl]
theorem Oe (a b:Int):BP dO a b=U (if a=b then 1 else 0):=by unfold BP;rw[In (by decide+kernel),In (by decide+kernel),In (by decide+kernel),In (by decide+kernel),In (by decide+kernel),In (by decide+kernel),In (by decide+kernel),In (by decide+kernel),In (by decide+kernel),In (by decide+kernel),Jd rfl]
def CA (f:Nat->Int) (i:Nat) (v:Int):Nat->Int:=λj=>if j=i then v else f j
theorem BK (f:Nat->Int) (i:Nat) (v:Int):CA f i v i=v:=by simp[CA]
theorem BA (f:Nat->Int) {i j:Nat} (v:Int) (h:j≠i):CA f i v j=f j:=by simp[CA,h]
structure C8 where
 AX:Nat->Int
 Gs:Nat->Int
 wr:Nat->Int
 vl:Nat->Int
 rd:Nat->Int
 lk:Nat->Int
 hd:Nat->Int
 start:Int
 count:Int
 Al:Nat->Int
 Dz:Nat->Int
variable {m:C8}
inductive Lb where
 |AX (i:Nat)
 |Gs (i:Nat)
 |wr (i:Nat)
 |vl (i:Nat)
 |rd (i:Nat)
 |lk (i:Nat)
 |hd (i:Nat)
 |start
 |count
 |Al (i:Nat)
 |Dz (i:Nat)
deriving DecidableEq
def Lb.Sw (o:Nat):Lb:=
 if o<4 then .AX o else if o<8 then .Gs (o-4) else if o<14 then .wr (o-8) else if o<20 then .vl (o-14) else if o<26 then .rd (o-20)
 else if o<32 then .lk (o-26) else if o<38 then .hd (o-32) else if o=38 then .start else if o=39 then .count else if o<48 then .Al (o-40) else .Dz (o-48)
def Lb.ck:Lb->Nat
 |.AX i=>i
 |.Gs i=>4+i
 |.wr i=>8+i
 |.vl i=>14+i
 |.rd i=>20+i
 |.lk i=>26+i
 |.hd i=>32+i
 |.start=>38
 |.count=>39
 |.Al i=>40+i
 |.Dz i=>48+i
theorem Lb.u3 (o:Nat):(Lb.Sw o).ck=o:=by
 unfold Lb.Sw
 repeat' split
 all_goals simp only[Lb.ck]
 all_goals omega
theorem Lb.AfX {o:Nat}:Lb.Sw p=Lb.Sw o<->p=o:=⟨λh=>by rw[<-u3 p,h,u3],AC⟩
def C8.gY (m:C8):Lb->Int
 |.AX i=>m.AX i
 |.Gs i=>m.Gs i
 |.wr i=>m.wr i
 |.vl i=>m.vl i
 |.rd i=>m.rd i
 |.lk i=>m.lk i
 |.hd i=>m.hd i
 |.start=>m.start
 |.count=>m.count
 |.Al i=>m.Al i
 |.Dz i=>m.Dz i
def C8.pz (m:C8) (v:Int):Lb->C8
 |.AX i=>{m with AX:=CA m.AX i v}
 |.Gs i=>{m with Gs:=CA m.Gs i v}
 |.wr i=>{m with wr:=CA m.wr i v}
 |.vl i=>{m with vl:=CA m.vl i v}
 |.rd i=>{m with rd:=CA m.rd i v}
 |.lk i=>{m with lk:=CA m.lk i v}
 |.hd i=>{m with hd:=CA m.hd i v}
 |.start=>{m with start:=v}
 |.count=>{m with count:=v}
 |.Al i=>{m with Al:=CA m.Al i v}
 |.Dz i=>{m with Dz:=CA m.Dz i v}
theorem C8.yN (m:C8) (f g:Lb) (v:Int):(m.pz v f).gY g=if g=f then v else m.gY g:=by
 cases f<;>cases g<;>simp[C8.gY,C8.pz,CA]
def C8.get (m:C8) (o:Nat):Int:=m.gY (.Sw o)
def C8.set (m:C8) (o:Nat) (v:Int):C8:=m.pz v (.Sw o)
theorem C8.AfH (m:C8) (o p:Nat) (v:Int):(m.set o v).get p=if p=o then v else m.get p:=by
 grind [C8.get,C8.set,C8.yN,Lb.AfX]
def Ey (R:Nat->Int) (a:Ag):Int:=if a.Dd then R a.v.toNat else a.v
def Pv (Ac a:Int):Option Nat:=if Ac<=a/\a<Ac+64 then U (a-Ac).toNat else Z
structure XS where
 R:Nat->Int
 m:C8
def cj (Ac:Int):GI->XS->Option (XS×Option Nat)
 |.Zv d a,x=>U (⟨CA x.R d.toNat (Ey x.R a),x.m⟩,Z)
 |.op n d a b,x=>(BP n (Ey x.R a) (Ey x.R b)).map λv=>(⟨CA x.R d.toNat v,x.m⟩,Z)
 |.load d a k,x=>(Pv Ac (wrap64 (Ey x.R a+k))).map λo=>(⟨CA x.R d.toNat (x.m.get o),x.m⟩,Z)
 |.store a k b,x=>(Pv Ac (wrap64 (Ey x.R a+k))).map λo=>(⟨x.R,x.m.set o (Ey x.R b)⟩,Z)
 |.GN t,x=>U (x,U t.toNat)
 |.jz a t,x=>U (x,if Ey x.R a=0 then U t.toNat else Z)
 |_,_=>Z
structure LT where
 pc:Nat
 x:XS
def ps1 (Ac:Int) (Ab:List GI) (s:LT):Option LT:=match Ab[s.pc]? with
 |none=>Z
 |some i=>(cj Ac i s.x).map λr=>⟨r.2.getD (s.pc+1),r.1⟩
inductive Gj (Ac:Int) (Ab:List GI):Nat->LT->LT->Prop
 |nil (s:LT):Gj Ac Ab 0 s s
 |cons {n:Nat} {s t u:LT} (h:ps1 Ac Ab s=U t) (k:Gj Ac Ab n t u):Gj Ac Ab (n+1) s u
theorem Gj.trans {Ac:Int} {Ab:List GI} {n m:Nat} {s t u:LT} (h:Gj Ac Ab n s t) (k:Gj Ac Ab m t u):Gj Ac Ab (n+m) s u:=by
 induction h<;>grind [cons]
def DQ (Ab:List GI) (l:List GI) (p:Nat):Prop:=∀j x,l[j]?=U x->Ab[p+j]?=U x
theorem A9 {Ab:List GI} {i:GI}:DQ Ab (i::l) p<->Ab[p]?=U i/\DQ Ab l (p+1):=by
 constructor
 .intro h;exact⟨h 0 i rfl,λj x hx=>by rw[show p+1+j=p+(j+1) by omega];exact h (j+1) x hx⟩
 .rintro⟨h,k⟩ j x hx;cases j with
  |zero=>grind
  |succ j=>rw[show p+(j+1)=p+1+j by omega];exact k j x hx
theorem Bx {Ab m:List GI}:DQ Ab (l++m) p<->DQ Ab l p/\DQ Ab m (p+J l):=by
 induction l generalizing p<;>grind [DQ,A9]
inductive KK where
 |done
 |rest (s:Bj) (k:KK)
 |loop (b s:Bj) (k:KK)
 |Ao (b s:Bj) (k:KK)
variable {k k0:KK}
def KK.Ah:KK->Nat
 |.done=>0
 |.rest _ k=>k.Ah
 |.loop _ _ k=>k.Ah+1
 |.Ao _ _ k=>k.Ah
def KK.C7:KK->Bool
 |.done=>I
 |.rest _ k=>k.C7
 |.loop _ _ k=>k.C7
 |.Ao .. =>V
def KK.dp:KK->Nat
 |.done=>0
 |.rest _ k=>k.dp+1
 |.loop _ _ k=>k.dp+1
 |.Ao _ _ k=>k.dp+1
def AW:Bj->Nat
 |.nil=>0
 |.set _ _ _ _ r=>5+AW r
 |.get _ _ _ _ r=>60+AW r
 |.put _ _ _ _ r=>12+AW r
 |.out _ r=>6+AW r
 |.atomic b r=>400+AW b+AW r
 |.Ew _ b r=>4+AW b+AW r
 |.loop n b r=>2+n.toNat*(6+AW b)+AW r
def KC:KK->(Nat->Int)->Nat
 |.done,_=>1
 |.rest s k,R=>1+AW s+KC k R
 |.loop b s k,R=>6+((R k.Ah).toNat-1)*(6+AW b)+AW s+KC k R
 |.Ao _ s k,R=>320+AW s+KC k R
def NB:Bj->Nat
 |.set .. =>2
 |.get .. =>9
 |.put .. =>7
 |.out .. =>1
 |.atomic .. =>27
 |_=>0
def ob:Bj->Nat
 |.nil=>0
 |.set _ _ _ _ r=>ob r
 |.get _ _ _ _ r=>ob r
 |.put _ _ _ _ r=>ob r
 |.out _ r=>1+ob r
 |.atomic _ r=>ob r
 |.Ew _ b r=>ob b+ob r
 |.loop n b r=>n.toNat*ob b+ob r
def iT:KK->(Nat->Int)->Nat
 |.done,_=>0
 |.rest s k,R=>ob s+iT k R
 |.loop b s k,R=>((R k.Ah).toNat-1)*ob b+ob s+iT k R
 |.Ao _ _ _,_=>0
def AB:Bj->Prop
 |.nil=>True
 |.set _ _ _ _ r=>AB r
 |.get _ _ _ _ r=>AB r
 |.put _ _ _ _ r=>AB r
 |.out _ r=>AB r
 |.atomic b r=>(AB b/\ob b<=8)/\AB r
 |.Ew _ b r=>AB b/\AB r
 |.loop _ b r=>AB b/\AB r
def NP (cells:Int) (R:Nat->Int):KK->Prop
 |.done=>True
 |.rest s k=>(WF cells s k.dp k.C7/\AB s)/\NP cells R k
 |.loop b s k=>((1<=R k.Ah/\R k.Ah<=4)/\k.dp<3)/\(WF cells b (k.dp+1) k.C7/\AB b)/\(WF cells s k.dp k.C7/\AB s)/\NP cells R k
 |.Ao b s k=>(k.C7=I/\k.dp<3)/\(WF cells b (k.dp+1) V/\AB b/\ob b<=8)/\(WF cells s k.dp I/\AB s)/\NP cells R k
theorem u4 (k:KK):k.Ah<=k.dp:=by
 induction k with
 |done=>exact Jf _
 |rest s k ih=>exact jY ih
 |loop b s k ih=>exact Nat.succ_le_succ ih
 |Ao b s k ih=>exact jY ih
theorem Sf (k:KK) (R R':Nat->Int) (h:∀d,d<k.Ah->R' d=R d):KC k R'=KC k R:=by
 induction k with
 |done=>rfl
 |rest s k ih=>simp only[KC,ih h]
 |loop b s k ih=>simp only[KC,ih (λd hd=>h d (Qk hd)),h k.Ah (JG _)]
 |Ao b s k ih=>simp only[KC,ih h]
theorem gC (k:KK) (R R':Nat->Int) (h:∀d,d<k.Ah->R' d=R d):iT k R'=iT k R:=by
 induction k with
 |done=>rfl
 |rest s k ih=>simp only[iT,ih h]
 |loop b s k ih=>simp only[iT,ih (λd hd=>h d (Qk hd)),h k.Ah (JG _)]
 |Ao b s k ih=>rfl
theorem SA (cells:Int) (k:KK) (R R':Nat->Int) (h:∀d,d<k.Ah->R' d=R d) (w:NP cells R k):NP cells R' k:=by
 induction k with
 |done=>trivial
 |rest s k ih=>exact⟨w.1,ih h w.2⟩
 |loop b s k ih=>exact⟨⟨by rw[h k.Ah (JG _)];exact w.1.1,w.1.2⟩,w.2.1,w.2.2.1,ih (λd hd=>h d (Qk hd)) w.2.2.2⟩
 |Ao b s k ih=>exact⟨w.1,w.2.1,w.2.2.1,ih h w.2.2.2⟩
section
variable (Ac:Int) (n:Nat) (Ab:List GI)
def gI (d p C4:Nat):List LI:=[.i (.load 1 (.n (Ac+(48+d))) 0),.i (.op KN 1 (.r 1) (.n 1)),.i (.store (.n (Ac+(48+d))) 0 (.r 1)),.i (.jz (.r 1) (p+5:Nat)),.i (.GN C4)]
def PK:Nat->KK->Nat->Prop
 |_,.done,p=>Ab[p]?=U .halt
 |ab,.rest s k,p=>DQ Ab (rz ab (Gz Ac n k.C7 k.Ah p s)) p/\PK ab k (p+(Gz Ac n k.C7 k.Ah p s).length)
 |ab,.loop b s k,p=>∃C4,p=C4+(Gz Ac n k.C7 (k.Ah+1) C4 b).length/\DQ Ab (rz ab (Gz Ac n k.C7 (k.Ah+1) C4 b)) C4/\
  DQ Ab (rz ab (gI Ac k.Ah p C4)) p/\DQ Ab (rz ab (Gz Ac n k.C7 k.Ah (p+5) s)) (p+5)/\PK ab k (p+5+(Gz Ac n k.C7 k.Ah (p+5) s).length)
 |ab,.Ao b s k,p=>k.C7=I/\∃z C4 pe:Nat,p=C4+(Ld Ac n C4).length+(Gz Ac n V k.Ah (C4+(Ld Ac n C4).length) b).length/\
  DQ Ab (rz ab (Ld Ac n C4++Gz Ac n V k.Ah (C4+(Ld Ac n C4).length) b++RE Ac n (BV b) p)) C4/\
  ab=p+(RE Ac n (BV b) p).length+1/\pe=ab+(Fv Ac n C4 ab).length/\Ab[ab-1]?=U (.GN pe)/\DQ Ab (rz z (Fv Ac n C4 ab)) ab/\
  DQ Ab (rz z (Gz Ac n I k.Ah pe s)) pe/\PK z k (pe+(Gz Ac n I k.Ah pe s).length)
end
def DW (L:Nat->Int) (a:At):Int:=if a.AX then L a.v.toNat else a.v
def Fo (f:Nat->Option Int) (i:Nat) (v:Int):Nat->Option Int:=λj=>if j=i then U v else f j
structure KS where
 s:Bj
 k:KK
 L:Nat->Int
 R:Nat->Int
 A5:Nat->Option Int
 o:List Int
variable {q r:KS}
def OY (rd:Nat->Option Int) (q:KS):Option KS:=match q.s with
 |.nil=>match q.k with
  |.rest s k=>U {q with s:=s,k:=k}
  |.loop b s k=>if q.R k.Ah-1=0 then U {q with s:=s,k:=k,R:=CA q.R k.Ah (q.R k.Ah-1)} else U {q with s:=b,R:=CA q.R k.Ah (q.R k.Ah-1)}
  |_=>Z
 |.set v op a b r=>(if op.size=0 then U (DW q.L a) else BP op (DW q.L a) (DW q.L b)).map λx=>{q with s:=r,L:=CA q.L v.toNat x}
 |.get v f s a r=>if DW q.L a<0\/s<=DW q.L a then Z else
   ((q.A5 (f+DW q.L a).toNat).or (rd (f+DW q.L a).toNat)).map λx=>{q with s:=r,L:=CA q.L v.toNat x}
 |.put f s i a r=>if DW q.L i<0\/s<=DW q.L i then Z else U {q with s:=r,A5:=Fo q.A5 (f+DW q.L i).toNat (DW q.L a)}
 |.out a r=>if q.k.C7=V then U {q with s:=r,o:=q.o++[DW q.L a]} else Z
 |.Ew a b r=>U (if DW q.L a=0 then {q with s:=r} else {q with s:=b,k:=.rest r q.k})
 |.loop m b r=>U {q with s:=b,k:=.loop b r q.k,R:=CA q.R q.k.Ah m}
 |.atomic .. =>Z
inductive IC (rd:Nat->Option Int):KS->KS->Prop
 |nil (q:KS):IC rd q q
 |cons {q r u:KS} (h:OY rd q=U r) (k:IC rd r u):IC rd q u
theorem IC.trans {rd:Nat->Option Int} {u:KS} (h:IC rd q r) (k:IC rd r u):IC rd q u:=by
 induction h<;>grind [cons]
theorem mi {rd:Nat->Option Int} (hr:∀c x,rd c=U x->rd' c=U x) {q r:KS} (h:OY rd q=U r):OY rd' q=U r:=by
 unfold OY at h⊢;split at h<;>try exact h
 split at h
 .cases h
 .rename_i h2;rw[In h2];simp only[Ji] at h⊢;obtain⟨x,hx,rfl⟩:=h;refine⟨x,?_,rfl⟩;cases hm:q.A5 _<;>grind
theorem IC.mono {rd:Nat->Option Int} (hr:∀c x,rd c=U x->rd' c=U x) {q r:KS} (h:IC rd q r):IC rd' q r:=by
 induction h<;>grind [nil,cons,mi]
def Bs (Ac:Int):Prop:=32<=Ac/\Ac<=160
section
variable {Ac:Int} (hb:Bs Ac)
include hb
theorem Va (o:Nat) (ho:o<64) {a:Int} (h:a=Ac+o):Pv Ac (wrap64 a)=U o:=by
 obtain⟨h1,h2⟩:=hb<;>grind [ER,Pv]
theorem Ale (o:Nat) (f:Lb) (he:e=o) (ho:o<64) (hf:Lb.Sw o=f) (d:Int) (x:XS):cj Ac (.load d (.n (Ac+e)) 0) x=U (⟨CA x.R d.toNat (x.m.gY f),x.m⟩,Z):=by
 show(Pv Ac (wrap64 (Ac+e+0))).map _=_;exact nas
theorem Ald (o:Nat) (f:Lb) (he:e=o) (ho:o<64) (hf:Lb.Sw o=f) (b:Ag) (x:XS):cj Ac (.store (.n (Ac+e)) 0 b) x=U (⟨x.R,x.m.pz (Ey x.R b) f⟩,Z):=by
 show(Pv Ac (wrap64 (Ac+e+0))).map _=_;exact nas
theorem AiN (o:Nat) (f:Lb) (x:XS) (he:x.R i.toNat+e=o) (ho:o<64) (hf:Lb.Sw o=f) (d:Int):cj Ac (.load d (.r i) (Ac+e)) x=U (⟨CA x.R d.toNat (x.m.gY f),x.m⟩,Z):=by
 show(Pv Ac (wrap64 (x.R i.toNat+(Ac+e)))).map _=_;exact nas
theorem AiM (o:Nat) (f:Lb) (x:XS) (he:x.R i.toNat+e=o) (ho:o<64) (hf:Lb.Sw o=f) (b:Ag):cj Ac (.store (.r i) (Ac+e) b) x=U (⟨x.R,x.m.pz (Ey x.R b) f⟩,Z):=by
 show(Pv Ac (wrap64 (x.R i.toNat+(Ac+e)))).map _=_;exact nas
end
theorem O7 (h:c<4):Lb.Sw c=.AX c:=by unfold Lb.Sw;rw[Jd h]
theorem nt (h:c<4):Lb.Sw (4+c)=.Gs c:=by grind [Lb.Sw]
theorem O6 (h:c<6):Lb.Sw (8+c)=.wr c:=by grind [Lb.Sw]
theorem sB (h:c<6):Lb.Sw (14+c)=.vl c:=by grind [Lb.Sw]
theorem im (h:c<6):Lb.Sw (20+c)=.rd c:=by grind [Lb.Sw]
theorem WL (h:c<6):Lb.Sw (26+c)=.lk c:=by grind [Lb.Sw]
theorem Adz (h:c<6):Lb.Sw (32+c)=.hd c:=by grind [Lb.Sw]
theorem ns (h:c<8):Lb.Sw (40+c)=.Al c:=by grind [Lb.Sw]
theorem ik (c:Nat):Lb.Sw (48+c)=.Dz c:=by grind [Lb.Sw]
theorem nj (R:Nat->Int) (k:Int):Ey R (.r k)=R k.toNat:=rfl
theorem D2 (R:Nat->Int) (k v:Int):Ey (CA R k.toNat v) (.r k)=v:=BK _ _ _
theorem Es (R:Nat->Int) (v:Int):Ey R (.n v)=v:=rfl
def Rn (Ac:Int) (Ab:List GI) (k:Nat) (s:LT) (Q:Nat->LT->Prop):Prop:=∃j t,Gj Ac Ab j s t/\Q (k+j) t
section
variable {Ac:Int} {Ab:List GI} {k p:Nat} {R:Nat->Int} {m:C8} {Q:Nat->LT->Prop}
theorem Rn.Bd {s:LT} (h:Q k s):Rn Ac Ab k s Q:=⟨0,s,.nil _,h⟩
theorem Rn.step {x y:XS} {i:GI} {t:Option Nat} (h:Ab[p]?=U i) (he:cj Ac i x=U (y,t)) (r:Rn Ac Ab (k+1) ⟨t.getD (p+1),y⟩ Q):Rn Ac Ab k ⟨p,x⟩ Q:=by
 obtain⟨j,u,hr,hq⟩:=r;exact⟨j+1,u,.cons (by grind [ps1]) hr,by rwa[show k+(j+1)=k+1+j by omega]⟩
theorem Rn.Zv (h:Ab[p]?=U (.Zv d a)) (hv:Ey R a=v) (r:Rn Ac Ab (k+1) ⟨p+1,⟨CA R d.toNat v,m⟩⟩ Q):Rn Ac Ab k ⟨p,⟨R,m⟩⟩ Q:=
 Rn.step (t:=Z) h (by subst hv;rfl) r
theorem Rn.op {o:ByteArray} {b:Ag} {w:Int} (h:Ab[p]?=U (.op o d a b)) (hu:Ey R a=u) (hw:Ey R b=w) (hv:BP o u w=U v) (r:Rn Ac Ab (k+1) ⟨p+1,⟨CA R d.toNat v,m⟩⟩ Q):Rn Ac Ab k ⟨p,⟨R,m⟩⟩ Q:=
 Rn.step (t:=Z) (y:=⟨CA R d.toNat v,m⟩) h (by show(BP o (Ey R a) (Ey R b)).map _=_;rw[hu,hw,hv];rfl) r
theorem Rn.GN (h:Ab[p]?=U (.GN t)) (r:Rn Ac Ab (k+1) ⟨t.toNat,⟨R,m⟩⟩ Q):Rn Ac Ab k ⟨p,⟨R,m⟩⟩ Q:=Rn.step (t:=U t.toNat) h rfl r
theorem Rn.jz (h:Ab[p]?=U (.jz a t)) (hv:Ey R a=0) (r:Rn Ac Ab (k+1) ⟨t.toNat,⟨R,m⟩⟩ Q):Rn Ac Ab k ⟨p,⟨R,m⟩⟩ Q:=
 Rn.step (t:=U t.toNat) h (show U (_,if Ey R a=0 then _ else _)=_ by rw[Jd hv]) r
theorem Rn.jnz (h:Ab[p]?=U (.jz a t)) (hv:Ey R a≠0) (r:Rn Ac Ab (k+1) ⟨p+1,⟨R,m⟩⟩ Q):Rn Ac Ab k ⟨p,⟨R,m⟩⟩ Q:=
 Rn.step (t:=Z) h (show U (_,if Ey R a=0 then _ else _)=_ by rw[In hv]) r
variable (hb:Bs Ac)
include hb
theorem Rn.ld (o:Nat) (f:Lb) (h:Ab[p]?=U (.load d (.n (Ac+e)) 0)) (hf:Lb.Sw o=f) (hv:m.gY f=v) (r:Rn Ac Ab (k+1) ⟨p+1,⟨CA R d.toNat v,m⟩⟩ Q) (he:e=o:=by omega) (ho:o<64:=by omega):Rn Ac Ab k ⟨p,⟨R,m⟩⟩ Q:=
 Rn.step (t:=Z) h (by subst hv;exact Ale hb o f he ho hf d ⟨R,m⟩) r
theorem Rn.st {b:Ag} (o:Nat) (f:Lb) (h:Ab[p]?=U (.store (.n (Ac+e)) 0 b)) (hf:Lb.Sw o=f) (hv:Ey R b=v) (r:Rn Ac Ab (k+1) ⟨p+1,⟨R,m.pz v f⟩⟩ Q) (he:e=o:=by omega) (ho:o<64:=by omega):Rn Ac Ab k ⟨p,⟨R,m⟩⟩ Q:=
 Rn.step (t:=Z) h (by subst hv;exact Ald hb o f he ho hf b ⟨R,m⟩) r
theorem Rn.ldR (o:Nat) (f:Lb) (h:Ab[p]?=U (.load d (.r i) (Ac+e))) (hf:Lb.Sw o=f) (hv:m.gY f=v) (he:R i.toNat+e=o) (ho:o<64) (r:Rn Ac Ab (k+1) ⟨p+1,⟨CA R d.toNat v,m⟩⟩ Q):Rn Ac Ab k ⟨p,⟨R,m⟩⟩ Q:=
 Rn.step (t:=Z) h (by subst hv;exact AiN hb o f ⟨R,m⟩ he ho hf d) r
theorem Rn.stR {b:Ag} (o:Nat) (f:Lb) (h:Ab[p]?=U (.store (.r i) (Ac+e) b)) (hf:Lb.Sw o=f) (hv:Ey R b=v) (he:R i.toNat+e=o) (ho:o<64) (r:Rn Ac Ab (k+1) ⟨p+1,⟨R,m.pz v f⟩⟩ Q):Rn Ac Ab k ⟨p,⟨R,m⟩⟩ Q:=
 Rn.step (t:=Z) h (by subst hv;exact AiM hb o f ⟨R,m⟩ he ho hf b) r
def Rg (l:List Nat) (R R':Nat->Int):Prop:=∀i,i∉l->R' i=R i
omit hb in
theorem NV (a:At) (r:Int):(DJ Ac a r).length<=1:=by unfold DJ;split<;>simp
theorem Rn.val {ab:Nat} {a:At} {r:Int} (h:DQ Ab (rz ab (DJ Ac a r)) p) (ha:DP a) (q:∀R',Rg [r.toNat] R R'->Ey R' (GS.BF a r)=DW m.AX a->Rn Ac Ab (k+(DJ Ac a r).length) ⟨p+(DJ Ac a r).length,⟨R',m⟩⟩ Q):
  Rn Ac Ab k ⟨p,⟨R,m⟩⟩ Q:=by
 unfold DJ at h q;unfold DP at ha;unfold GS.BF DW at q;split at h<;>rename_i hl
 .rw[Jd hl] at ha;simp only[Jd hl] at q;exact Rn.ld hb a.v.toNat (.AX a.v.toNat) (A9.1 h).1 (O7 Y) rfl (q _ (λi hi=>BA _ _ AC) (BK _ _ _))
 .simp only[In hl] at q;exact q R (λ_ _=>rfl) rfl
end
theorem Aat (a:At) (r:Int):(GS.BF a r).Dd=V->(GS.BF a r).v=r:=by unfold GS.BF;split<;>simp[Ag.r,Ag.n]
theorem VE (R:Nat->Int) {d:Int} (v:Int) {a:At} {r:Int} (h:r.toNat≠d.toNat):Ey (CA R d.toNat v) (GS.BF a r)=Ey R (GS.BF a r):=by
 grind [Ey,Aat,BA]
theorem AiP {l:List Nat} (h:Rg l R R') {a:At} {r:Int} (hr:r.toNat∉l):Ey R' (GS.BF a r)=Ey R (GS.BF a r):=by
 grind [Ey,Aat,h _ hr]
theorem Rg.CA {l:List Nat} (h:Rg l R R') {d:Nat} (v:Int) (hd:d∈l):Rg l R (CA R' d v):=λi hi=>by
 rw[BA _ _ AC];exact h i hi
theorem Rg.refl (l:List Nat) (R:Nat->Int):Rg l R R:=λ_ _=>rfl
theorem Rn.cell {Ac:Int} (hb:Bs Ac) {Ab:List GI} {ab:Nat} {f s:Int} {a:At} {k p:Nat} {R:Nat->Int} {m:C8} {Q:Nat->LT->Prop}
  (h:DQ Ab (rz ab (HU Ac p f s a)) p) (ha:DP a) (hf:0<=f/\1<=s/\f+s<=6)
  (q1:DW m.AX a<0\/s<=DW m.AX a->∀j p' R',j<=7->Ab[p']?=U (.CS 2)->Q (k+j) ⟨p',⟨R',m⟩⟩)
  (q2:¬(DW m.AX a<0\/s<=DW m.AX a)->∀j R',j<=7->R' 0=f+DW m.AX a->Rn Ac Ab (k+j) ⟨p+(HU Ac p f s a).length,⟨R',m⟩⟩ Q):
  Rn Ac Ab k ⟨p,⟨R,m⟩⟩ Q:=by
 unfold HU at h q2;unfold rz at h;rw[JH,Bx,JY] at h;obtain⟨h1,h2⟩:=h;rw[GT] at q2;refine Rn.val hb h1 ha λR1 _ e1=>?_
 have hl:=NV (Ac:=Ac) a 0;generalize (DJ Ac a 0).length=n at*;unfold VJ at h2 q2;simp only[Jt,QJ,LI.AN,A9] at h2;obtain⟨c0,c1,c2,c3,c4,c5,c6,c7,_⟩:=h2;generalize DW m.AX a=v at*;refine Rn.op c0 e1 (Es _ _) (Rb _ _) ?_;by_cases hn:v<0
 .rw[Jd hn];refine Rn.jnz c1 (by rw[D2];decide) (Rn.Bd ?_);rw[show k+n+1+1=k+(n+2) by omega];exact q1 AC _ _ _ Y c2
 rw[In hn];refine Rn.jz c1 (D2 _ _ _) ?_;refine Rn.op c3 ((VE _ _ Do).trans e1) (Es _ _) (Rb _ _) ?_;refine Rn.op c4 (D2 _ _ _) (Es _ _) (Oe _ _) ?_;by_cases hs:v<s
 .rw[Jd hs];refine Rn.jz c5 (D2 _ _ _) ?_;refine Rn.op (u:=v) c7 (by rw[VE _ _ Do,VE _ _ Do,VE _ _ Do];exact e1) (Es _ _) ((Of _ _).trans (by rw[ER Y Y])) ?_;rw[show k+n+1+1+1+1+1+1=k+(n+6) by omega];exact q2 Y (n+6) _ Y ((BK _ 0 (v+f)).trans AC)
 .rw[In hs];refine Rn.jnz c5 (by rw[D2];decide) (Rn.Bd ?_);rw[show k+n+1+1+1+1+1=k+(n+5) by omega];exact q1 AC _ _ _ Y c6
section
variable {Ac:Int} {Ab:List GI} {k p:Nat} {R:Nat->Int} {m:C8} {Q:Nat->LT->Prop} (hb:Bs Ac)
include hb
theorem Rn.open {ab:Nat} (h:DQ Ab (rz ab (KL Ac 2)) p) (hr:R 2=lv) (hl:0<=lv/\lv<8000000000000000000) (hs:m.start=rv)
  (q1:(¬∃w,lv=2*w/\0<=w/\w<=rv)->∀j R',j<=8->Rn Ac Ab (k+j) ⟨ab,⟨R',m⟩⟩ Q) (q2:∀v,lv=2*v->0<=v->v<=rv->∀R',Rg [3,4] R R'->Rn Ac Ab (k+8) ⟨p+8,⟨R',m⟩⟩ Q):
  Rn Ac Ab k ⟨p,⟨R,m⟩⟩ Q:=by
 unfold KL at h;unfold rz at h;simp only[Jt,QJ,LI.AN,A9] at h;obtain⟨c0,c1,c2,c3,c4,c5,c6,c7,_⟩:=h;obtain⟨v,hv,hv2⟩:∃v,0<=v/\(lv=2*v\/lv=2*v+1):=⟨lv / 2,Y,Y⟩;rcases hv2 with rfl|rfl
 .refine Rn.op c0 (u:=2*v) hr (Es _ _) ((Wj _ _).trans (by rw[nS v hv Y])) ?_;refine Rn.op c1 (D2 _ _ _) (Es _ _) (Oe _ _) ?_;rw[Jd rfl];refine Rn.jnz c2 (by rw[D2];decide) ?_;refine Rn.op c3 (u:=2*v) hr (Es _ _) ((xX _).trans (by rw[AaV v hv Y])) ?_;refine Rn.ld hb 38 .start c4 rfl hs ?_;refine Rn.op c5 (u:=rv) (w:=v) (D2 _ _ _) rfl (Rb _ _) ?_;refine Rn.op c6 (D2 _ _ _) (Es _ _) (Oe _ _) ?_;by_cases hlt:rv<v
  .rw[Jd hlt];exact Rn.jz c7 (D2 _ _ _) (q1 AC 8 _ AC)
  .rw[In hlt];refine Rn.jnz c7 (by rw[D2];decide) (q2 v rfl hv Y _ ?_);exact(((((((Rg.refl _ _).CA _ (d:=3) EQ).CA _ (d:=3) EQ).CA _ (d:=3) EQ).CA _ (d:=4) EQ).CA _ (d:=3) EQ).CA _ (d:=3) EQ)
 .refine Rn.op c0 (u:=2*v+1) hr (Es _ _) ((Wj _ _).trans (by rw[Agh v hv Y])) ?_;refine Rn.op c1 (D2 _ _ _) (Es _ _) (Oe _ _) ?_;exact Rn.jz c2 (D2 _ _ _) (q1 AC 3 _ Y)
theorem Rn.M0 {ab:Nat} (h:DQ Ab (rz ab (Uk Ac p)) p) (hc:c<6) (hr:R 0=(c:Int)) (q1:m.wr c≠0->∀R',R' 1=m.vl c->Rn Ac Ab (k+4) ⟨p+18,⟨R',m⟩⟩ Q) (q2:m.wr c=0->∀R',R' 0=(c:Int)->Q (k+2) ⟨p+4,⟨R',m⟩⟩):
  Rn Ac Ab k ⟨p,⟨R,m⟩⟩ Q:=by
 unfold Uk at h;unfold rz at h;simp only[JH,Jj,Jt,Jy,LI.AN,A9] at h;obtain⟨c0,c1,c2,c3,_⟩:=h;refine Rn.ldR hb (8+c) (.wr c) c0 (O6 hc) rfl AC Y ?_;by_cases hw:m.wr c=0
 .refine Rn.jz c1 (by rw[D2];exact hw) (Rn.Bd (q2 hw _ ?_))<;>grind [BA]
 .refine Rn.jnz c1 (by rw[D2];exact hw) ?_;refine Rn.ldR hb (14+c) (.vl c) c2 (sB hc) rfl ?_ Y ?_;grind [BA];exact Rn.GN c3 (q1 hw _ (BK _ _ _))
theorem Rn.F2 {ab:Nat} (h:DQ Ab (rz ab (Uk Ac p0)) p0) (hr:R 0=(c:Int)) (h2:R 2=lv) (hl:0<=lv/\lv<8000000000000000000) (hs:m.start=rv)
  (q1:(¬∃w,lv=2*w/\0<=w/\w<=rv)->∀j R',j<=8->Rn Ac Ab (k+j) ⟨ab,⟨R',m⟩⟩ Q) (q2:∀v,lv=2*v->0<=v->v<=rv->∀R',R' 0=(c:Int)->R' 2=lv->Rn Ac Ab (k+8) ⟨p0+13,⟨R',m⟩⟩ Q):
  Rn Ac Ab k ⟨p0+5,⟨R,m⟩⟩ Q:=by
 unfold Uk rz at h;rw[JH,JH,Jj,Bx,Bx] at h;exact Rn.open hb h.2.1 h2 hl hs q1 λv e1 e2 e3 R' hg=>q2 v e1 e2 e3 R' ((hg 0 Do).trans hr) ((hg 2 Do).trans h2)
theorem Rn.Gw {ab:Nat} {lw:Int} (h:DQ Ab (rz ab (Uk Ac p0)) p0) (hc:c<6) (hr:R 0=(c:Int)) (h1:R 1=x) (h2:R 2=lv) (h3:R 3=lw)
  (q1:lw≠lv->∀R',Rn Ac Ab (k+2) ⟨ab,⟨R',m⟩⟩ Q) (q2:lw=lv->∀R',R' 1=x->Rn Ac Ab (k+3) ⟨p0+18,⟨R',{m with rd:=CA m.rd c 1}⟩⟩ Q):
  Rn Ac Ab k ⟨p0+15,⟨R,m⟩⟩ Q:=by
 unfold Uk rz at h;rw[JH,Bx] at h;have h':=h.2;simp only[Jt,LI.AN,A9] at h';obtain⟨_,_,c0,c1,c2,_⟩:=h';refine Rn.op c0 (u:=lw) (w:=lv) h3 h2 (Oe _ _) ?_;by_cases he:lw=lv
 .rw[Jd he];refine Rn.jnz c1 (by rw[D2];decide) ?_;refine Rn.stR hb (20+c) (.rd c) c2 (im hc) (Es _ _) ?_ Y (q2 he _ ((BA _ _ Do).trans h1))<;>grind [CA]
 .rw[In he];exact Rn.jz c1 (D2 _ _ _) AC
end
theorem Ed (hL:∀c p,(f c p).length=L):∀n p,(Fp f n p).length=L*n
 |0,p=>rfl
 |n+1,p=>by rw[Fp,GT,Ed hL n p,hL,j8]
theorem KA (hL:∀c p,(f c p).length=L) {Ab:List GI} {ab:Nat} {n p:Nat} (h:DQ Ab (rz ab (Fp f n p)) p) {c:Nat} (hc:c<n):DQ Ab (rz ab (f c (p+L*c))) (p+L*c):=by
 induction n<;>grind [Fp,CE,Bx,CO,Ed]
theorem Rn.OF {Ac:Int} {Ab:List GI} (hL:∀c p,(f c p).length=L) {ab n p:Nat} (h:DQ Ab (rz ab (Fp f n p)) p) (Z97:Nat->(Nat->Int)->C8->Prop)
  (hs:∀c,c<n->∀pc k R m,DQ Ab (rz ab (f c pc)) pc->Z97 c R m->∀Q,(∀R' m',Z97 (c+1) R' m'->Rn Ac Ab (k+L) ⟨pc+L,⟨R',m'⟩⟩ Q)->Rn Ac Ab k ⟨pc,⟨R,m⟩⟩ Q)
  {k:Nat} {R:Nat->Int} {m:C8} {Q:Nat->LT->Prop} (h0:Z97 0 R m) (q:∀R' m',Z97 n R' m'->Rn Ac Ab (k+L*n) ⟨p+L*n,⟨R',m'⟩⟩ Q):Rn Ac Ab k ⟨p,⟨R,m⟩⟩ Q:=by
 have key:∀i,i<=n->∀R m,Z97 (n-i) R m->Rn Ac Ab (k+L*(n-i)) ⟨p+L*(n-i),⟨R,m⟩⟩ Q:=by
  intro i;induction i<;>grind [KA,Nat.mul_succ,Nat.add_assoc]
 have:=key n AC R m (by rw[Qy];exact h0);rw[Qy] at this;grind
def ny (f g:Nat->Int) (c:Nat):Nat->Int:=λi=>if i<c then g i else f i
theorem AdB (f g:Nat->Int):ny f g 0=f:=by funext i;simp[ny]
theorem aE (f g:Nat->Int) (c:Nat):CA (ny f g c) c (g c)=ny f g (c+1):=by
 funext i;grind [CA,ny]
theorem WN (f g:Nat->Int) {c i:Nat} (h:i<c):ny f g c i=g i:=by simp[ny,h]
section
variable {Ac:Int} {Ab:List GI} {k p:Nat} {R:Nat->Int} {m:C8} {Q:Nat->LT->Prop} (hb:Bs Ac)
include hb
theorem Rn.pD {ab:Nat} (h:DQ Ab (rz ab (Fp (Pf Ac) 4 p)) p) (q:∀R',Rn Ac Ab (k+8) ⟨p+8,⟨R',{m with Gs:=ny m.Gs m.AX 4}⟩⟩ Q):Rn Ac Ab k ⟨p,⟨R,m⟩⟩ Q:=by
 refine Rn.OF (L:=2) (λ_ _=>rfl) h (λc _ m'=>m'={m with Gs:=ny m.Gs m.AX c}) ?_ (by rw[AdB]) AC;rintro c hc pc k R m' hl rfl Q q;unfold Pf rz at hl;simp only[Jt,LI.AN,A9] at hl;obtain⟨c0,c1,_⟩:=hl;refine Rn.ld hb c (.AX c) c0 (O7 hc) rfl ?_;refine Rn.st hb (4+c) (.Gs c) c1 (nt hc) (D2 _ _ _) (q _ _ ?_);show _=_;rw[<-aE];rfl
theorem Rn.AK {ab:Nat} (h:DQ Ab (rz ab (Fp (Ri Ac) 4 p)) p) (q:∀R',Rn Ac Ab (k+8) ⟨p+8,⟨R',{m with AX:=ny m.AX m.Gs 4}⟩⟩ Q):Rn Ac Ab k ⟨p,⟨R,m⟩⟩ Q:=by
 refine Rn.OF (L:=2) (λ_ _=>rfl) h (λc _ m'=>m'={m with AX:=ny m.AX m.Gs c}) ?_ (by rw[AdB]) AC;rintro c hc pc k R m' hl rfl Q q;unfold Ri rz at hl;simp only[Jt,LI.AN,A9] at hl;obtain⟨c0,c1,_⟩:=hl;refine Rn.ld hb (4+c) (.Gs c) c0 (nt hc) rfl ?_;refine Rn.st hb c (.AX c) c1 (O7 hc) (D2 _ _ _) (q _ _ ?_);show _=_;rw[<-aE];rfl
theorem Rn.Tv {ab n:Nat} (hn:n<=6) (h:DQ Ab (rz ab (Fp (Lf Ac) n p)) p) (q:∀R',Rn Ac Ab (k+3*n) ⟨p+3*n,⟨R',{m with wr:=ny m.wr (λ_=>0) n,rd:=ny m.rd (λ_=>0) n,lk:=ny m.lk (λ_=>0) n}⟩⟩ Q):Rn Ac Ab k ⟨p,⟨R,m⟩⟩ Q:=by
 refine Rn.OF (L:=3) (λ_ _=>rfl) h (λc _ m'=>m'={m with wr:=ny m.wr (λ_=>0) c,rd:=ny m.rd (λ_=>0) c,lk:=ny m.lk (λ_=>0) c}) ?_ (by simp only[AdB]) AC;rintro c hc pc k R m' hl rfl Q q;unfold Lf rz at hl;simp only[Jt,LI.AN,A9] at hl;obtain⟨c0,c1,c2,_⟩:=hl;refine Rn.st hb (8+c) (.wr c) c0 (O6 Y) (Es _ _) ?_;refine Rn.st hb (20+c) (.rd c) c1 (im Y) (Es _ _) ?_;refine Rn.st hb (26+c) (.lk c) c2 (WL Y) (Es _ _) (q _ _ ?_);simp only[<-aE];rfl
end
structure Bc where
 K0:Nat->Int
 S0:Int
structure BI (n:Nat) (B:Bc) (m:C8) (A5 rd BE:Nat->Option Int) (o:List Int):Prop where
 Gs:∀i,i<4->m.Gs i=B.K0 i
 start:m.start=B.S0
 wr0:∀c,c<n->A5 c=Z->m.wr c=0
 vP:∀c v,c<n->A5 c=U v->m.wr c=1/\m.vl c=v
 rd0:∀c,c<n->m.rd c=if (rd c).isSome then 1 else 0
 lk0:∀c,c<n->m.lk c=if (BE c).isSome then 1 else 0
 oy:∀c v,c<n->BE c=U v->m.hd c=v
 cnt:m.count=J o
 Al:∀i x,o[i]?=U x->m.Al i=x
structure Mt (n:Nat) (cells:Int) (B:Bc) (rd BE:Nat->Option Int) (q:KS) (m:C8):Prop where
 L:∀i,i<4->m.AX i=q.L i
 R:∀d,d<q.k.Ah->m.Dz d=q.R d
 wf:NP cells q.R (.rest q.s q.k)
 bi:q.k.C7=V->BI n B m q.A5 rd BE q.o/\J q.o+iT (.rest q.s q.k) q.R<=8
def Br (q:KS):Option Int:=match q.s with
 |.set _ op a b _=>if op.size≠0/\BP op (DW q.L a) (DW q.L b)=Z then U 1 else Z
 |.get _ _ s a _=>if DW q.L a<0\/s<=DW q.L a then U 2 else Z
 |.put _ s i _ _=>if DW q.L i<0\/s<=DW q.L i then U 2 else Z
 |_=>Z
def Ajo (i:GI) (R:Nat->Int) (t:Int):Prop:=(i=.CS 2/\t=2)\/(∃o d a b,i=.op o d a b/\BP o (Ey R a) (Ey R b)=Z/\t=1)
section
variable (Ac:Int) (n:Nat) (Ab:List GI)
structure vM (ab:Nat) (b s:Bj) (k:KK) (lt:LT):Prop where
 ld:Ab[lt.pc]?=U (.load 1 (.n 16) 0)
 st:Ab[lt.pc+1]?=U (.store (.n (Ac+38)) 0 (.r 1))
 MP:PK Ac n Ab ab (.rest b (.Ao b s k)) (lt.pc+2)
 cl:∀c,c<n->lt.x.m.wr c=0/\lt.x.m.rd c=0/\lt.x.m.lk c=0
 cnt:lt.x.m.count=0
 kp:∀i,i<4->lt.x.m.Gs i=lt.x.m.AX i
structure Aha (ab c p0:Nat) (v:Int) (r:Bj) (k:KK):Prop where
 get:DQ Ab (rz ab (Uk Ac p0)) p0
 st:Ab[p0+18]?=U (.store (.n (Ac+v)) 0 (.r 1))
 MP:PK Ac n Ab ab (.rest r k) (p0+19)
 lt:c<n
inductive iH (cells:Int) (B:Bc) (rd BE:Nat->Option Int) (ab:Nat):KS->LT->Prop
 |halt {q:KS} {lt:LT} (hs:q.s=.nil) (hk:q.k=.done) (hc:Ab[lt.pc]?=U .halt):iH cells B rd BE ab q lt
 |out {q:KS} {lt:LT} {a:At} {r:Bj} {g:Ag} (hk:q.k.C7=I) (hs:q.s=.out a r) (hc:Ab[lt.pc]?=U (.out g)) (hg:Ey lt.x.R g=DW q.L a) (hp:PK Ac n Ab ab (.rest r q.k) (lt.pc+1)) (hm:Mt n cells B rd BE q lt.x.m):iH cells B rd BE ab q lt
 |CS {q:KS} {lt:LT} {t:Int} {i:GI} (ht:Br q=U t) (hc:Ab[lt.pc]?=U i) (hi:Ajo i lt.x.R t):iH cells B rd BE ab q lt
 |Po {q:KS} {lt:LT} {b r:Bj} {ab':Nat} (hs:q.s=.atomic b r) (hk:q.k.C7=I) (hc:vM Ac n Ab ab' b r q.k lt) (hL:∀i,i<4->lt.x.m.AX i=q.L i) (hR:∀d,d<q.k.Ah->lt.x.m.Dz d=q.R d) (hw:NP cells q.R (.rest q.s q.k)):iH cells B rd BE ab q lt
 |get {q:KS} {lt:LT} {v f s:Int} {a:At} {r:Bj} {c p0:Nat} (hs:q.s=.get v f s a r) (hk:q.k.C7=V) (ha:0<=DW q.L a/\DW q.L a<s) (hc:(c:Int)=f+DW q.L a) (hn:q.A5 c=Z) (hg:Aha Ac n Ab ab c p0 v r q.k) (Tm:lt.pc=p0+4) (h0:lt.x.R 0=c) (hm:Mt n cells B rd BE q lt.x.m):iH cells B rd BE ab q lt
 |DU {q:KS} {lt:LT} {b s:Bj} {k:KK} (hs:q.s=.nil) (hk:q.k=.Ao b s k) (hp:PK Ac n Ab ab (.Ao b s k) lt.pc) (hm:Mt n cells B rd BE q lt.x.m):iH cells B rd BE ab q lt
end
theorem Ur {L L':Nat->Int} {a:At} (ha:DP a) (h:∀i,i<4->L i=L' i):DW L a=DW L' a:=by
 grind [DP,DW]
theorem BI.AX {n:Nat} {B:Bc} {rd BE:Nat->Option Int} (h:BI n B m A5 rd BE o) (l:Nat->Int) (r:Nat->Int):BI n B {m with AX:=l,Dz:=r} A5 rd BE o:=
 ⟨h.Gs,h.start,h.wr0,h.vP,h.rd0,h.lk0,h.oy,h.cnt,h.Al⟩
theorem BI.put {n:Nat} {B:Bc} {rd BE:Nat->Option Int} (h:BI n B m A5 rd BE o) (c:Nat) (v:Int):BI n B {m with vl:=CA m.vl c v,wr:=CA m.wr c 1} (Fo A5 c v) rd BE o where
 Gs:=h.Gs
 start:=h.start
 wr0:=λd hd hm=>by
  grind [Fo,BA,BI]
 vP:=λd w hd hm=>by
  grind [Fo,BK,BA,BI]
 rd0:=h.rd0
 lk0:=h.lk0
 oy:=h.oy
 cnt:=h.cnt
 Al:=h.Al
theorem BI.out {n:Nat} {B:Bc} {m:C8} {A5 rd BE:Nat->Option Int} {o:List Int} (h:BI n B m A5 rd BE o) (v:Int):BI n B {m with Al:=CA m.Al (J o) v,count:=J o+1} A5 rd BE (o++[v]) where
 Gs:=h.Gs
 start:=h.start
 wr0:=h.wr0
 vP:=h.vP
 rd0:=h.rd0
 lk0:=h.lk0
 oy:=h.oy
 cnt:=EQ
 Al:=λi x hx=>by
  grind [BK,BA,BI]
theorem BI.Tv {n:Nat} (h:∀c,c<n->m.wr c=0/\m.rd c=0/\m.lk c=0) (hc:m.count=0):BI n ⟨m.Gs,m.start⟩ m (λ_=>Z) (λ_=>Z) (λ_=>Z) [] where
 Gs:=AC
 start:=rfl
 wr0:=AC
 vP:=AC
 rd0:=AC
 lk0:=AC
 oy:=AC
 cnt:=hc
 Al:=AC
section
variable {Ac:Int} {n:Nat} {Ab:List GI} {cells:Int} {B:Bc} {rd BE:Nat->Option Int} {ab:Nat}
theorem Rn.C4 (hb:Bs Ac) (hn:n<=6) {b s:Bj} {k:KK} {C4 j:Nat} {R:Nat->Int} {m:C8} {Q:Nat->LT->Prop} (h:DQ Ab (rz ab (Ld Ac n C4)) C4) (hp:PK Ac n Ab ab (.rest b (.Ao b s k)) (C4+(Ld Ac n C4).length)) (hk:∀i,i<4->m.Gs i=m.AX i)
  (q:∀lt',vM Ac n Ab ab b s k lt'->lt'.x.m.AX=m.AX->lt'.x.m.Dz=m.Dz->Q (j+3*n+1) lt'):Rn Ac Ab j ⟨C4,⟨R,m⟩⟩ Q:=by
 have hl:(Ld Ac n C4).length=3*n+3:=by grind [Ld,Ed,Lf]
 rw[hl] at hp;unfold Ld at h;rw[CE,Bx,CO,Ed (f:=Lf Ac) (L:=3) (λ_ _=>rfl)] at h;obtain⟨h1,h2⟩:=h;unfold rz at h2;simp only[Jt,LI.AN,A9] at h2;obtain⟨c0,c1,c2,_⟩:=h2;refine Rn.Tv hb hn h1 λR'=>?_
 refine Rn.st hb 39 .count c0 rfl (Es _ _) (Rn.Bd (q _ ⟨c1,c2,?_,?_,rfl,hk⟩ rfl rfl));grind
 .exact λc hc=>⟨WN m.wr (λ_=>0) hc,WN m.rd (λ_=>0) hc,WN m.lk (λ_=>0) hc⟩
end
section
section
variable (Ac:Int) (n:Nat) (Ab:List GI) (cells:Int) (B:Bc) (rd BE:Nat->Option Int) (ab:Nat)
def C9 (q:KS):Nat:=KC (.rest q.s q.k) q.R
def N1 (q:KS) (j:Nat) (lt:LT):Prop:=(∃q',OY (λ_=>Z) q=U q'/\PK Ac n Ab ab (.rest q'.s q'.k) lt.pc/\Mt n cells B rd BE q' lt.x.m/\j+1+C9 q'<=C9 q)\/(j<=NB q.s/\iH Ac n Ab cells B rd BE ab q lt)
end
variable {Ac:Int} {n:Nat} {Ab:List GI} {cells:Int} {B:Bc} {rd BE:Nat->Option Int} {ab:Nat}
theorem Mt.AeB {v:Nat} {x:Int} {r:Bj} (h:Mt n cells B rd BE q m) (hw:WF cells r q.k.dp q.k.C7/\AB r) (ho:ob r<=ob q.s):Mt n cells B rd BE {q with s:=r,L:=CA q.L v x} {m with AX:=CA m.AX v x} where
 L:=λi hi=>by
  grind [BK,BA,Mt]
 R:=h.R
 wf:=⟨hw,h.wf.2⟩
 bi:=λhb=>⟨(h.bi hb).1.AX (CA m.AX v x) m.Dz,by have:=(h.bi hb).2;grind [iT]⟩
theorem AhO (hb:Bs Ac) {q:KS} {lt:LT} {v:Int} {op:ByteArray} {a b:At} {r:Bj} (hq:q.s=.set v op a b r) (hp:PK Ac n Ab ab (.rest q.s q.k) lt.pc) (hm:Mt n cells B rd BE q lt.x.m):Rn Ac Ab 0 lt (N1 Ac n Ab cells B rd BE ab q):=by
 obtain⟨⟨⟨Fi,No,Ln,bR,bq⟩,hA⟩,hk⟩:=(by have:=hm.wf;rw[hq] at this;exact this);obtain⟨hl,Fe⟩:=(by rw[hq] at hp;exact hp);rw[Gz,CE,Bx,CO] at hl;rw[Gz,GT,<-Js] at Fe;have XH:PK Ac n Ab ab (.rest r q.k) (lt.pc+(bK Ac v op a b).length):=⟨hl.2,Fe⟩;have hs:=hl.1;obtain⟨p,R,m⟩:=lt;have ea:DW m.AX a=DW q.L a:=Ur Ln hm.L;have eb:DW m.AX b=DW q.L b:=Ur bR hm.L;have BM:∀x,C9 {q with s:=r,L:=CA q.L v.toNat x}+5=C9 q:=λx=>by
  grind [C9,KC,AW]
 have hv:=NV (Ac:=Ac) a 1;have hv2:=NV (Ac:=Ac) b 2;by_cases ho:op.size=0
 .unfold bK at hs XH;rw[Jd ho] at hs XH;rw[CE,Bx,CO] at hs;refine Rn.val hb hs.1 Ln λR1 _ e1=>?_
  refine Rn.st hb v.toNat (.AX v.toNat) (A9.1 hs.2).1 (O7 Y) e1 (Rn.Bd (.inl ⟨{q with s:=r,L:=CA q.L v.toNat (DW q.L a)},?_,?_,?_,?_⟩));grind [OY];grind
  .rw[ea];exact hm.AeB ⟨bq,hA⟩ (by rw[hq];exact Jf _)
  grind
 .unfold bK at hs XH;rw[In ho] at hs XH;rw[CE,CE,Bx,Bx,GT,CO,CO] at hs;refine Rn.val hb hs.1.1 Ln λR1 _ e1=>?_
  refine Rn.val hb hs.1.2 bR λR2 g2 e2=>?_
  have e1':Ey R2 (GS.BF a 1)=DW m.AX a:=(AiP g2 Do).trans e1;obtain⟨c0,c1,_⟩:Ab[p+(DJ Ac a 1).length+(DJ Ac b 2).length]?=U (.op op 1 (GS.BF a 1) (GS.BF b 2))/\Ab[p+(DJ Ac a 1).length+(DJ Ac b 2).length+1]?=U (.store (.n (Ac+v)) 0 (.r 1))/\True:=by
   have:=hs.2;grind [rz,LI.AN,A9]
  cases hx:BP op (DW q.L a) (DW q.L b) with
  |none=>exact Rn.Bd (.inr ⟨by rw[hq];grind [NB],.CS (t:=1) (by unfold Br;rw[hq];simp only[hx];rw[Jd AC]) c0 (.inr ⟨_,_,_,_,rfl,by rw[e1',e2,ea,eb];exact hx,rfl⟩)⟩)
  |some x=>
   refine Rn.op c0 e1' e2 (by rw[ea,eb];exact hx) ?_;refine Rn.st hb v.toNat (.AX v.toNat) c1 (O7 Y) (D2 _ _ _) (Rn.Bd (.inl ⟨{q with s:=r,L:=CA q.L v.toNat x},?_,?_,hm.AeB ⟨bq,hA⟩ (by rw[hq];exact Jf _),?_⟩))<;>grind [OY]
theorem nF {f s:Int} {cells:Int} (hf:0<=f/\1<=s/\f+s<=cells) (hi:¬(i<0\/s<=i)) (hn:n=cells.toNat):∃c:Nat,(c:Int)=f+i/\c=(f+i).toNat/\c<n:=⟨(f+i).toNat,Y,rfl,Y⟩
theorem AhT (hb:Bs Ac) (hn:n=cells.toNat) (h6:cells<=6) {q:KS} {lt:LT} {v f s:Int} {a:At} {r:Bj} (hq:q.s=.get v f s a r) (hp:PK Ac n Ab ab (.rest q.s q.k) lt.pc) (hm:Mt n cells B rd BE q lt.x.m):Rn Ac Ab 0 lt (N1 Ac n Ab cells B rd BE ab q):=by
 obtain⟨⟨⟨Fi,No,Ln,bR,bq⟩,hA⟩,hk⟩:=(by have:=hm.wf;rw[hq] at this;exact this);obtain⟨hl,Fe⟩:=(by rw[hq] at hp;exact hp);rw[Gz] at hl Fe;simp only[CE,Bx,CO,GT] at hl Fe;obtain⟨⟨⟨h1,h2⟩,h3⟩,h4⟩:=hl;obtain⟨p,R,m⟩:=lt;have ea:DW m.AX a=DW q.L a:=Ur Ln hm.L;refine Rn.cell hb h1 Ln Y (λho j p' R' hj hc=> .inr ⟨by rw[hq];grind [NB],.CS (t:=2) ?_ hc (.inl AC)⟩) λho j R' hj hr=>?_
 grind [Br];obtain⟨c,hc,hcn,Cs⟩:=nF No ho hn;have hg:(Uk Ac (p+(HU Ac p f s a).length)).length=18:=rfl;rw[hg] at h3 h4 Fe;have Ay:=(A9.1 h3).1;have XH:PK Ac n Ab ab (.rest r q.k) (p+(HU Ac p f s a).length+19):=⟨h4,by rw[<-Js] at Fe;exact Fe⟩;have MY:=hm.bi bR;refine Rn.M0 hb (c:=c) h2 Y AC (λyu R2 h1=>?_) λyu R2 h0=> .inr ⟨by rw[hq];grind [NB],?_⟩
 .cases uD:q.A5 c with
  |none=>grind [MY.1.wr0 c Cs uD]
  |some x=>
   have hx:=(MY.1.vP c x Cs uD).2;refine Rn.st hb v.toNat (.AX v.toNat) (v:=x) Ay (O7 Y) (by rw[nj];exact h1.trans hx) (Rn.Bd (.inl ⟨{q with s:=r,L:=CA q.L v.toNat x},?_,XH,hm.AeB ⟨bq,hA⟩ (by rw[hq];exact Jf _),?_⟩))<;>grind [OY,C9,KC,AW]
 .have uD:q.A5 c=Z:=by
   cases uD:q.A5 c with
   |none=>rfl
   |some x=>have:=(MY.1.vP c x Cs uD).1;rw[yu] at this;cases this
  exact .get (c:=c) hq bR (by rw[<-ea];omega) (by rw[<-ea];exact hc) uD ⟨h2,Ay,XH,Cs⟩ rfl h0 hm
theorem AhP (hb:Bs Ac) (hn:n=cells.toNat) (h6:cells<=6) {q:KS} {lt:LT} {f s:Int} {i a:At} {r:Bj} (hq:q.s=.put f s i a r) (hp:PK Ac n Ab ab (.rest q.s q.k) lt.pc) (hm:Mt n cells B rd BE q lt.x.m):Rn Ac Ab 0 lt (N1 Ac n Ab cells B rd BE ab q):=by
 obtain⟨⟨⟨No,Ln,hwa,bR,bq⟩,hA⟩,hk⟩:=(by have:=hm.wf;rw[hq] at this;exact this);obtain⟨hl,Fe⟩:=(by rw[hq] at hp;exact hp);rw[Gz] at hl Fe;simp only[CE,Bx,CO,GT] at hl Fe;obtain⟨⟨⟨h1,h2⟩,h3⟩,h4⟩:=hl;obtain⟨p,R,m⟩:=lt;simp only[<-Js] at h4 Fe;have ei:DW m.AX i=DW q.L i:=Ur Ln hm.L;have ea:DW m.AX a=DW q.L a:=Ur hwa hm.L;refine Rn.cell hb h1 Ln Y (λho j p' R' hj hc=> .inr ⟨by rw[hq];grind [NB],.CS (t:=2) ?_ hc (.inl AC)⟩) λho j R' hj hr=>?_
 grind [Br];obtain⟨c,hc,hcn,Cs⟩:=nF No ho hn;have hv:=NV (Ac:=Ac) a 1;refine Rn.val hb h2 hwa λR1 g1 e1=>?_
 have h0:R1 0=c:=(g1 0 Do).trans AC;unfold rz at h3;simp only[Jt,LI.AN,A9,<-Js] at h3;obtain⟨c0,c1,_⟩:=h3;refine Rn.stR hb (14+c) (.vl c) c0 (sB Y) e1 AC Y ?_;refine Rn.stR hb (8+c) (.wr c) c1 (O6 Y) (Es _ _) AC Y (Rn.Bd (.inl ⟨{q with s:=r,A5:=Fo q.A5 c (DW q.L a)},?_,⟨h4,?_⟩,⟨hm.L,hm.R,⟨⟨bq,hA⟩,hk⟩,λhb=>⟨?_,?_⟩⟩,?_⟩));grind [OY];grind
 .rw[ea];exact(hm.bi bR).1.put c _
 grind [iT,ob,Mt];grind [C9,KC,AW]
theorem AhQ (hb:Bs Ac) {q:KS} {lt:LT} {a:At} {r:Bj} (hq:q.s=.out a r) (hp:PK Ac n Ab ab (.rest q.s q.k) lt.pc) (hm:Mt n cells B rd BE q lt.x.m):Rn Ac Ab 0 lt (N1 Ac n Ab cells B rd BE ab q):=by
 obtain⟨⟨⟨hwa,bq⟩,hA⟩,hk⟩:=(by have:=hm.wf;rw[hq] at this;exact this);obtain⟨hl,Fe⟩:=(by rw[hq] at hp;exact hp);rw[Gz] at hl Fe;unfold lE at hl Fe;simp only[CE,Bx,CO,GT] at hl Fe;obtain⟨⟨h1,h2⟩,h4⟩:=hl;obtain⟨p,R,m⟩:=lt;simp only[<-Js] at h4 Fe;have ea:DW m.AX a=DW q.L a:=Ur hwa hm.L;have hv:=NV (Ac:=Ac) a 1;refine Rn.val hb h1 hwa λR1 g1 e1=>?_
 by_cases hi:q.k.C7=V
 .rw[Jd hi] at h2 h4 Fe;have MY:=hm.bi hi;have uC:J q.o+1+iT (.rest r q.k) q.R<=8:=by have:=MY.2;rw[hq] at this;grind [iT,ob]
  unfold rz at h2;simp only[Jt,LI.AN,A9,<-Js] at h2;obtain⟨c0,c1,c2,c3,_⟩:=h2;refine Rn.ld hb 39 .count (v:=J q.o) c0 rfl MY.1.cnt ?_;refine Rn.stR hb (40+J q.o) (.Al (J q.o)) c1 (ns Y) ((VE R1 _ Do).trans e1) ?_ Y ?_;grind [BK];refine Rn.op c2 (u:=J q.o) (D2 _ _ _) (Es _ _) ((Of _ _).trans (by rw[ER Y Y])) ?_;refine Rn.st hb 39 .count c3 rfl (D2 _ _ _) (Rn.Bd (.inl ⟨{q with s:=r,o:=q.o++[DW q.L a]},?_,⟨h4,Fe⟩,⟨hm.L,hm.R,⟨⟨bq,hA⟩,hk⟩,λ_=>⟨?_,?_⟩⟩,?_⟩));grind [OY]
  .rw[ea];exact MY.1.out _
  grind;grind [C9,KC,AW]
 .have eC:q.k.C7=I:=AC
  rw[In hi] at h2 h4 Fe;exact Rn.Bd (.inr ⟨by rw[hq];grind [NB],.out eC hq (A9.1 h2).1 AC ⟨h4,Fe⟩ hm⟩)
theorem AhS (hb:Bs Ac) {q:KS} {lt:LT} {a:At} {b r:Bj} (hq:q.s=.Ew a b r) (hp:PK Ac n Ab ab (.rest q.s q.k) lt.pc) (hm:Mt n cells B rd BE q lt.x.m):Rn Ac Ab 0 lt (N1 Ac n Ab cells B rd BE ab q):=by
 obtain⟨⟨⟨hwa,hd,Vv,bq⟩,hA1,hA2⟩,hk⟩:=(by have:=hm.wf;rw[hq] at this;exact this);obtain⟨hl,Fe⟩:=(by rw[hq] at hp;exact hp);rw[Gz] at hl Fe;simp only[CE,Bx,CO,GT,Jg] at hl Fe;obtain⟨⟨h1,h2⟩,h4⟩:=hl;rw[rz,Jt] at h2;obtain⟨h2,h3⟩:=A9.1 h2;obtain⟨p,R,m⟩:=lt;have ea:DW m.AX a=DW q.L a:=Ur hwa hm.L;have hv:=NV (Ac:=Ac) a 1;refine Rn.val hb h1 hwa λR1 g1 e1=>?_
 generalize hlen:(Gz Ac n q.k.C7 q.k.Ah (p+(DJ Ac a 1).length+1) b).length=lb at*;have e2:p+((DJ Ac a 1).length+(lb+1))=p+(DJ Ac a 1).length+1+lb:=Y
 rw[e2] at h4;have iX:PK Ac n Ab ab q.k (p+(DJ Ac a 1).length+1+lb+(Gz Ac n q.k.C7 q.k.Ah (p+(DJ Ac a 1).length+1+lb) r).length):=by
  rw[<-e2,Js];exact Fe
 by_cases h0:DW q.L a=0
 .refine Rn.jz h2 (by rw[e1,ea];exact h0) (Rn.Bd (.inl ⟨{q with s:=r},?_,⟨h4,iX⟩,⟨hm.L,hm.R,⟨⟨bq,hA2⟩,hk⟩,λhb=>⟨(hm.bi hb).1,?_⟩⟩,?_⟩))<;>grind [OY,iT,ob,C9,KC,AW,Mt]
 .refine Rn.jnz h2 (by rw[e1,ea];exact h0) (Rn.Bd (.inl ⟨{q with s:=b,k:=.rest r q.k},?_,⟨h3,?_⟩,⟨hm.L,hm.R,⟨⟨Vv,hA1⟩,AC,hk⟩,λhb=>⟨(hm.bi hb).1,?_⟩⟩,?_⟩));grind [OY]
  .show PK Ac n Ab ab (.rest r q.k) (_+(Gz Ac n q.k.C7 q.k.Ah (p+(DJ Ac a 1).length+1) b).length);rw[hlen];exact⟨h4,iX⟩
  grind [hm.bi hb,iT,ob];grind [C9,KC,AW]
end
section
variable {Ac:Int} {n:Nat} {Ab:List GI} {cells:Int} {B:Bc} {rd BE:Nat->Option Int} {ab:Nat}
theorem AeW (hb:Bs Ac) {q:KS} {lt:LT} {m:Int} {b r:Bj} (hq:q.s=.loop m b r) (hp:PK Ac n Ab ab (.rest q.s q.k) lt.pc) (hm:Mt n cells B rd BE q lt.x.m):Rn Ac Ab 0 lt (N1 Ac n Ab cells B rd BE ab q):=by
 obtain⟨⟨⟨hmn,hd,Vv,bq⟩,hA1,hA2⟩,hk⟩:=(by have:=hm.wf;rw[hq] at this;exact this);obtain⟨hl,Fe⟩:=(by rw[hq] at hp;exact hp);have hdp:=u4 q.k;rw[Gz] at hl Fe;simp only[CE,Bx,CO,GT,Jg,Jx] at hl Fe;obtain⟨⟨h1,h2⟩,h4⟩:=hl;rw[rz,Jt] at h1;obtain⟨h1,h3⟩:=A9.1 h1;obtain⟨p,R,mm⟩:=lt;have e1:∀lb,p+(lb+1)=p+1+lb:=Y
 have e2:∀lb,p+(lb+1+(0+1+1+1+1+1))=p+1+lb+5:=Y
 rw[e1 (Gz Ac n q.k.C7 (q.k.Ah+1) (p+1) b).length] at h2;rw[e2] at h4;rw[<-Js,e2] at Fe;have hR:∀d,d<q.k.Ah->CA q.R q.k.Ah m d=q.R d:=λd hd=>BA _ _ AC
 refine Rn.st hb (48+q.k.Ah) (.Dz q.k.Ah) h1 (ik _) (Es _ _) (Rn.Bd (.inl ⟨{q with s:=b,k:=.loop b r q.k,R:=CA q.R q.k.Ah m},?_,⟨h3,p+1,rfl,h3,h2,h4,Fe⟩,⟨hm.L,?_,⟨⟨Vv,hA1⟩,⟨⟨?_,?_⟩,hd⟩,AC,AC,SA _ _ _ _ hR hk⟩,λhb=>⟨((hm.bi hb).1.AX _ _),?_⟩⟩,?_⟩));grind [OY]
 .intro d hd;show CA _ _ _ _=CA _ _ _ _;by_cases he:d=q.k.Ah;grind [BK]
  .rw[BA _ _ he,BA _ _ he];exact hm.R d (by have:d<q.k.Ah+1:=hd;omega)
 grind [BK];grind [BK]
 .have:=(hm.bi hb).2;rw[hq] at this;simp only[iT,ob] at this⊢;rw[gC _ _ _ hR,BK];have e:m.toNat*ob b=ob b+(m.toNat-1)*ob b:=by
   exact nay
  omega
 .unfold C9;rw[hq];simp only[KC,AW];rw[Sf _ _ _ hR,BK];have e:m.toNat*(6+AW b)=(6+AW b)+(m.toNat-1)*(6+AW b):=by
   exact nay
  omega
theorem xZ {d C4:Nat} (h:DQ Ab (rz ab (gI Ac d p C4)) p):Ab[p]?=U (.load 1 (.n (Ac+(48+d))) 0)/\Ab[p+1]?=U (.op KN 1 (.r 1) (.n 1))/\Ab[p+2]?=U (.store (.n (Ac+(48+d))) 0 (.r 1))/\Ab[p+3]?=U (.jz (.r 1) (p+5:Nat))/\Ab[p+4]?=U (.GN C4):=by
 grind [gI,rz,LI.AN,A9]
theorem AhR (hb:Bs Ac) {q:KS} {lt:LT} (hq:q.s=.nil) (hp:PK Ac n Ab ab (.rest q.s q.k) lt.pc) (hm:Mt n cells B rd BE q lt.x.m):Rn Ac Ab 0 lt (N1 Ac n Ab cells B rd BE ab q):=by
 obtain⟨_,hk⟩:=hm.wf;obtain⟨_,Fe⟩:=(by rw[hq] at hp;exact hp);rw[Gz] at Fe;have iX:PK Ac n Ab ab q.k lt.pc:=Fe;clear Fe;cases SO:q.k with
 |done=>rw[SO] at iX;exact Rn.Bd (.inr ⟨Jo _,.halt hq SO iX⟩)
 |Ao b s k=>rw[SO] at iX;exact Rn.Bd (.inr ⟨Jo _,.DU hq SO iX hm⟩)
 |rest s k=>
  rw[SO] at iX hk;refine Rn.Bd (.inl ⟨{q with s:=s,k:=k},?_,iX,⟨hm.L,λd hd=>hm.R d (by rw[SO];exact hd),hk,λhb=>?_⟩,?_⟩)
  .unfold OY;rw[hq,SO]
  .have:=hm.bi (by rw[SO];exact hb);rw[hq,SO] at this;simpa only[iT,ob,JU] using this
  .unfold C9;rw[hq,SO];simp only[KC,AW];omega
 |loop b s k=>
  rw[SO] at iX hk;obtain⟨⟨hr,hd⟩,Vv,hws,hk⟩:=hk;obtain⟨C4,hpt,h1,h2,h3,h4⟩:=iX;have hdp:=u4 k;have hrR:=hm.R k.Ah (by rw[SO];exact JG _);obtain⟨c0,c1,c2,c3,c4⟩:=xZ h2;obtain⟨p,R,m⟩:=lt;generalize hrn:q.R k.Ah=w at*;have hR:∀d,d<k.Ah->CA q.R k.Ah (w-1) d=q.R d:=λd hd=>BA _ _ (Qj hd)
  have hMR:∀d,d<k.Ah+1->CA m.Dz k.Ah (w-1) d=CA q.R k.Ah (w-1) d:=λd hd=>by
   by_cases he:d=k.Ah
   .rw[he,BK,BK]
   .rw[BA _ _ he,BA _ _ he];exact hm.R d (by rw[SO];exact hd)
  refine Rn.ld hb (48+k.Ah) (.Dz k.Ah) (v:=w) c0 (ik _) hrR ?_;refine Rn.op c1 (u:=w) (D2 _ _ _) (Es _ _) ((dS _ _).trans (by rw[ER Y Y])) ?_;refine Rn.st hb (48+k.Ah) (.Dz k.Ah) c2 (ik _) (D2 _ _ _) ?_;by_cases h0:w-1=0
  .refine Rn.jz c3 (by rw[D2];exact h0) (Rn.Bd (.inl ⟨{q with s:=s,k:=k,R:=CA q.R k.Ah (w-1)},?_,⟨h3,h4⟩,⟨hm.L,λd hd=>hMR d (by have:d<k.Ah:=hd;omega),⟨hws,SA _ _ _ _ hR hk⟩,λhb=>?_⟩,?_⟩))
   .unfold OY;rw[hq,SO];show(if q.R k.Ah-1=0 then _ else _)=_;rw[hrn,Jd h0]
   .have:=hm.bi (by rw[SO];exact hb);rw[hq,SO] at this;refine⟨this.1.AX _ _,?_⟩;have h:=this.2;simp only[iT,ob,hrn] at h⊢;rw[gC _ _ _ hR];omega
   .unfold C9;rw[hq,SO];simp only[KC,AW,hrn];rw[Sf _ _ _ hR];omega
  .refine Rn.jnz c3 (by rw[D2];exact h0) (Rn.GN c4 (Rn.Bd (.inl ⟨{q with s:=b,R:=CA q.R k.Ah (w-1)},?_,?_,⟨hm.L,?_,?_,λhb=>?_⟩,?_⟩)))
   .unfold OY;rw[hq,SO];show(if q.R k.Ah-1=0 then _ else _)=_;rw[hrn,In h0]
   .show PK Ac n Ab ab (.rest b q.k) C4;rw[SO];have AmA:p=C4+_:=hpt;subst AmA;exact⟨h1,C4,rfl,h1,h2,h3,h4⟩
   .show∀d,d<q.k.Ah->_;rw[SO];exact hMR
   .show NP cells (CA q.R k.Ah (w-1)) (.rest b q.k);rw[SO];exact⟨Vv,⟨⟨by rw[BK];omega,by rw[BK];omega⟩,hd⟩,Vv,hws,SA _ _ _ _ hR hk⟩
   .have:=hm.bi hb;rw[hq,SO] at this;refine⟨this.1.AX _ _,?_⟩;have h:=this.2;show _+iT (.rest b q.k) _<=8;rw[SO];simp only[iT,ob,hrn,BK] at h⊢;rw[gC _ _ _ hR];have e:(w.toNat-1)*ob b=ob b+((w-1).toNat-1)*ob b:=by
     exact naz
    omega
   .show _+KC (.rest b q.k) _<=_;unfold C9;rw[hq,SO];simp only[KC,AW,hrn,BK];rw[Sf _ _ _ hR];have e:(w.toNat-1)*(6+AW b)=(6+AW b)+((w-1).toNat-1)*(6+AW b):=by
     exact naz
    omega
theorem Aj1 (x:Int) (l:List GI):rz x (l.map LI.i)=l:=by
 unfold rz;rw[jS];exact List.map_id'' (λ_=>rfl) l
theorem xv (hb:Bs Ac) (hn:n<=6) {q:KS} {lt:LT} {b r:Bj} (hq:q.s=.atomic b r) (hp:PK Ac n Ab ab (.rest q.s q.k) lt.pc) (hm:Mt n cells B rd BE q lt.x.m):Rn Ac Ab 0 lt (N1 Ac n Ab cells B rd BE ab q):=by
 obtain⟨⟨⟨hi,hd,Vv,bq⟩,hA1,hA2⟩,hk⟩:=(by have:=hm.wf;rw[hq] at this;exact this);obtain⟨hl,Fe⟩:=(by rw[hq] at hp;exact hp);rw[Gz] at hl Fe;obtain⟨p,R,m⟩:=lt;have e8:(Fp (Pf Ac) 4 p).length=8:=Ed (L:=2) (λ_ _=>rfl) 4 p;simp only[CE,Bx,CO,GT,Jg,JY,e8] at hl Fe;rw[hi] at hl Fe;generalize hT:Ld Ac n (p+8)=T at hl Fe;generalize hC:Gz Ac n V q.k.Ah (p+8+J T) b=C at hl Fe;generalize hE:RE Ac n (BV b) (p+8+J T+J C)=E at hl Fe;obtain⟨ab',UG⟩:∃x,x=p+8+J T+J C+J E+1:=AC;have eab:p+8+(J T+J C+J E)+1=ab':=Y
 rw[eab] at hl Fe;generalize hK:Fv Ac n (p+8) ab'=K at hl Fe;obtain⟨pe,ou⟩:∃x,x=ab'+J K:=AC;have epe:p+(8+(J T+J C+J E)+(J K+1))=pe:=Y
 rw[epe] at hl;rw[<-Js,epe] at Fe;obtain⟨⟨⟨h1,h2⟩,h3⟩,h4⟩:=hl;rw[Aj1] at h2;rw[rz,Jt,show p+(8+(J T+J C+J E))=ab'-1 by omega] at h3;obtain⟨h3,h5⟩:=A9.1 h3;rw[show ab'-1+1=ab' by omega] at h5;refine Rn.pD hb h1 λR'=>?_
 have h2':=h2;rw[Bx,Bx,CO] at h2';refine Rn.C4 (b:=b) (s:=r) (k:=q.k) (ab:=ab') hb hn (C4:=p+8) (by rw[hT];grind) ?_ (λi hi=>WN m.Gs m.AX hi) ?_
 .rw[hT];refine⟨by rw[show(KK.Ao b r q.k).C7=V from rfl,show(KK.Ao b r q.k).Ah=q.k.Ah from rfl,hC];grind,hi,ab,p+8,pe,by rw[hT];rfl,?_⟩;rw[show(KK.Ao b r q.k).C7=V from rfl,show(KK.Ao b r q.k).Ah=q.k.Ah from rfl,hT,hC,hE];refine⟨by rw[CE,CE];exact h2,UG,by rw[hK];exact ou,by rw[ou];exact h3,by rw[hK];exact h5,h4,Fe⟩
 .intro lt' hc hl hr;refine .inr ⟨by rw[hq];grind [NB],.Po hq hi hc (λi hi=>by rw[hl];exact hm.L i hi) (λd hd=>by rw[hr];exact hm.R d hd) hm.wf⟩
theorem AjQ (hb:Bs Ac) (hn:n=cells.toNat) (h6:cells<=6) {q:KS} {lt:LT} (hp:PK Ac n Ab ab (.rest q.s q.k) lt.pc) (hm:Mt n cells B rd BE q lt.x.m):Rn Ac Ab 0 lt (N1 Ac n Ab cells B rd BE ab q):=by
 cases hq:q.s<;>grind [AhR,AhO,AhT,AhP,AhQ,AhS,AeW,xv]
theorem dG (hb:Bs Ac) (hn:n=cells.toNat) (h6:cells<=6):∀(N:Nat) {q:KS} {lt:LT},C9 q<=N->PK Ac n Ab ab (.rest q.s q.k) lt.pc->Mt n cells B rd BE q lt.x.m->
  ∃j lt' q',Gj Ac Ab j lt lt'/\IC (λ_=>Z) q q'/\iH Ac n Ab cells B rd BE ab q' lt'/\j+C9 q'<=C9 q+NB q'.s:=by
 intro N;induction N with
 |zero=>grind [C9,KC]
 |succ N ih=>
  intro q lt h hp hm;obtain⟨j,lt',hr,hN⟩:=AjQ hb hn h6 hp hm;rw[JU] at hN;rcases hN with⟨q',hk,XI,eA,hle⟩|⟨hj,hs⟩
  .obtain⟨j2,lt2,q2,Lz,MU,K8,Aiu⟩:=ih Y XI eA;exact⟨j+j2,lt2,q2,hr.trans Lz,.cons hk MU,K8,Y⟩
  .exact⟨j,lt',q,hr,.nil q,hs,Y⟩
end
theorem Rn.skip {Ac:Int} {Ab:List GI} {Z96:Nat} (hL:∀c p,(f c p).length=L) {ab n p:Nat} (h:DQ Ab (rz ab (Fp f n p)) p) (fl:Nat->Bool) {m:C8}
  (hs:∀c,c<n->fl c=I->∀pc k R,DQ Ab (rz ab (f c pc)) pc->∀Q,(∀j R',j<=Z96->Rg [1] R R'->Rn Ac Ab (k+j) ⟨pc+L,⟨R',m⟩⟩ Q)->Rn Ac Ab k ⟨pc,⟨R,m⟩⟩ Q)
  {Q:Nat->LT->Prop} {R0:Nat->Int} {k0:Nat}
  (c:Nat) (hc:c<=n) (q1:∀c' j,c<=c'->c'<n->fl c'=V->(∀d,c<=d->d<c'->fl d=I)->j<=Z96*(c'-c)->∀R',Rg [1] R0 R'->DQ Ab (rz ab (f c' (p+L*c'))) (p+L*c')->Rn Ac Ab (k0+j) ⟨p+L*c',⟨R',m⟩⟩ Q)
  (q2:∀j,(∀d,c<=d->d<n->fl d=I)->j<=Z96*(n-c)->∀R',Rg [1] R0 R'->Rn Ac Ab (k0+j) ⟨p+L*n,⟨R',m⟩⟩ Q):Rn Ac Ab k0 ⟨p+L*c,⟨R0,m⟩⟩ Q:=by
 have key:∀i,i<=n-c->(∀d,c<=d->d<n-i->fl d=I)->∀j R,j<=Z96*(n-c-i)->Rg [1] R0 R->Rn Ac Ab (k0+j) ⟨p+L*(n-i),⟨R,m⟩⟩ Q:=by
  intro i;induction i with
  |zero=>grind
  |succ i ih=>
   intro hi hd j R hj hR;have hl:=KA hL h (c:=n-(i+1)) Y;cases hf:fl (n-(i+1)) with
   |true=>grind
   |false=>
    refine hs _ Y hf _ _ R hl Q λj' R' hj' hR'=>?_
    have e:n-(i+1)+1=n-i:=Y
    rw[Js,Js,<-j8,Nat.succ_eq_add_one,e];refine ih Y (λd h1 h2=>?_) (j+j') R' ?_ (λx hx=>(hR' x hx).trans (hR x hx))
    .by_cases he:d=n-(i+1)
     .rw[he];exact hf
     .exact hd d h1 Y
    .have e2:n-c-i=n-c-(i+1)+1:=Y
     rw[e2,j8];omega
 have:=key (n-c) AC (λd h1 h2=>Y) 0 R0 AC (Rg.refl _ _);rwa[J4,show n-(n-c)=c by omega] at this
theorem LO (Ac:Int) (c p:Nat):(Nk Ac c p).length=16:=rfl
theorem Oh (Ac:Int) (c p:Nat):(Pk Ac c p).length=14:=rfl
theorem U3 (Ac:Int) (c p:Nat):(Zd Ac c p).length=4:=rfl
theorem Ss (Ac:Int) (c p:Nat):(Rw Ac c p).length=3:=rfl
theorem WR (Ac:Int) (c p:Nat):(Pp Ac c p).length=4:=rfl
structure CP (Ac:Int) (n:Nat) (Ab:List GI) (ab p:Nat):Prop where
 Wm:DQ Ab (rz ab (Fp (Nk Ac) n p)) p
 b0:Ab[p+16*n]?=U (.El 5 (.n 16) 0 (.n 1))
 b1:Ab[p+16*n+1]?=U (.op KO 5 (.r 5) (.n 1))
 b2:Ab[p+16*n+2]?=U (.op Vh 5 (.r 5) (.n 1))
 x8:DQ Ab (rz ab (Fp (Pk Ac) n (p+16*n+3))) (p+16*n+3)
 put:DQ Ab (rz ab (Fp (Zd Ac) n (p+30*n+3))) (p+30*n+3)
 free:DQ Ab (rz ab (Fp (Rw Ac) n (p+34*n+3))) (p+34*n+3)
theorem Gh (Ac:Int) (n p:Nat):(FV Ac n p).length=37*n+3:=by
 unfold FV;simp only[GT,Ed (LO Ac),Ed (Oh Ac),Ed (U3 Ac),Ed (Ss Ac),show J ct=3 from rfl];omega
theorem sE {Ac:Int} {n:Nat} {Ab:List GI} {ab:Nat} (h:DQ Ab (rz ab (FV Ac n p)) p):CP Ac n Ab ab p:=by
 unfold FV at h;simp only[CE,Bx,CO,GT,Ed (LO Ac),Ed (Oh Ac),Ed (U3 Ac),Ed (Ss Ac),show J ct=3 from rfl] at h;obtain⟨⟨⟨⟨h1,h2⟩,h3⟩,h4⟩,h5⟩:=h;unfold ct rz at h2;simp only[Jt,LI.AN,A9] at h2;refine⟨h1,h2.1,h2.2.1,h2.2.2.1,?_,?_,?_⟩
 .rw[show p+16*n+3=p+(16*n+3) by omega];exact h3
 .rw[show p+30*n+3=p+(16*n+3+14*n) by omega];exact h4
 .rw[show p+34*n+3=p+(16*n+3+14*n+4*n) by omega];exact h5
section
variable {Ac:Int} {Ab:List GI} {ab n p k:Nat} {m:C8} {R:Nat->Int} {Q:Nat->LT->Prop} (hb:Bs Ac) (hn:n<=6)
include hb
theorem Rn.XV {pc T:Nat} (F:Lb) (h0:Ab[pc]?=U (.load 1 (.n (Ac+((T:Int)+c))) 0)) (h1:Ab[pc+1]?=U (.jz (.r 1) t)) (hT:T+c<64) (hf:Lb.Sw (T+c)=F) (hv:m.gY F=v)
  (q:∀R',Rg [1] R R'->(v=0->Rn Ac Ab (k+2) ⟨t.toNat,⟨R',m⟩⟩ Q)/\(v≠0->Rn Ac Ab (k+2) ⟨pc+2,⟨R',m⟩⟩ Q)):Rn Ac Ab k ⟨pc,⟨R,m⟩⟩ Q:=by
 have hg:=q (CA R 1 v) ((Rg.refl _ _).CA _ EQ);refine Rn.ld hb (T+c) F h0 hf hv ?_ Y hT;by_cases h:v=0
 .exact Rn.jz h1 (by rw[D2];exact h) AC
 .exact Rn.jnz h1 (by rw[D2];exact h) AC
include hn
variable {B:Bc} {A5 rd BE:Nat->Option Int} {o:List Int} (hm:BI n B m A5 rd BE o)
include hm
omit hb hn in
theorem BI.wrF (hc:c<n):(m.wr c=0<->(A5 c).isSome=I):=by
 cases h:A5 c<;>grind [BI]
theorem Rn.D1 (h:CP Ac n Ab ab p) (c:Nat) (hc:c<=n)
  (q1:∀c' j R',c<=c'->c'<n->(A5 c').isSome=V->(∀d,c<=d->d<c'->(A5 d).isSome=I)->j<=2*(c'-c)+2->Q (k+j) ⟨p+16*c'+2,⟨R',m⟩⟩)
  (q2:∀j R',(∀d,c<=d->d<n->(A5 d).isSome=I)->j<=2*(n-c)->Q (k+j) ⟨p+16*n,⟨R',m⟩⟩):Rn Ac Ab k ⟨p+16*c,⟨R,m⟩⟩ Q:=by
 refine Rn.skip (Z96:=2) (LO Ac) h.Wm (λc=>(A5 c).isSome) ?_ c hc ?_ (λj hd hj R' _=>Rn.Bd AC)
 .intro c hc hf pc k R hl Q q;unfold Nk rz at hl;simp only[JH,Jt,Jy,LI.AN,A9] at hl;exact nal
 .intro c' j h1 h2 hf hd hj R' _ hl;unfold Nk rz at hl;simp only[JH,Jt,Jy,LI.AN,A9] at hl;refine Rn.XV hb (T:=8) (.wr c') hl.1 hl.2.1 Y (O6 Y) rfl λR' hR=>⟨λhv=>?_,λ_=>Rn.Bd ?_⟩
  grind [(BI.wrF hm h2).1 hv]
  .rw[Js];exact q1 c' (j+2) R' h1 h2 hf hd Y
omit hn hm in
theorem Rn.Aj5 (h:CP Ac n Ab ab p) (hc:c<n) {lv rv:Int} (h2:R 2=lv) (hl:0<=lv/\lv<8000000000000000000) (hs:m.start=rv)
  (q1:(¬∃w,lv=2*w/\0<=w/\w<=rv)->∀j R',j<=8->Rn Ac Ab (k+j) ⟨ab,⟨R',m⟩⟩ Q) (q2:∀v R',lv=2*v->0<=v->v<=rv->R' 2=lv->R' 3=lv+1->Q (k+9) ⟨p+16*c+12,⟨R',m⟩⟩):Rn Ac Ab k ⟨p+16*c+3,⟨R,m⟩⟩ Q:=by
 have O0:=KA (LO Ac) h.Wm hc;unfold Nk at O0;rw[CE,CE,Bx,Bx,CO] at O0;have hx:=O0.2;unfold rz at hx;simp only[GT,Jt,LI.AN,A9] at hx;refine Rn.open hb O0.1.2 h2 hl hs q1 λv e1 e2 e3 R' hg=>?_
 subst e1;have h2':R' 2=2*v:=(hg 2 Do).trans h2;refine Rn.op hx.1 (u:=2*v) h2' (Es _ _) ((lV _ _).trans (by rw[AeN v e2 Y])) (Rn.Bd ?_)<;>grind [BA,BK]
omit hm in
theorem Rn.Aj4 (h:CP Ac n Ab ab p) (hc:c<n) {lv:Int} (h2:R 2=lv)
  (q1:R 3=0->Rn Ac Ab (k+1) ⟨ab,⟨R,m⟩⟩ Q) (q2:R 3≠0->Rn Ac Ab (k+3) ⟨p+16*(c+1),⟨R,{m with lk:=CA m.lk c 1,hd:=CA m.hd c lv}⟩⟩ Q):Rn Ac Ab k ⟨p+16*c+13,⟨R,m⟩⟩ Q:=by
 have O0:=KA (LO Ac) h.Wm hc;unfold Nk at O0;rw[CE,CE,Bx,Bx,CO] at O0;have hx:=O0.2;unfold rz at hx;simp only[GT,Jt,LI.AN,A9] at hx;obtain⟨_,_,c2,c3,c4,_⟩:=hx;by_cases h0:R 3=0
 .exact Rn.jz c2 h0 (q1 h0)
 .refine Rn.jnz c2 h0 ?_;refine Rn.st hb (26+c) (.lk c) c3 (WL Y) (Es _ _) ?_;exact Rn.st hb (32+c) (.hd c) c4 (Adz Y) h2 (q2 h0)
omit hb hn hm in
theorem Rn.Ai0 (h:CP Ac n Ab ab p) {old:Int} (h5:R 5=old) (h0:0<=old/\old<4000000000000000000-1) (q:∀R',R' 5=2*(old+1)->Rn Ac Ab (k+2) ⟨p+16*n+3,⟨R',m⟩⟩ Q):Rn Ac Ab k ⟨p+16*n+1,⟨R,m⟩⟩ Q:=by
 refine Rn.op h.b1 (u:=old) h5 (Es _ _) ((Of _ _).trans (by rw[ER Y Y])) ?_;exact Rn.op h.b2 (u:=old+1) (D2 _ _ _) (Es _ _) ((xY _).trans (by rw[Aez _ Y Y])) (q _ (BK _ _ _))
omit hb hn in
theorem BI.rdF (hc:c<n):(m.rd c=0<->(rd c).isSome=I):=by
 rw[hm.rd0 c hc];cases (rd c)<;>simp
omit hb hn in
theorem BI.lkF (hc:c<n):(m.lk c=0<->(BE c).isSome=I):=by
 rw[hm.lk0 c hc];cases (BE c)<;>simp
theorem Rn.Aj2 (h:CP Ac n Ab ab p) (c:Nat) (hc:c<=n)
  (q1:∀c' j R',c<=c'->c'<n->((rd c').isSome && !(BE c').isSome)=V->(∀d,c<=d->d<c'->((rd d).isSome && !(BE d).isSome)=I)->j<=5*(c'-c)+4->R' 5=R 5->Q (k+j) ⟨p+16*n+3+14*c'+5,⟨R',m⟩⟩)
  (q2:∀j R',(∀d,c<=d->d<n->((rd d).isSome && !(BE d).isSome)=I)->j<=5*(n-c)->R' 5=R 5->Rn Ac Ab (k+j) ⟨p+30*n+3,⟨R',m⟩⟩ Q):Rn Ac Ab k ⟨p+16*n+3+14*c,⟨R,m⟩⟩ Q:=by
 refine Rn.skip (Z96:=5) (Oh Ac) h.x8 (λc=>(rd c).isSome && !(BE c).isSome) ?_ c hc ?_ (λj hd hj R' hR=>?_)
 .intro c hc hf pc k R hl Q q;unfold Pk rz at hl;simp only[JH,Jt,Jy,LI.AN,A9] at hl;obtain⟨c0,c1,c2,c3,c4,_⟩:=hl;refine Rn.XV hb (T:=20) (.rd c) c0 c1 Y (im Y) rfl λR' hR=>⟨λ_=>q 2 R' Y hR,λhv=>?_⟩
  have Xu:m.rd c≠0:=hv;refine Rn.XV hb (T:=26) (.lk c) c2 c3 Y (WL Y) rfl λR'' hR'=>⟨λhk=>?_,λ_=>Rn.GN c4 (q 5 R'' Y λx hx=>(hR' x hx).trans (hR x hx))⟩
  have h2:=(BI.lkF hm hc).1 hk;rw[h2] at hf;grind [BI]
 .intro c' j h1 h2 hf hd hj R' hR hl;unfold Pk rz at hl;simp only[JH,Jt,Jy,LI.AN,A9] at hl;obtain⟨c0,c1,c2,c3,c4,_⟩:=hl;have Ug:(rd c').isSome=V:=by cases hx:(rd c').isSome<;>simp_all
  have Z2:(BE c').isSome=I:=by cases hx:(BE c').isSome<;>simp_all
  refine Rn.XV hb (T:=20) (.rd c') c0 c1 Y (im Y) rfl λR1 hR1=>⟨λhv=>?_,λ_=>?_⟩
  grind [(BI.rdF hm h2).1 hv];refine Rn.XV hb (T:=26) (.lk c') c2 c3 Y (WL Y) rfl λR2 hR2=>⟨λ_=>Rn.Bd ?_,λhk=>Jk ((BI.lkF hm h2).2 Z2) hk⟩
  rw[Js,Js];exact q1 c' (j+(2+2)) R2 h1 h2 hf hd Y ((hR2 5 Do).trans ((hR1 5 Do).trans (hR 5 Do)))
 grind [hR 5 Do]
omit hn hm in
theorem Rn.Aj3 (h:CP Ac n Ab ab p) (hc:c<n) {lv rv:Int} (h2:R 2=lv) (hl:0<=lv/\lv<8000000000000000000) (hs:m.start=rv)
  (q1:(¬∃w,lv=2*w/\0<=w/\w<=rv)->∀j R',j<=8->Rn Ac Ab (k+j) ⟨ab,⟨R',m⟩⟩ Q) (q2:∀v R',lv=2*v->0<=v->v<=rv->R' 5=R 5->Rn Ac Ab (k+8) ⟨p+16*n+3+14*(c+1),⟨R',m⟩⟩ Q):Rn Ac Ab k ⟨p+16*n+3+14*c+6,⟨R,m⟩⟩ Q:=by
 have O0:=KA (Oh Ac) h.x8 hc;unfold Pk at O0;rw[CE,Bx,CO] at O0;exact Rn.open hb O0.2 h2 hl hs q1 λv e1 e2 e3 R' hg=>q2 v R' e1 e2 e3 (hg 5 Do)
theorem Rn.Amb (h:CP Ac n Ab ab p) (c:Nat) (hc:c<=n)
  (q1:∀c' j R' v,c<=c'->c'<n->A5 c'=U v->(∀d,c<=d->d<c'->(A5 d).isSome=I)->j<=2*(c'-c)+3->R' 5=R 5->R' 2=v->Q (k+j) ⟨p+30*n+3+4*c'+3,⟨R',m⟩⟩)
  (q2:∀j R',(∀d,c<=d->d<n->(A5 d).isSome=I)->j<=2*(n-c)->R' 5=R 5->Rn Ac Ab (k+j) ⟨p+34*n+3,⟨R',m⟩⟩ Q):Rn Ac Ab k ⟨p+30*n+3+4*c,⟨R,m⟩⟩ Q:=by
 refine Rn.skip (Z96:=2) (U3 Ac) h.put (λc=>(A5 c).isSome) ?_ c hc ?_ (λj hd hj R' hR=>?_)
 .intro c hc hf pc k R hl Q q;unfold Zd rz at hl;simp only[Jt,LI.AN,A9] at hl;exact nal
 .intro c' j h1 h2 hf hd hj R' hR hl;unfold Zd rz at hl;simp only[Jt,LI.AN,A9] at hl;obtain⟨v,hv⟩:=JE.1 hf;refine Rn.XV hb (T:=8) (.wr c') hl.1 hl.2.1 Y (O6 Y) rfl λR1 hR1=>⟨λhv=>?_,λ_=>?_⟩
  grind [(BI.wrF hm h2).1 hv];refine Rn.ld hb (14+c') (.vl c') hl.2.2.1 (sB Y) (hm.vP c' v h2 hv).2 (Rn.Bd ?_);rw[Js,Js];exact q1 c' (j+(2+1)) _ v h1 h2 hv hd Y ((BA _ _ Do).trans ((hR1 5 Do).trans (hR 5 Do))) (BK _ _ _)
 grind [hR 5 Do]
theorem Rn.Ak9 (h:CP Ac n Ab ab p) (c:Nat) (hc:c<=n)
  (q1:∀c' j R',c<=c'->c'<n->(A5 c').isSome=V->(∀d,c<=d->d<c'->(A5 d).isSome=I)->j<=2*(c'-c)+2->R' 5=R 5->Q (k+j) ⟨p+34*n+3+3*c'+2,⟨R',m⟩⟩)
  (q2:∀j R',(∀d,c<=d->d<n->(A5 d).isSome=I)->j<=2*(n-c)->Rn Ac Ab (k+j) ⟨p+37*n+3,⟨R',m⟩⟩ Q):Rn Ac Ab k ⟨p+34*n+3+3*c,⟨R,m⟩⟩ Q:=by
 refine Rn.skip (Z96:=2) (Ss Ac) h.free (λc=>(A5 c).isSome) ?_ c hc ?_ (λj hd hj R' hR=>?_)
 .intro c hc hf pc k R hl Q q;unfold Rw rz at hl;simp only[Jt,LI.AN,A9] at hl;exact Rn.XV hb (T:=8) (.wr c) hl.1 hl.2.1 Y (O6 Y) rfl λR' hR=>⟨λ_=>q 2 R' (Jf _) hR,λhv=>Jk ((BI.wrF hm hc).2 hf) hv⟩
 .intro c' j h1 h2 hf hd hj R' hR hl;unfold Rw rz at hl;simp only[Jt,LI.AN,A9] at hl;refine Rn.XV hb (T:=8) (.wr c') hl.1 hl.2.1 Y (O6 Y) rfl λR1 hR1=>⟨λhv=>?_,λ_=>Rn.Bd ?_⟩
  .have:=(BI.wrF hm h2).1 hv;rw[hf] at this;cases this
  rw[Js];exact q1 c' (j+2) R1 h1 h2 hf hd Y ((hR1 5 Do).trans (hR 5 Do))
 .have:=q2 j R' hd Y;rwa[show p+37*n+3=p+34*n+3+3*n by omega] at this
theorem Rn.Fc (h:DQ Ab (rz ab (Fp (Pp Ac) n p)) p) (c:Nat) (hc:c<=n)
  (q1:∀c' j R' v,c<=c'->c'<n->BE c'=U v->(∀d,c<=d->d<c'->(BE d).isSome=I)->j<=2*(c'-c)+3->R' 2=v->Q (k+j) ⟨p+4*c'+3,⟨R',m⟩⟩)
  (q2:∀j R',(∀d,c<=d->d<n->(BE d).isSome=I)->j<=2*(n-c)->Rn Ac Ab (k+j) ⟨p+4*n,⟨R',m⟩⟩ Q):Rn Ac Ab k ⟨p+4*c,⟨R,m⟩⟩ Q:=by
 refine Rn.skip (Z96:=2) (WR Ac) h (λc=>(BE c).isSome) ?_ c hc ?_ AC
 .intro c hc hf pc k R hl Q q;unfold Pp rz at hl;simp only[Jt,LI.AN,A9] at hl;exact Rn.XV hb (T:=26) (.lk c) hl.1 hl.2.1 Y (WL Y) rfl λR' hR=>⟨λ_=>q 2 R' AC hR,λhv=>Jk ((BI.lkF hm hc).2 hf) hv⟩
 .intro c' j h1 h2 hf hd hj R' hR hl;unfold Pp rz at hl;simp only[Jt,LI.AN,A9] at hl;obtain⟨v,hv⟩:=JE.1 hf;refine Rn.XV hb (T:=26) (.lk c') hl.1 hl.2.1 Y (WL Y) rfl λR1 hR1=>⟨λhv=>?_,λ_=>?_⟩
  grind [(BI.lkF hm h2).1 hv];refine Rn.ld hb (32+c') (.hd c') hl.2.2.1 (Adz Y) (hm.oy c' v h2 hv) (Rn.Bd ?_);rw[Js,Js];exact q1 c' (j+(2+1)) _ v h1 h2 hv hd Y (BK _ _ _)
omit hn in
theorem Rn.Ajq (h:DQ Ab (rz ab (L5 Ac p)) p) (i:Nat) (hi:i<=J o) (h8:J o<=8) (h1:R 1=i) (q1:∀x R',o[i]?=U x->R' 1=(i:Int)->R' 2=x->Q (k+4) ⟨p+5,⟨R',m⟩⟩) (q2:i=J o->∀R',Rn Ac Ab (k+3) ⟨p+8,⟨R',m⟩⟩ Q):
  Rn Ac Ab k ⟨p+1,⟨R,m⟩⟩ Q:=by
 unfold L5 rz at h;simp only[Jt,LI.AN,A9] at h;obtain⟨_,c1,c2,c3,c4,_⟩:=h;refine Rn.ld hb 39 .count (v:=J o) c1 rfl hm.cnt ?_;refine Rn.op c2 (u:=i) (w:=J o) ((BA R (J o:Int) (i:=2) (j:=1) Do).trans h1) (D2 _ _ _) (Rb _ _) ?_;by_cases hlt:i<J o
 .rw[Jd Y];refine Rn.jnz c3 (by rw[D2];decide) ?_;have hx:=Jb hlt;have h1':CA (CA R 2 (J o:Int)) 2 1 1=i:=(BA _ _ Do).trans ((BA _ _ Do).trans h1);refine Rn.ldR hb (40+i) (.Al i) c4 (ns Y) (hm.Al i _ hx) (by show CA (CA R 2 (J o:Int)) 2 1 1+40=_;rw[h1'];omega) Y (Rn.Bd ?_)<;>grind [BA,BK]
 .rw[In Y];exact Rn.jz c3 (D2 _ _ _) AC
omit hb hn hm in
theorem Rn.Agx (h:DQ Ab (rz ab (L5 Ac p)) p) (q:∀R',R' 1=0->Rn Ac Ab (k+1) ⟨p+1,⟨R',m⟩⟩ Q):Rn Ac Ab k ⟨p,⟨R,m⟩⟩ Q:=by
 unfold L5 rz at h;simp only[Jt,LI.AN,A9] at h;exact Rn.Zv h.1 (Es _ _) (q _ (BK _ _ _))
omit hb hn hm in
theorem Rn.Ajr {i:Nat} (h:DQ Ab (rz ab (L5 Ac p)) p) (h1:R 1=i) (hi:i<=8) (q:∀R',R' 1=((i+1:Nat):Int)->Rn Ac Ab (k+2) ⟨p+1,⟨R',m⟩⟩ Q):Rn Ac Ab k ⟨p+6,⟨R,m⟩⟩ Q:=by
 unfold L5 rz at h;simp only[Jt,LI.AN,A9] at h;obtain⟨_,_,_,_,_,_,c6,c7,_⟩:=h;refine Rn.op c6 (u:=i) h1 (Es _ _) ((Of _ _).trans (by rw[ER Y Y])) ?_;exact Rn.GN c7 (q _ ((BK _ _ _).trans Y))
end
inductive Ph where
 |node
 |Po
 |M0 (c:Nat)
 |F2 (c:Nat) (lv:Int)
 |Gw (c:Nat) (lv x:Int)
 |ZE (c:Nat)
 |XG (c:Nat) (lv:Int)
 |xa
 |lo (c:Nat)
 |pu (c:Nat)
 |fr (c:Nat)
 |te (i:Nat)
 |ba (c:Nat)
structure Gt where
 ph:Ph
 q0:KS
 q:KS
 rd:Nat->Option Int
 BE:Nat->Option Int
 rv:Int
 wv:Int
variable {g:Gt}
def D9:Nat->Option Int:=λ_=>Z
def Gt.B (g:Gt):Bc:=⟨g.q0.L,g.rv⟩
def Cw (q:KS):KS:=match q.s with
 |.atomic b s=>⟨b,.Ao b s q.k,q.L,q.R,D9,[]⟩
 |_=>q
def BR (q0 q:KS):KS:=match q0.s with
 |.atomic _ s=>⟨s,q0.k,q.L,q.R,D9,[]⟩
 |_=>q0
def DN (q:KS):Gt:=⟨match q.s with|.atomic .. => .Po|_=> .node,q,q,D9,D9,0,0⟩
structure Cx where
 Ac:Int
 n:Nat
 Ab:List GI
 cells:Int
structure OE (x:Cx):Prop where
 hb:Bs x.Ac
 hn:x.n=x.cells.toNat
 h6:x.cells<=6
theorem OE.n6 {x:Cx} (h:OE x):x.n<=6:=by have:=h.hn;have:=h.h6;omega
def KK.OC:KK->Option (Bj×Bj×KK)
 |.done=>Z
 |.rest _ k=>k.OC
 |.loop _ _ k=>k.OC
 |.Ao b s k=>U (b,s,k)
theorem aL (h:k.OC=U (b,s,k0)):k0.Ah<=k.Ah:=by
 induction k with
 |done=>cases h
 |rest s k ih=>exact ih h
 |loop b s k ih=>exact jY (ih h)
 |Ao b s k=>cases h;exact Jf _
theorem VL (h:k.OC=U (b,s,k0)):k.C7=V:=by
 induction k with
 |done=>cases h
 |rest s k ih=>exact ih h
 |loop b s k ih=>exact ih h
 |Ao b s k=>rfl
structure W0 (x:Cx) (g:Gt) (b s:Bj):Prop where
 oA:g.q0.s=.atomic b s
 nb:g.q0.k.C7=I
 wf:NP x.cells g.q0.R (.rest g.q0.s g.q0.k)
 bo:g.q.k.OC=U (b,s,g.q0.k)
 rp:∀d,d<g.q0.k.Ah->g.q.R d=g.q0.R d
structure cJ (x:Cx) (g:Gt) (m:C8) (b s:Bj) (ab c p0:Nat) (v:Int) (r:Bj):Prop where
 Ao:W0 x g b s
 mt:Mt x.n x.cells g.B g.rd g.BE g.q m
 BE:g.BE=D9
 stm:∃f z a,g.q.s=.get v f z a r/\0<=DW g.q.L a/\DW g.q.L a<z/\(c:Int)=f+DW g.q.L a
 A5:g.q.A5 c=Z
 MP:Aha x.Ac x.n x.Ab ab c p0 v r g.q.k
structure Ip (x:Cx) (g:Gt) (m:C8) (b s:Bj) (ab p:Nat):Prop where
 Ao:W0 x g b s
 mt:Mt x.n x.cells g.B g.rd g.BE g.q m
 s0:g.q.s=.nil
 k0:g.q.k=.Ao b s g.q0.k
 MP:PK x.Ac x.n x.Ab ab (.Ao b s g.q0.k) p
def Ub (g:Gt) (n c:Nat):Prop:=∀d,d<n->(g.BE d).isSome=(decide (d<c) && (g.q.A5 d).isSome)
def GD (n p:Nat) (b:Bj):Nat:=p+if BV b then 37*n+3 else 0
def L0 (x:Cx) (g:Gt) (lt:LT):Prop:=match g.ph with
 |.node=>(∃ab B rd BE,iH x.Ac x.n x.Ab x.cells B rd BE ab g.q lt)/\(g.q.k.C7=V->Br g.q≠Z/\∃b s,W0 x g b s)/\(g.q.k.C7=I->g.q0=g.q/\∀b s,g.q.s≠ .atomic b s)/\g.BE=D9
 |.Po=>∃b s ab,g.q0.s=.atomic b s/\g.q0.k.C7=I/\NP x.cells g.q0.R (.rest g.q0.s g.q0.k)/\vM x.Ac x.n x.Ab ab b s g.q0.k lt/\(∀i,i<4->lt.x.m.AX i=g.q0.L i)/\(∀d,d<g.q0.k.Ah->lt.x.m.Dz d=g.q0.R d)/\g.BE=D9/\g.rd=D9
 |.M0 c=>∃b s ab p0 v r,cJ x g lt.x.m b s ab c p0 v r/\lt.pc=p0+4/\lt.x.R 0=c
 |.F2 c lv=>(∃b s ab p0 v r,cJ x g lt.x.m b s ab c p0 v r/\lt.pc=p0+13/\lt.x.R 0=c/\lt.x.R 2=lv)/\∃w,lv=2*w/\0<=w/\w<=g.rv
 |.Gw c lv y=>(∃b s ab p0 v r,cJ x g lt.x.m b s ab c p0 v r/\lt.pc=p0+14/\lt.x.R 0=c/\lt.x.R 2=lv/\lt.x.R 1=y)/\∃w,lv=2*w/\0<=w/\w<=g.rv
 |.ZE c=>c<x.n/\(g.q.A5 c).isSome=V/\Ub g x.n c/\∃b s ab p,Ip x g lt.x.m b s ab p/\BV b=V/\lt.pc=p+16*c+2
 |.XG c lv=>c<x.n/\(g.q.A5 c).isSome=V/\Ub g x.n c/\(∃w,lv=2*w/\0<=w/\w<=g.rv)/\∃b s ab p,Ip x g lt.x.m b s ab p/\BV b=V/\lt.pc=p+16*c+12/\lt.x.R 2=lv/\lt.x.R 3=lv+1
 |.xa=>Ub g x.n x.n/\∃b s ab p,Ip x g lt.x.m b s ab p/\BV b=V/\lt.pc=p+16*x.n
 |.lo c=>c<x.n/\(g.rd c).isSome=V/\(g.BE c).isSome=I/\Ub g x.n x.n/\∃b s ab p,Ip x g lt.x.m b s ab p/\BV b=V/\lt.pc=p+16*x.n+3+14*c+5/\lt.x.R 5=2*g.wv
 |.pu c=>c<x.n/\(g.q.A5 c).isSome=V/\Ub g x.n x.n/\∃b s ab p,Ip x g lt.x.m b s ab p/\BV b=V/\lt.pc=p+30*x.n+3+4*c+3/\lt.x.R 5=2*g.wv/\g.q.A5 c=U (lt.x.R 2)
 |.fr c=>c<x.n/\(g.q.A5 c).isSome=V/\Ub g x.n x.n/\∃b s ab p,Ip x g lt.x.m b s ab p/\BV b=V/\lt.pc=p+34*x.n+3+3*c+2/\lt.x.R 5=2*g.wv
 |.te i=>∃b s ab p,Ip x g lt.x.m b s ab p/\lt.pc=GD x.n p b+5/\lt.x.R 1=i/\g.q.o[i]?=U (lt.x.R 2)
 |.ba c=>c<x.n/\g.BE c=U (lt.x.R 2)/\∃(b s:Bj) (ab z C4:Nat),W0 x g b s/\Mt x.n x.cells g.B g.rd g.BE g.q lt.x.m/\DQ x.Ab (rz z (Fv x.Ac x.n C4 ab)) ab/\DQ x.Ab (rz ab (Ld x.Ac x.n C4)) C4/\
   PK x.Ac x.n x.Ab ab (.rest b (.Ao b s g.q0.k)) (C4+(Ld x.Ac x.n C4).length)/\lt.pc=ab+4*c+3
def Se (x:Cx) (g:Gt):Nat:=
 let X:=C9 (BR g.q0 g.q)
 let T:=X+5+7*J g.q.o
 let F:=T+3*x.n+2
 let P:=F+4*x.n+3
 let A:=P+14*x.n+7
 match g.ph with
 |.node=>C9 g.q-NB g.q.s
 |.Po=>C9 g.q0-27
 |.M0 _=>C9 g.q-9
 |.F2 .. =>C9 g.q-18
 |.Gw .. =>C9 g.q-19
 |.ZE c=>A+16*(x.n-c)
 |.XG c _=>A+16*(x.n-c)-10
 |.xa=>A
 |.lo c=>P+14*(x.n-c)
 |.pu c=>F+4*(x.n-c)
 |.fr c=>T+3*(x.n-c)
 |.te i=>X+7*(J g.q.o-i)
 |.ba c=>C9 g.q0+4*(x.n-c)
theorem Ly {rd:Nat->Option Int} (h:OY rd q=U r):r.k.C7=q.k.C7:=by
 unfold OY at h;split at h
 .split at h
  .rename_i hk;cases h;rw[hk];rfl
  .rename_i hk;split at h
   .cases h;rw[hk];rfl
   grind
  .cases h
 grind [Option.map_eq_some_iff];grind [Option.map_eq_some_iff];grind;grind
 .cases h;split<;>rfl
 .cases h;rfl
 .cases h
theorem IC.C7 {rd:Nat->Option Int} (h:IC rd q r):r.k.C7=q.k.C7:=by
 induction h<;>grind [Ly]
theorem Afo {rd:Nat->Option Int} (hb:q.k.OC=U (b,s,k0)) (h:OY rd q=U r):r.k.OC=U (b,s,k0)/\∀d,d<k0.Ah->r.R d=q.R d:=by
 unfold OY at h;split at h
 .split at h
  .rename_i hk;cases h;rw[hk] at hb;exact⟨hb,AC⟩
  .rename_i b' s' k' hk;rw[hk] at hb;have hR:∀(v:Int) (d:Nat),d<k0.Ah->CA q.R k'.Ah v d=q.R d:=λv d h=>BA _ _ (Qj (JQ h (aL (k:=k') hb)))
   split at h
   .cases h;exact⟨hb,hR _⟩
   .cases h<;>grind
  .cases h
 grind [Option.map_eq_some_iff];grind [Option.map_eq_some_iff];grind;grind
 .cases h;exact⟨by split<;>exact hb,AC⟩
 .cases h;exact⟨hb,λd h=>BA _ _ (Qj (JQ h (aL hb)))⟩
 .cases h
theorem IC.Ao {rd:Nat->Option Int} (h:IC rd q r) {b s:Bj} {k0:KK} (hb:q.k.OC=U (b,s,k0)):r.k.OC=U (b,s,k0)/\∀d,d<k0.Ah->r.R d=q.R d:=by
 induction h<;>grind [Afo]
theorem gu {Ac:Int} {n:Nat} {Ab:List GI} {ab:Nat}:∀{k:KK} {p:Nat},PK Ac n Ab ab k p->k.OC=U (b,s,k0)->∃p',PK Ac n Ab ab (.Ao b s k0) p'
 |.done,_,_,h=>by cases h
 |.rest s k,p,hp,h=>gu (k:=k) hp.2 h
 |.loop _ _ k,p,⟨_,_,_,_,_,hp⟩,h=>gu (k:=k) hp h
 |.Ao _ _ _,p,hp,h=>by cases h<;>grind
section
def Alk (g:Gt):Gt:=⟨.Po,g.q0,g.q0,D9,D9,0,0⟩
inductive Lp (g:Gt) (i:Nat):Gt->Prop
 |te (h:i<J g.q.o):Lp g i {g with ph:=.te i}
 |out (q':KS) (h:i=J g.q.o) (k:IC D9 (BR g.q0 g.q) q'):Lp g i (DN q')
inductive My (n:Nat) (g:Gt) (c:Nat):Gt->Prop
 |fr (c':Nat) (h1:c<=c') (h2:c'<n) (h3:(g.q.A5 c').isSome=V) (h4:∀d,c<=d->d<c'->(g.q.A5 d).isSome=I):My n g c {g with ph:=.fr c'}
 |stop (g':Gt) (h:∀d,c<=d->d<n->(g.q.A5 d).isSome=I) (k:Lp g 0 g'):My n g c g'
inductive Uv (n:Nat) (g:Gt) (c:Nat):Gt->Prop
 |pu (c':Nat) (h1:c<=c') (h2:c'<n) (h3:(g.q.A5 c').isSome=V) (h4:∀d,c<=d->d<c'->(g.q.A5 d).isSome=I):Uv n g c {g with ph:=.pu c'}
 |stop (g':Gt) (h:∀d,c<=d->d<n->(g.q.A5 d).isSome=I) (k:My n g 0 g'):Uv n g c g'
inductive RU (n:Nat) (g:Gt) (c:Nat):Gt->Prop
 |lo (c':Nat) (h1:c<=c') (h2:c'<n) (h3:((g.rd c').isSome && !(g.BE c').isSome)=V) (h4:∀d,c<=d->d<c'->((g.rd d).isSome && !(g.BE d).isSome)=I):RU n g c {g with ph:=.lo c'}
 |stop (g':Gt) (h:∀d,c<=d->d<n->((g.rd d).isSome && !(g.BE d).isSome)=I) (k:Uv n g 0 g'):RU n g c g'
inductive Ty (n:Nat) (g:Gt) (c:Nat):Gt->Prop
 |lk (c':Nat) (h1:c<=c') (h2:c'<n) (h3:(g.q.A5 c').isSome=V) (h4:∀d,c<=d->d<c'->(g.q.A5 d).isSome=I):Ty n g c {g with ph:=.ZE c'}
 |xa (h:∀d,c<=d->d<n->(g.q.A5 d).isSome=I):Ty n g c {g with ph:=.xa}
inductive Fk (n:Nat) (g:Gt) (c:Nat):Gt->Prop
 |ba (c':Nat) (h1:c<=c') (h2:c'<n) (h3:(g.BE c').isSome=V) (h4:∀d,c<=d->d<c'->(g.BE d).isSome=I):Fk n g c {g with ph:=.ba c'}
 |Po (h:∀d,c<=d->d<n->(g.BE d).isSome=I):Fk n g c (Alk g)
inductive sV (n:Nat) (b:Bj) (g:Gt):Gt->Prop
 |CS (q':KS) (k:IC D9 g.q q') (h:Br q'≠Z):sV n b g {g with ph:=.node,q:=q'}
 |get (q':KS) (c:Nat) (k:IC D9 g.q q'):sV n b g {g with ph:=.M0 c,q:=q'}
 |Wm (q' g':_) (k:IC D9 g.q q') (hs:q'.s=.nil/\∃b s k,q'.k=.Ao b s k) (hp:BV b=V) (h:Ty n {g with q:=q'} 0 g'):sV n b g g'
 |GR (q' g':_) (k:IC D9 g.q q') (hs:q'.s=.nil/\∃b s k,q'.k=.Ao b s k) (hp:BV b=I) (h:Lp {g with q:=q'} 0 g'):sV n b g g'
def Lq (x:Cx) (P:Nat->Gt->Prop):Nat->LT->Prop:=λj lt=>∃g',L0 x g' lt/\P j g'
theorem Rn.AjD {Ac:Int} {Ab:List GI} {k j:Nat} {s t:LT} {Q:Nat->LT->Prop} (h:Gj Ac Ab j s t) (r:Rn Ac Ab (k+j) t Q):Rn Ac Ab k s Q:=by
 obtain⟨i,u,h2,h3⟩:=r;exact⟨j+i,u,h.trans h2,by rwa[<-Js]⟩
theorem Zg (q:KS):NB q.s<=C9 q:=by
 unfold C9;cases q.s<;>simp only[NB,KC,AW]<;>omega
variable {x:Cx} {P:Nat->Gt->Prop} {k:Nat}
theorem Rn.outside (hx:OE x) {q:KS} {lt:LT} {ab:Nat} {B:Bc} {rd BE:Nat->Option Int} (hp:PK x.Ac x.n x.Ab ab (.rest q.s q.k) lt.pc) (hi:q.k.C7=I) (hm:Mt x.n x.cells B rd BE q lt.x.m)
  (h:∀q' j,IC D9 q q'->j+Se x (DN q')<=C9 q->P (k+j) (DN q')):Rn x.Ac x.Ab k lt (Lq x P):=by
 obtain⟨j,lt',q',hr,hk,hs,hle⟩:=dG hx.hb hx.hn hx.h6 (C9 q) AC hp hm;refine Rn.AjD hr (Rn.Bd ?_);have eC:q'.k.C7=I:=hk.C7.trans hi;have key:(∀b s,q'.s≠ .atomic b s)->Lq x P (k+j) lt':=λhne=>by
  have e:DN q'=⟨.node,q',q',D9,D9,0,0⟩:=by
   grind [DN]
  refine⟨DN q',?_,h q' j hk ?_⟩
  .rw[e];exact⟨⟨_,_,_,_,hs⟩,AC,AC,rfl⟩
  .rw[e];show j+(C9 q'-NB q'.s)<=C9 q;have:=Zg q';omega
 cases hs with
 |halt hs hk hc=>grind
 |out _ hs _ _ _ _=>grind
 |CS ht _ _=>grind [Br]
 |get _ hk _ _ _ _ _ _ _=>rw[eC] at hk;cases hk
 |DU _ hk _ _=>rw[hk] at eC;cases eC
 |Po hs LS hc hL hR hw=>
  rename_i b r ab';have e:DN q'=⟨.Po,q',q',D9,D9,0,0⟩:=by unfold DN;rw[hs]
  refine⟨DN q',?_,h q' j hk ?_⟩
  .rw[e];exact⟨b,r,ab',hs,eC,hw,hc,hL,hR,rfl,rfl⟩
  .rw[e];show j+(C9 q'-27)<=C9 q;have:=Zg q';rw[hs] at hle this;grind [NB]
theorem AdY {ab:Nat} (hc:Ip x g m b s ab p):BR g.q0 g.q=⟨s,g.q0.k,g.q.L,g.q.R,D9,[]⟩:=by unfold BR;rw[hc.Ao.oA]
theorem Rn.after (hx:OE x) {g:Gt} {m:C8} {b s:Bj} {ab p pe:Nat} {R:Nat->Int} {z:Nat} (hc:Ip x g m b s ab p) (h1:DQ x.Ab (rz z (Gz x.Ac x.n I g.q0.k.Ah pe s)) pe) (h2:PK x.Ac x.n x.Ab z g.q0.k (pe+(Gz x.Ac x.n I g.q0.k.Ah pe s).length))
  (h:∀q' j,IC D9 (BR g.q0 g.q) q'->j+Se x (DN q')<=C9 (BR g.q0 g.q)->P (k+j) (DN q')):Rn x.Ac x.Ab k ⟨pe,⟨R,m⟩⟩ (Lq x P):=by
 have e:=AdY hc;have hw:=hc.mt.wf;rw[hc.s0,hc.k0] at hw;obtain⟨_,_,_,Ln,bR⟩:=hw;refine Rn.outside (q:=BR g.q0 g.q) (ab:=z) (B:=g.B) (rd:=D9) (BE:=D9) hx ?_ ?_ ?_ h
 .rw[e];exact⟨by rw[hc.Ao.nb];exact h1,by rw[hc.Ao.nb];exact h2⟩
 grind
 .rw[e];refine⟨hc.mt.L,λd hd=>hc.mt.R d (by rw[hc.k0];exact hd),⟨by rw[hc.Ao.nb];exact Ln,bR⟩,λhb=>?_⟩<;>grind
theorem Rn.fT (hx:OE x) {g:Gt} {m:C8} {b s:Bj} {ab p i:Nat} {R:Nat->Int} (hc:Ip x g m b s ab p) (hi:i<=J g.q.o) (h1:R 1=i)
  (h:∀j g',Lp g i g'->j+Se x g'<=C9 (BR g.q0 g.q)+4+7*(J g.q.o-i)->P (k+j) g'):Rn x.Ac x.Ab k ⟨GD x.n p b+1,⟨R,m⟩⟩ (Lq x P):=by
 obtain⟨Px,z,C4,pe,e1,e2,e3,e4,e5,e6,e7,e8⟩:=hc.MP;have MY:=hc.mt.bi (by rw[hc.k0];rfl);have ht:DQ x.Ab (rz ab (L5 x.Ac (GD x.n p b))) (GD x.n p b):=by
  rw[CE,Bx] at e2;have:=e2.2;rw[CO,GT,<-Js,<-e1] at this;grind [RE,CE,Bx,CO,GD,Gh]
 have hel:ab=GD x.n p b+8+1:=by
  rw[e3];unfold RE GD;rw[GT];split
  .rw[Gh];show _+(_+8)+1=_;omega
  .show _+(0+8)+1=_;omega
 refine Rn.Ajq hx.hb MY.1 ht i hi (by have:=MY.2;omega) h1 (λy R' ho h1' h2'=>?_) λhe R'=>?_
 .have hlt:=(Jm.1 ho).1;exact⟨{g with ph:=.te i},⟨b,s,ab,p,⟨⟨hc.Ao.oA,hc.Ao.nb,hc.Ao.wf,hc.Ao.bo,hc.Ao.rp⟩,hc.mt,hc.s0,hc.k0,hc.MP⟩,rfl,h1',AC⟩,h 4 _ (.te hlt) (by show 4+(C9 (BR g.q0 g.q)+7*(J g.q.o-i))<=_;omega)⟩
 .have e5':x.Ab[GD x.n p b+8]?=U (.GN pe):=by rw[show GD x.n p b+8=ab-1 by omega];exact e5
  refine Rn.GN e5' (Rn.after hx hc e7 e8 λq' j hk hle=>?_);rw[Js,Js];exact h (3+(1+j)) _ (.out q' he hk) Y
end
section
variable {x:Cx} {P:Nat->Gt->Prop} {k:Nat}
theorem W0.ph (h:W0 x g b s) (ph:Ph) (BE:Nat->Option Int) (wv:Int):W0 x {g with ph:=ph,BE:=BE,wv:=wv} b s:=⟨h.oA,h.nb,h.wf,h.bo,h.rp⟩
theorem Ip.ph {ab:Nat} (h:Ip x g m b s ab p) (ph:Ph) (wv:Int):Ip x {g with ph:=ph,wv:=wv} m b s ab p:=⟨h.Ao.ph ph g.BE wv,h.mt,h.s0,h.k0,h.MP⟩
theorem FX {ab:Nat} (h:Ip x g m b s ab p) (hp:BV b=V):CP x.Ac x.n x.Ab ab p/\GD x.n p b=p+37*x.n+3/\DQ x.Ab (rz ab (L5 x.Ac (GD x.n p b))) (GD x.n p b):=by
 obtain⟨Px,z,C4,pe,e1,e2,e3,e4,e5,e6,e7,e8⟩:=h.MP<;>grind [CE,Bx,CO,RE,Gh,GD,sE]
theorem Ip.bi {ab:Nat} (h:Ip x g m b s ab p):BI x.n g.B m g.q.A5 g.rd g.BE g.q.o/\J g.q.o<=8:=by
 have:=h.mt.bi (by rw[h.k0];rfl);grind
theorem Ip.start {ab:Nat} (h:Ip x g m b s ab p):m.start=g.rv:=h.bi.1.start
def Pt (x:Cx) (g:Gt):Nat:=C9 (BR g.q0 g.q)+5+7*J g.q.o
theorem Rn.uS (hx:OE x) {g:Gt} {m:C8} {b s:Bj} {ab p c:Nat} {R:Nat->Int} (hc:Ip x g m b s ab p) (hp:BV b=V) (hl:Ub g x.n x.n) (hcn:c<=x.n) (h5:R 5=2*g.wv)
  (h:∀j g',My x.n g c g'->j+Se x g'<=Pt x g+3*(x.n-c)+2->P (k+j) g'):Rn x.Ac x.Ab k ⟨p+34*x.n+3+3*c,⟨R,m⟩⟩ (Lq x P):=by
 obtain⟨yD,htp,ht⟩:=FX hc hp;refine Rn.Ak9 hx.hb hx.n6 hc.bi.1 yD c hcn (λc' j R' h1 h2 h3 h4 hj h5'=>?_) λj R' h4 hj=>?_
 .refine⟨{g with ph:=.fr c'},⟨h2,h3,hl,b,s,ab,p,hc.ph _ _,hp,rfl,AC⟩,h j _ (.fr c' h1 h2 h3 h4) ?_⟩;show j+(Pt x g+3*(x.n-c'))<=_;omega
 .rw[show p+37*x.n+3=GD x.n p b by omega];refine Rn.Agx ht λR1 e1=>Rn.fT hx hc AC e1 λj2 g' hr hle=>?_
  rw[Js,Js];refine h (j+(1+j2)) g' (.stop g' h4 hr) ?_<;>grind [Pt]
theorem Rn.tV (hx:OE x) {g:Gt} {m:C8} {b s:Bj} {ab p c:Nat} {R:Nat->Int} (hc:Ip x g m b s ab p) (hp:BV b=V) (hl:Ub g x.n x.n) (hcn:c<=x.n) (h5:R 5=2*g.wv)
  (h:∀j g',Uv x.n g c g'->j+Se x g'<=Pt x g+3*x.n+2+4*(x.n-c)+3->P (k+j) g'):Rn x.Ac x.Ab k ⟨p+30*x.n+3+4*c,⟨R,m⟩⟩ (Lq x P):=by
 obtain⟨yD,_,_⟩:=FX hc hp;refine Rn.Amb hx.hb hx.n6 hc.bi.1 yD c hcn (λc' j R' v h1 h2 h3 h4 hj h5' hv=>?_) λj R' h4 hj h5'=>?_
 .have h3':(g.q.A5 c').isSome=V:=by rw[h3];rfl
  refine⟨{g with ph:=.pu c'},⟨h2,h3',hl,b,s,ab,p,hc.ph _ _,hp,rfl,AC,AC⟩,h j _ (.pu c' h1 h2 h3' h4) ?_⟩;show j+(Pt x g+3*x.n+2+4*(x.n-c'))<=_;omega
 .refine Rn.uS hx hc hp hl (c:=0) AC AC λj2 g' hr hle=>?_
  rw[Js];exact h (j+j2) g' (.stop g' h4 hr) Y
theorem Rn.ur (hx:OE x) {g:Gt} {m:C8} {b s:Bj} {ab p c:Nat} {R:Nat->Int} (hc:Ip x g m b s ab p) (hp:BV b=V) (hl:Ub g x.n x.n) (hcn:c<=x.n) (h5:R 5=2*g.wv)
  (h:∀j g',RU x.n g c g'->j+Se x g'<=Pt x g+7*x.n+5+14*(x.n-c)+4->P (k+j) g'):Rn x.Ac x.Ab k ⟨p+16*x.n+3+14*c,⟨R,m⟩⟩ (Lq x P):=by
 obtain⟨yD,_,_⟩:=FX hc hp;refine Rn.Aj2 hx.hb hx.n6 hc.bi.1 yD c hcn (λc' j R' h1 h2 h3 h4 hj h5'=>?_) λj R' h4 hj h5'=>?_
 .have h3a:(g.rd c').isSome=V:=by cases hx:(g.rd c').isSome<;>simp_all
  have h3b:(g.BE c').isSome=I:=by cases hx:(g.BE c').isSome<;>simp_all
  refine⟨{g with ph:=.lo c'},⟨h2,h3a,h3b,hl,b,s,ab,p,hc.ph _ _,hp,rfl,AC⟩,h j _ (.lo c' h1 h2 h3 h4) ?_⟩;show j+(Pt x g+3*x.n+2+4*x.n+3+14*(x.n-c'))<=_;omega
 .refine Rn.tV hx hc hp hl (c:=0) AC AC λj2 g' hr hle=>?_
  rw[Js];exact h (j+j2) g' (.stop g' h4 hr) Y
theorem Rn.uv (hx:OE x) {g:Gt} {m:C8} {b s:Bj} {ab p c:Nat} {R:Nat->Int} (hc:Ip x g m b s ab p) (hp:BV b=V) (hl:Ub g x.n c) (hcn:c<=x.n)
  (h:∀j g',Ty x.n g c g'->j+Se x g'<=Pt x g+21*x.n+12+16*(x.n-c)+2->P (k+j) g'):Rn x.Ac x.Ab k ⟨p+16*c,⟨R,m⟩⟩ (Lq x P):=by
 obtain⟨yD,_,_⟩:=FX hc hp;refine Rn.D1 hx.hb hx.n6 hc.bi.1 yD c hcn (λc' j R' h1 h2 h3 h4 hj=>?_) λj R' h4 hj=>?_
 .refine⟨{g with ph:=.ZE c'},⟨h2,h3,λd hd=>?_,b,s,ab,p,hc.ph _ _,hp,rfl⟩,h j _ (.lk c' h1 h2 h3 h4) ?_⟩;grind [hl d hd]
  .show j+(Pt x g+3*x.n+2+4*x.n+3+14*x.n+7+16*(x.n-c'))<=_;omega
 .refine⟨{g with ph:=.xa},⟨λd hd=>?_,b,s,ab,p,hc.ph _ _,hp,rfl⟩,h j _ (.xa h4) ?_⟩;grind [hl d hd]
  .show j+(Pt x g+3*x.n+2+4*x.n+3+14*x.n+7)<=_;omega
structure Bak (x:Cx) (g:Gt) (m:C8) (b s:Bj) (ab z C4:Nat):Prop where
 Ao:W0 x g b s
 mt:Mt x.n x.cells g.B g.rd g.BE g.q m
 GB:DQ x.Ab (rz z (Fv x.Ac x.n C4 ab)) ab
 tp:DQ x.Ab (rz ab (Ld x.Ac x.n C4)) C4
 MP:PK x.Ac x.n x.Ab ab (.rest b (.Ao b s g.q0.k)) (C4+(Ld x.Ac x.n C4).length)
theorem Ai3 {ab:Nat} (hb:W0 x g b s) (hm:Mt x.n x.cells g.B g.rd g.BE g.q m) (hp:PK x.Ac x.n x.Ab ab (.Ao b s g.q0.k) p):∃z C4,Bak x g m b s ab z C4:=by
 have XI:=hp;obtain⟨Px,z,C4,pe,e1,e2,e3,e4,e5,e6,e7,e8⟩:=XI;rw[CE,CE,Bx,Bx,CO] at e2;refine⟨z,C4,hb,hm,e6,e2.1.1,e2.1.2,?_⟩;rw[show(KK.Ao b s g.q0.k).Ah=g.q0.k.Ah from rfl,show(KK.Ao b s g.q0.k).C7=V from rfl,<-e1];exact hp
theorem Rn.vi (hx:OE x) {g:Gt} {m:C8} {b s:Bj} {ab z C4 c:Nat} {R:Nat->Int} (hb:Bak x g m b s ab z C4) (hcn:c<=x.n)
  (h:∀j g',Fk x.n g c g'->j+Se x g'<=C9 g.q0+4*(x.n-c)+3->P (k+j) g'):Rn x.Ac x.Ab k ⟨ab+4*c,⟨R,m⟩⟩ (Lq x P):=by
 have hi:g.q.k.C7=V:=VL hb.Ao.bo;have MY:=(hb.mt.bi hi).1;have hk:=hb.GB;unfold Fv at hk;simp only[CE,Bx,CO,GT,Ed (WR x.Ac),Ed (f:=Ri x.Ac) (L:=2) (λ_ _=>rfl)] at hk;obtain⟨⟨k1,k2⟩,k3⟩:=hk;have k3':=(A9.1 k3).1;refine Rn.Fc hx.hb hx.n6 MY k1 c hcn (λc' j R' v h1 h2 h3 h4 hj hv=>?_) λj R' h4 hj=>?_
 .have h3':(g.BE c').isSome=V:=by rw[h3];rfl
  refine⟨{g with ph:=.ba c'},⟨h2,AC,b,s,ab,z,C4,hb.Ao.ph _ _ _,hb.mt,hb.GB,hb.tp,hb.MP,rfl⟩,h j _ (.ba c' h1 h2 h3' h4) ?_⟩;show j+(C9 g.q0+4*(x.n-c'))<=_;omega
 .refine Rn.AK hx.hb k2 λR1=>?_
  refine Rn.GN (t:=(C4:Int)) ?_ ?_
  .rw[show ab+4*x.n+8=ab+(4*x.n+2*4) by omega];exact k3'
  refine Rn.C4 (b:=b) (s:=s) (k:=g.q0.k) (ab:=ab) hx.hb hx.n6 hb.tp hb.MP (λi hi=>(WN m.AX m.Gs hi).symm) λlt' hc hl hr=>?_
  have h0:=Zg g.q0;rw[hb.Ao.oA] at h0;simp only[NB] at h0;have hn6:=hx.n6;refine⟨Alk g,⟨b,s,ab,hb.Ao.oA,hb.Ao.nb,hb.Ao.wf,hc,λi hi=>?_,λd hd=>?_,rfl,rfl⟩,?_⟩
  .rw[hl];exact(WN m.AX m.Gs hi).trans (MY.Gs i hi)
  .rw[hr];exact(hb.mt.R d (JQ hd (aL hb.Ao.bo))).trans (hb.Ao.rp d hd)
  .have e:k+j+8+1+3*x.n+1=k+(j+(3*x.n+10)):=Y
   rw[e];refine h _ _ (.Po h4) ?_;show _+(C9 g.q0-27)<=_;omega
theorem Rn.BC (hx:OE x) {g:Gt} {lt:LT} {b s:Bj} {ab:Nat} (hb:W0 x g b s) (hp:PK x.Ac x.n x.Ab ab (.rest g.q.s g.q.k) lt.pc) (hm:Mt x.n x.cells g.B g.rd g.BE g.q lt.x.m) (hl:g.BE=D9)
  (h:∀j g',sV x.n b g g'->j+Se x g'<=C9 g.q->P (k+j) g'):Rn x.Ac x.Ab k lt (Lq x P):=by
 obtain⟨j,lt',q',hr,hk,hs,hle⟩:=dG hx.hb hx.hn hx.h6 (C9 g.q) AC hp hm;refine Rn.AjD hr ?_;have eC:q'.k.C7=V:=hk.C7.trans (VL hb.bo);have hB:∀ph,W0 x {g with ph:=ph,q:=q'} b s:=λph=>⟨hb.oA,hb.nb,hb.wf,(hk.Ao hb.bo).1,λd hd=>((hk.Ao hb.bo).2 d hd).trans (hb.rp d hd)⟩
 have Ol:=Zg q';cases hs with
 |halt _ LS _=>rw[LS] at eC;cases eC
 |out LS _ _ _ _ _=>rw[eC] at LS;cases LS
 |Po _ LS _ _ _ _=>rw[eC] at LS;cases LS
 |CS ht hc yw=>
  refine Rn.Bd ⟨{g with ph:=.node,q:=q'},⟨⟨ab,g.B,g.rd,g.BE,.CS ht hc yw⟩,AC,AC,hl⟩,h j _ (.CS q' hk (by rw[ht];simp)) ?_⟩;show j+(C9 q'-NB q'.s)<=_;omega
 |get hs LS ha hc hn hg Tm h0 eA=>
  rename_i v f z a r c p0;refine Rn.Bd ⟨{g with ph:=.M0 c,q:=q'},⟨b,s,ab,p0,v,r,⟨hB _,eA,hl,⟨f,z,a,hs,ha.1,ha.2,hc⟩,hn,hg⟩,Tm,h0⟩,h j _ (.get q' c hk) ?_⟩;show j+(C9 q'-9)<=_;rw[hs] at Ol hle;grind [NB]
 |DU hs LS XI eA=>
  rename_i b' s' k';have hbo:=(hB .node).bo;have Ak1:q'.k.OC=U (b,s,g.q0.k):=hbo;rw[LS] at Ak1;cases Ak1;obtain⟨p,R,m⟩:=lt';have hc:Ip x {g with ph:=.node,q:=q'} m b s ab p:=⟨hB _,eA,hs,LS,XI⟩;have AmD:C9 q'=320+C9 (BR g.q0 q'):=by
   rw[show BR g.q0 q'=⟨s,g.q0.k,q'.L,q'.R,D9,[]⟩ by unfold BR;rw[hb.oA]];grind [C9,KC,AW]
  have ho8:=hc.bi.2;have Aob:J q'.o<=8:=ho8;have hn6:=hx.n6;rw[hs] at hle;simp only[NB] at hle;cases MS:BV b with
  |true=>
   refine Rn.uv hx hc MS (c:=0) (λd hd=>by show(g.BE d).isSome=_;rw[hl];simp[D9]) AC λj2 g' Lz Aiu=>?_
   rw[Js];refine h (j+j2) g' (.Wm q' g' hk ⟨hs,_,_,_,LS⟩ MS ?_) ?_
   .cases Lz with
    |lk c' h1 h2 h3 h4=>exact .lk c' h1 h2 h3 h4
    |xa h1=>exact .xa h1
   grind [Pt]
  |false=>
   have ht:GD x.n p b=p:=by grind [GD]
   obtain⟨Px,z,C4,pe,e1,e2,e3,e4,e5,e6,e7,e8⟩:=XI;rw[CE,Bx,CO,GT,<-Js] at e2;have e2':=e2.2;rw[<-e1] at e2';unfold RE at e2';rw[MS] at e2';refine Rn.Agx (p:=p) e2' λR1 h1=>?_
   have:=Rn.fT (P:=P) (k:=k+j+1) hx hc (i:=0) AC h1 λj2 g' Lz Aiu=>?_
   grind
   .rw[Js,Js];refine h (j+(1+j2)) g' (.GR q' g' hk ⟨hs,_,_,_,LS⟩ MS ?_) ?_
    .cases Lz with
     |te h1=>exact .te h1
     |out q2 h1 h2=>exact .out q2 h1 h2
    grind
end
inductive Ek where
 |ld (d A:Nat)
 |st (A:Nat) (v:Int)
 |La (d A:Nat) (a b:Int)
 |El (d A:Nat) (v:Int)
 |out (v:Int)
 |stop (t:Int)
def bh (a:Int):Option Nat:=if 0<=a/\a<32 then U a.toNat else Z
def evk:GI->XS->Option Ek
 |.load d a k,x=>(bh (wrap64 (Ey x.R a+k))).map (.ld d.toNat ·)
 |.store a k b,x=>(bh (wrap64 (Ey x.R a+k))).map (.st · (Ey x.R b))
 |.La d a k b c,x=>(bh (wrap64 (Ey x.R a+k))).map (.La d.toNat · (Ey x.R b) (Ey x.R c))
 |.El d a k b,x=>(bh (wrap64 (Ey x.R a+k))).map (.El d.toNat · (Ey x.R b))
 |.out a,x=>U (.out (Ey x.R a))
 |.CS t,_=>U (.stop t)
 |.halt,_=>U (.stop 10)
 |.op ..,_=>U (.stop 1)
 |_,_=>Z
def PN (g:Gt):Option Ek:=match g.ph with
 |.node=>match g.q.s with
  |.nil=>U (.stop 10)
  |.out a _=>if g.q.k.C7 then Z else U (.out (DW g.q.L a))
  |_=>(Br g.q).map .stop
 |.Po=>U (.ld 1 16)
 |.M0 c=>U (.ld 2 (8+c))
 |.F2 c _=>U (.ld 1 c)
 |.Gw c _ _=>U (.ld 3 (8+c))
 |.ZE c=>U (.ld 2 (8+c))
 |.XG c lv=>U (.La 3 (8+c) lv (lv+1))
 |.xa=>U (.El 5 16 1)
 |.lo c=>U (.ld 2 (8+c))
 |.pu c=>(g.q.A5 c).map (.st c ·)
 |.fr c=>U (.st (8+c) (2*g.wv))
 |.te i=>(g.q.o[i]?).map .out
 |.ba c=>(g.BE c).map (.st (8+c) ·)
def TO (e:Ek) (v:Int) (lt:LT):LT:=match e with
 |.ld d _=>⟨lt.pc+1,⟨CA lt.x.R d v,lt.x.m⟩⟩
 |.La d _ _ _=>⟨lt.pc+1,⟨CA lt.x.R d v,lt.x.m⟩⟩
 |.El d _ _=>⟨lt.pc+1,⟨CA lt.x.R d v,lt.x.m⟩⟩
 |_=>⟨lt.pc+1,lt.x⟩
theorem gd {a:Int} (n:Nat) (h:a=n) (hn:n<32):bh (wrap64 a)=U n:=by
 rw[ER Y Y];grind [bh]
theorem ug {Ac:Int} (hb:Bs Ac) {a:Int} (n:Nat) (h:a=n) (hn:n<32):Pv Ac (wrap64 a)=Z:=by
 obtain⟨h1,h2⟩:=hb;rw[ER Y Y];unfold Pv;rw[In Y]
section
variable {Ac:Int} (hb:Bs Ac) {x:XS}
include hb
theorem df {k:Int} (n:Nat) (h:Ey x.R a+k=n) (hn:n<32):cj Ac (.load d a k) x=Z/\evk (.load d a k) x=U (.ld d.toNat n):=
 ⟨by show(Pv Ac (wrap64 (Ey x.R a+k))).map _=Z;rw[ug hb n h hn];rfl,by show(bh (wrap64 (Ey x.R a+k))).map _=_;rw[gd n h hn];rfl⟩
theorem AaX {k:Int} {b:Ag} (n:Nat) (h:Ey x.R a+k=n) (hn:n<32):cj Ac (.store a k b) x=Z/\evk (.store a k b) x=U (.st n (Ey x.R b)):=
 ⟨by show(Pv Ac (wrap64 (Ey x.R a+k))).map _=Z;rw[ug hb n h hn];rfl,by show(bh (wrap64 (Ey x.R a+k))).map _=_;rw[gd n h hn];rfl⟩
end
theorem Og {Ac:Int} {n:Nat} {Ab:List GI} {ab:Nat} (h:CP Ac n Ab ab p) (hc:c<n):Ab[p+16*c+2]?=U (.load 2 (.n (8+c)) 0)/\Ab[p+16*c+12]?=U (.La 3 (.n (8+c)) 0 (.r 2) (.r 3))/\
  Ab[p+16*n+3+14*c+5]?=U (.load 2 (.n (8+c)) 0)/\Ab[p+30*n+3+4*c+3]?=U (.store (.n c) 0 (.r 2))/\Ab[p+34*n+3+3*c+2]?=U (.store (.n (8+c)) 0 (.r 5)):=by
 have h1:=KA (LO Ac) h.Wm hc;have h2:=KA (Oh Ac) h.x8 hc;have h3:=KA (U3 Ac) h.put hc;have h4:=KA (Ss Ac) h.free hc;exact⟨h1 2 _ rfl,h1 12 _ rfl,h2 5 _ rfl,h3 3 _ rfl,h4 2 _ rfl⟩
theorem iD {x:Cx} (hx:OE x) {g:Gt} {lt:LT} (h:L0 x g lt):∃i e,x.Ab[lt.pc]?=U i/\cj x.Ac i lt.x=Z/\evk i lt.x=U e/\PN g=U e:=by
 have h6:=hx.n6;obtain⟨ph,q0,q,rd,BE,rv,wv⟩:=g;unfold L0 at h;unfold PN;cases ph with
 |node=>
  obtain⟨⟨ab,B,rd',lkd',hs⟩,h1,h2,_⟩:=h;cases hs with
  |halt hs hk hc=>exact⟨_,_,hc,rfl,rfl,by show(match q.s with|.nil=>_|.out a _=>_|_=>_)=_;rw[show q.s=.nil from hs]⟩
  |out hk hs hc hg hp hm=>exact⟨_,_,hc,rfl,rfl,AC⟩
  |CS ht hc hi=>
   rename_i t i;have e:PN ⟨.node,q0,q,rd,BE,rv,wv⟩=U (.stop t):=by
    have IJ:Br q=U t:=ht;grind [PN,Br]
   rcases hi with⟨rfl,rfl⟩|⟨o,d,a,b,rfl,hm,rfl⟩
   .exact⟨_,_,hc,rfl,rfl,e⟩
   .refine⟨_,_,hc,?_,rfl,e⟩;show(BP o (Ey lt.x.R a) (Ey lt.x.R b)).map _=Z;rw[hm];rfl
  |Po hs hk _ _ _ _=>grind
  |get hs hk ha _ _ _ _ _ _=>
   grind [Br]
  |DU hs hk _ _=>
   refine Jk ?_ (h1 (by rw[hk];rfl)).1;unfold Br;rw[hs]
 |Po=>
  obtain⟨b,s,ab,_,_,_,hc,_⟩:=h;have:=df hx.hb (x:=lt.x) (d:=1) (a:=.n 16) (k:=0) 16 rfl Do;grind [vM]
 |M0 c=>
  obtain⟨b,s,ab,p0,v,r,hg,hp,h0⟩:=h;have hc:=hg.MP.get 4 _ rfl;have:=df hx.hb (x:=lt.x) (d:=2) (a:=.r 0) (k:=8) (8+c) (by rw[nj];grind) (by have:=hg.MP.lt;omega);exact nat
 |F2 c lv=>
  obtain⟨⟨b,s,ab,p0,v,r,hg,hp,h0,_⟩,_⟩:=h;have hc:=hg.MP.get 13 _ rfl;have:=df hx.hb (x:=lt.x) (d:=1) (a:=.r 0) (k:=0) c (by rw[nj];grind) (by have:=hg.MP.lt;omega);exact nat
 |Gw c lv y=>
  obtain⟨⟨b,s,ab,p0,v,r,hg,hp,h0,_⟩,_⟩:=h;have hc:=hg.MP.get 14 _ rfl;have:=df hx.hb (x:=lt.x) (d:=3) (a:=.r 0) (k:=8) (8+c) (by rw[nj];grind) (by have:=hg.MP.lt;omega);exact nat
 |ZE c=>
  obtain⟨hc,_,_,b,s,ab,p,hC,MS,hp⟩:=h;have:=df hx.hb (x:=lt.x) (d:=2) (a:=.n (8+c)) (k:=0) (8+c) (by rw[Es];omega) Y;exact⟨_,_,by rw[hp];exact(Og (FX hC MS).1 hc).1,this.1,this.2,rfl⟩
 |XG c lv=>
  obtain⟨hc,_,_,_,b,s,ab,p,hC,MS,hp,h2,h3⟩:=h;refine⟨_,_,by rw[hp];exact(Og (FX hC MS).1 hc).2.1,rfl,?_,rfl⟩;show(bh (wrap64 (8+(c:Int)+0))).map _=_;rw[gd (8+c) Y Y];show U (Ek.La 3 (8+c) (lt.x.R 2) (lt.x.R 3))=_;rw[h2,h3]
 |xa=>
  obtain⟨_,b,s,ab,p,hC,MS,hp⟩:=h;exact⟨_,.El 5 16 1,by rw[hp];exact(FX hC MS).1.b0,rfl,by show(bh (wrap64 (16+0))).map _=_;rw[gd (a:=16+0) 16 rfl Do];rfl,rfl⟩
 |lo c=>
  obtain⟨hc,_,_,_,b,s,ab,p,hC,MS,hp,_⟩:=h;have:=df hx.hb (x:=lt.x) (d:=2) (a:=.n (8+c)) (k:=0) (8+c) (by rw[Es];omega) Y;exact⟨_,_,by rw[hp];exact(Og (FX hC MS).1 hc).2.2.1,this.1,this.2,rfl⟩
 |pu c=>
  obtain⟨hc,_,_,b,s,ab,p,hC,MS,hp,_,hm⟩:=h;have:=AaX hx.hb (x:=lt.x) (a:=.n c) (k:=0) (b:=.r 2) c (by rw[Es];omega) Y;refine⟨_,_,by rw[hp];exact(Og (FX hC MS).1 hc).2.2.2.1,this.1,this.2,?_⟩;show(q.A5 c).map _=_;rw[show q.A5 c=_ from hm];rfl
 |fr c=>
  obtain⟨hc,_,_,b,s,ab,p,hC,MS,hp,h5⟩:=h;have:=AaX hx.hb (x:=lt.x) (a:=.n (8+c)) (k:=0) (b:=.r 5) (8+c) (by rw[Es];omega) Y;refine⟨_,_,by rw[hp];exact(Og (FX hC MS).1 hc).2.2.2.2,this.1,this.2,?_⟩;show U (Ek.st (8+c) (2*wv))=U (.st (8+c) (lt.x.R 5));rw[h5]
 |te i=>
  obtain⟨b,s,ab,p,hC,hp,_,ho⟩:=h;obtain⟨Px,z,C4,pe,e1,e2,e3,e4,e5,e6,e7,e8⟩:=hC.MP;rw[CE,Bx] at e2;have:=e2.2;rw[CO,GT,<-Js,<-e1] at this;unfold RE at this;rw[CE,Bx,CO] at this;have h2:=this.2;have e:p+(if BV b=V then FV x.Ac x.n p else []).length=GD x.n p b:=by
   grind [GD,Gh]
  rw[e] at h2;refine⟨_,_,by rw[hp];exact h2 5 _ rfl,rfl,rfl,?_⟩;show(q.o[i]?).map _=_;rw[show q.o[i]?=_ from ho];rfl
 |ba c=>
  obtain⟨hc,hl,b,s,ab,z,C4,_,_,eG,_,_,hp⟩:=h;have:=AaX hx.hb (x:=lt.x) (a:=.n (8+c)) (k:=0) (b:=.r 2) (8+c) (by rw[Es];omega) Y;unfold Fv at eG;rw[CE,CE,Bx,Bx] at eG;have hk:=KA (WR x.Ac) eG.1.1 hc 3 _ rfl;refine⟨_,_,by rw[hp];exact hk,this.1,this.2,?_⟩;show(BE c).map _=_;rw[show BE c=_ from hl];rfl
def gX (q:KS) (y:Int):KS:=match q.s with
 |.get v _ _ _ r=>{q with s:=r,L:=CA q.L v.toNat y}
 |_=>q
def KI (q:KS):KS:=match q.s with
 |.out a r=>{q with s:=r,o:=q.o++[DW q.L a]}
 |_=>q
def opn (g:Gt) (v:Int):Prop:=∃w,v=2*w/\0<=w/\w<=g.rv
inductive Nx (n:Nat) (g:Gt) (v:Int):Bool->Gt->Prop
 |out (h:g.ph=.node) (q':KS) (k:IC D9 (KI g.q) q'):Nx n g v I (DN q')
 |Po (h:g.ph=.Po) {b s:Bj} (h0:g.q0.s=.atomic b s) (g':Gt) (r:sV n b ⟨.node,g.q0,Cw g.q0,D9,D9,v,0⟩ g'):Nx n g v I g'
 |M0 {c:Nat} (h:g.ph=.M0 c) (hv:opn g v):Nx n g v I {g with ph:=.F2 c v}
 |uR {c:Nat} (h:g.ph=.M0 c) (hv:¬opn g v) (g':Gt) (r:Fk n g 0 g'):Nx n g v V g'
 |F2 {c:Nat} {lv:Int} (h:g.ph=.F2 c lv):Nx n g v I {g with ph:=.Gw c lv v}
 |Gw {c:Nat} {lv y:Int} (h:g.ph=.Gw c lv y) (hv:v=lv) {b s:Bj} (h0:g.q0.s=.atomic b s) (g':Gt) (r:sV n b {g with ph:=.node,q:=gX g.q y,rd:=Fo g.rd c y} g'):Nx n g v I g'
 |uQ {c:Nat} {lv y:Int} (h:g.ph=.Gw c lv y) (hv:v≠lv) (g':Gt) (r:Fk n g 0 g'):Nx n g v V g'
 |ZE {c:Nat} (h:g.ph=.ZE c) (hv:opn g v):Nx n g v I {g with ph:=.XG c v}
 |Afi {c:Nat} (h:g.ph=.ZE c) (hv:¬opn g v) (g':Gt) (r:Fk n g 0 g'):Nx n g v V g'
 |XG {c:Nat} {lv:Int} (h:g.ph=.XG c lv) (hv:v≠0) (g':Gt) (r:Ty n {g with BE:=Fo g.BE c lv} (c+1) g'):Nx n g v I g'
 |Afh {c:Nat} {lv:Int} (h:g.ph=.XG c lv) (hv:v=0) (g':Gt) (r:Fk n g 0 g'):Nx n g v V g'
 |xa (h:g.ph=.xa) (g':Gt) (r:RU n {g with wv:=v+1} 0 g'):Nx n g v I g'
 |lo {c:Nat} (h:g.ph=.lo c) (hv:opn g v) (g':Gt) (r:RU n g (c+1) g'):Nx n g v I g'
 |lob {c:Nat} (h:g.ph=.lo c) (hv:¬opn g v) (g':Gt) (r:Fk n g 0 g'):Nx n g v V g'
 |pu {c:Nat} (h:g.ph=.pu c) (g':Gt) (r:Uv n g (c+1) g'):Nx n g v I g'
 |fr {c:Nat} (h:g.ph=.fr c) (g':Gt) (r:My n g (c+1) g'):Nx n g v I g'
 |te {i:Nat} (h:g.ph=.te i) (g':Gt) (r:Lp g (i+1) g'):Nx n g v I g'
 |ba {c:Nat} (h:g.ph=.ba c) (g':Gt) (r:Fk n g (c+1) g'):Nx n g v I g'
def Nq (x:Cx) (g:Gt) (v:Int) (j:Nat) (g':Gt):Prop:=∃bad,Nx x.n g v bad g'/\(if bad then j+Se x g'<=C9 g.q0+40 else j+1+Se x g'<=Se x g)
section
variable {x:Cx} (hx:OE x) {g:Gt} {lt:LT}
include hx
theorem Vc {ab k:Nat} (hb:W0 x g b s) (hm:Mt x.n x.cells g.B g.rd g.BE g.q m) (hp:PK x.Ac x.n x.Ab ab (.Ao b s g.q0.k) p) (hk:k<=9) (hN:∀g',Fk x.n g 0 g'->Nx x.n g v V g'):
  Rn x.Ac x.Ab k ⟨ab,⟨R,m⟩⟩ (Lq x (Nq x g v)):=by
 obtain⟨z,C4,hB⟩:=Ai3 hb hm hp;have h6:=hx.n6;have:=Rn.vi (P:=Nq x g v) (k:=k) (R:=R) hx hB (c:=0) AC λj g' hr hle=>⟨V,AC,AC⟩
 exact this
omit hx in
theorem AbF {ab:Nat} {r:Bj} (h:cJ x g m b s ab c p0 v r):∃p,PK x.Ac x.n x.Ab ab (.Ao b s g.q0.k) p:=gu (k:=.rest r g.q.k) h.MP.MP h.Ao.bo
theorem AeT (BM:g.ph=.M0 c) (h:L0 x g lt) {v:Int} (hv:0<=v/\v<3000000000000000000):Rn x.Ac x.Ab 0 (TO (.ld 2 (8+c)) v lt) (Lq x (Nq x g v)):=by
 obtain⟨ph,q0,q,rd,BE,rv,wv⟩:=g;cases BM;obtain⟨b,s,ab,p0,w,r,hg,hp,h0⟩:=h;obtain⟨pc,R,m⟩:=lt;cases hp;obtain⟨p,XH⟩:=AbF hg;have Ay:m.start=rv:=(hg.mt.bi (VL hg.Ao.bo)).1.start;show Rn x.Ac x.Ab 0 ⟨p0+4+1,⟨CA R 2 v,m⟩⟩ _;refine Rn.F2 hx.hb hg.MP.get (c:=c) ((BA R v (i:=2) (j:=0) Do).trans h0) (BK _ _ _) AC Ay (λSN j R' hj=>Vc hx hg.Ao hg.mt XH Y λg' hr=> .uR rfl (by exact SN) g' hr) λu e1 e2 e3 R' r0 r2=>Rn.Bd ?_
 have ho:opn ⟨.M0 c,q0,q,rd,BE,rv,wv⟩ v:=⟨u,e1,e2,e3⟩;refine⟨⟨.F2 c v,q0,q,rd,BE,rv,wv⟩,⟨⟨b,s,ab,p0,w,r,⟨⟨hg.Ao.oA,hg.Ao.nb,hg.Ao.wf,hg.Ao.bo,hg.Ao.rp⟩,hg.mt,hg.BE,hg.stm,hg.A5,hg.MP⟩,rfl,r0,r2⟩,ho⟩,I,.M0 rfl ho,?_⟩;show 0+8+1+(C9 q-18)<=C9 q-9;have:60<=C9 q:=by
  grind [C9,KC,AW,cJ]
 omega
theorem AeS (BM:g.ph=.F2 c lv) (h:L0 x g lt) {v:Int}:Rn x.Ac x.Ab 0 (TO (.ld 1 c) v lt) (Lq x (Nq x g v)):=by
 have _:=hx;obtain⟨ph,q0,q,rd,BE,rv,wv⟩:=g;cases BM;obtain⟨⟨b,s,ab,p0,w,r,hg,hp,h0,h2⟩,ho⟩:=h;obtain⟨pc,R,m⟩:=lt;cases hp;refine Rn.Bd ⟨⟨.Gw c lv v,q0,q,rd,BE,rv,wv⟩,⟨⟨b,s,ab,p0,w,r,⟨⟨hg.Ao.oA,hg.Ao.nb,hg.Ao.wf,hg.Ao.bo,hg.Ao.rp⟩,hg.mt,hg.BE,hg.stm,hg.A5,hg.MP⟩,rfl,(BA R v (i:=1) (j:=0) Do).trans h0,(BA R v (i:=1) (j:=2) Do).trans h2,BK R 1 v⟩,ho⟩,I,.F2 rfl,?_⟩;show 0+1+(C9 q-19)<=C9 q-18;have:60<=C9 q:=by
  grind [C9,KC,AW,cJ]
 omega
theorem AeR {y:Int} (BM:g.ph=.Gw c lv y) (h:L0 x g lt) {v:Int}:Rn x.Ac x.Ab 0 (TO (.ld 3 (8+c)) v lt) (Lq x (Nq x g v)):=by
 obtain⟨ph,q0,q,rd,BE,rv,wv⟩:=g;cases BM;obtain⟨⟨b,s,ab,p0,w,r,hg,hp,h0,h2,h1⟩,ho⟩:=h;obtain⟨pc,R,m⟩:=lt;cases hp;obtain⟨p,XH⟩:=AbF hg;have AmU:=VL hg.Ao.bo;have h6:=hx.n6;have hcn:=hg.MP.lt;obtain⟨f,z,a,hs,ha1,ha2,hc⟩:=hg.stm;obtain⟨MY,uC⟩:=hg.mt.bi AmU;have hwf:=hg.mt.wf;show Rn x.Ac x.Ab 0 ⟨p0+14+1,⟨CA R 3 v,m⟩⟩ _;refine Rn.Gw hx.hb hg.MP.get (c:=c) (lv:=lv) (lw:=v) (x:=y) Y ((BA R v (i:=3) (j:=0) Do).trans h0) ((BA R v (i:=3) (j:=1) Do).trans h1) ((BA R v (i:=3) (j:=2) Do).trans h2) (BK _ _ _) (λhne R'=>Vc hx hg.Ao hg.mt XH Y λg' hr=> .uQ rfl hne g' hr) λhe R' hR1=>?_
 have iV:q.s=.get w f z a r:=hs;have K7:NP x.cells q.R (.rest q.s q.k):=hwf;rw[iV] at K7;obtain⟨⟨⟨Fi,No,Ln,bR,bq⟩,hA⟩,hk⟩:=K7;have hgq:gX q y={q with s:=r,L:=CA q.L w.toNat y}:=by unfold gX;rw[iV]
 have AmQ:BE=D9:=hg.BE;have Vx:BI x.n ⟨q0.L,rv⟩ {m with rd:=CA m.rd c 1} q.A5 (Fo rd c y) BE q.o:=⟨MY.Gs,MY.start,MY.wr0,MY.vP,λd hd=>by
   grind [Fo,BK,BA,BI],MY.lk0,MY.oy,MY.cnt,MY.Al⟩
 have hmt:Mt x.n x.cells ⟨q0.L,rv⟩ (Fo rd c y) BE q {m with rd:=CA m.rd c 1}:=⟨hg.mt.L,hg.mt.R,hg.mt.wf,AC⟩;have AmM:=hmt.AeB (v:=w.toNat) (x:=y) (r:=r) ⟨bq,hA⟩ (by rw[iV];exact Jf _);refine Rn.st hx.hb w.toNat (.AX w.toNat) (v:=y) hg.MP.st (O7 Y) (by rw[nj];exact hR1) ?_;refine Rn.BC (g:=⟨.node,q0,gX q y,Fo rd c y,BE,rv,wv⟩) hx (b:=b) (s:=s) (ab:=ab) ⟨hg.Ao.oA,hg.Ao.nb,hg.Ao.wf,?_,?_⟩ ?_ ?_ AmQ λj g' hr hle=>⟨I,.Gw rfl he hg.Ao.oA g' hr,?_⟩
 grind [hg.Ao.bo]
 .show∀d,d<q0.k.Ah->(gX q y).R d=_;rw[hgq];exact hg.Ao.rp
 grind [hg.MP.MP]
 .show Mt x.n x.cells ⟨q0.L,rv⟩ (Fo rd c y) BE (gX q y) _;rw[hgq];exact AmM
 grind [C9,KC,AW,Se]
omit hx in
theorem AdC {m':C8} {ab:Nat} (h:Ip x g m b s ab p) (ph:Ph) (BE:Nat->Option Int) (hm:Mt x.n x.cells g.B g.rd BE g.q m'):Ip x {g with ph:=ph,BE:=BE} m' b s ab p:=⟨h.Ao.ph ph BE g.wv,hm,h.s0,h.k0,h.MP⟩
theorem AhJ (BM:g.ph=.ZE c) (h:L0 x g lt) {v:Int} (hv:0<=v/\v<3000000000000000000):Rn x.Ac x.Ab 0 (TO (.ld 2 (8+c)) v lt) (Lq x (Nq x g v)):=by
 obtain⟨ph,q0,q,rd,BE,rv,wv⟩:=g;cases BM;obtain⟨hc,uD,GY,b,s,ab,p,hC,MS,hp⟩:=h;obtain⟨pc,R,m⟩:=lt;cases hp;show Rn x.Ac x.Ab 0 ⟨p+16*c+2+1,⟨CA R 2 v,m⟩⟩ _;refine Rn.Aj5 hx.hb (FX hC MS).1 hc (lv:=v) (rv:=rv) (BK _ _ _) AC hC.start (λSN j R' hj=>Vc hx hC.Ao hC.mt hC.MP Y λg' hr=> .Afi rfl (by exact SN) g' hr) λw R' e1 e2 e3 r2 r3=>?_
 have ho:opn ⟨.ZE c,q0,q,rd,BE,rv,wv⟩ v:=⟨w,e1,e2,e3⟩;refine⟨⟨.XG c v,q0,q,rd,BE,rv,wv⟩,⟨hc,uD,GY,ho,b,s,ab,p,hC.ph _ _,MS,rfl,r2,r3⟩,I,.ZE rfl ho,?_⟩;show 0+9+1+(Pt x ⟨.ZE c,q0,q,rd,BE,rv,wv⟩+3*x.n+2+4*x.n+3+14*x.n+7+16*(x.n-c)-10)<=Pt x ⟨.ZE c,q0,q,rd,BE,rv,wv⟩+3*x.n+2+4*x.n+3+14*x.n+7+16*(x.n-c);omega
theorem AhI (BM:g.ph=.XG c lv) (h:L0 x g lt) {v:Int}:Rn x.Ac x.Ab 0 (TO (.La 3 (8+c) lv (lv+1)) v lt) (Lq x (Nq x g v)):=by
 obtain⟨ph,q0,q,rd,BE,rv,wv⟩:=g;cases BM;obtain⟨hc,uD,GY,ho,b,s,ab,p,hC,MS,hp,h2,h3⟩:=h;obtain⟨pc,R,m⟩:=lt;cases hp;have h6:=hx.n6;show Rn x.Ac x.Ab 0 ⟨p+16*c+12+1,⟨CA R 3 v,m⟩⟩ _;refine Rn.Aj4 hx.hb hx.n6 (FX hC MS).1 hc (lv:=lv) ((BA R v (i:=3) (j:=2) Do).trans h2) (λh0=>Vc hx hC.Ao hC.mt hC.MP Y λg' hr=> .Afh rfl (by rw[BK] at h0;exact h0) g' hr) λh0=>?_
 rw[BK] at h0;obtain⟨MY,uC⟩:=hC.bi;have Aoi:(BE c).isSome=I:=by have:(BE c).isSome=_:=GY c hc;rw[this];simp
 have hm:Mt x.n x.cells ⟨q0.L,rv⟩ rd (Fo BE c lv) q {m with lk:=CA m.lk c 1,hd:=CA m.hd c lv}:=by
  refine⟨hC.mt.L,hC.mt.R,hC.mt.wf,λhb=>⟨⟨MY.Gs,MY.start,MY.wr0,MY.vP,MY.rd0,λd hd=>?_,λd u hd hu=>?_,MY.cnt,MY.Al⟩,(hC.mt.bi hb).2⟩⟩<;>grind [CA,Fo,BI]
 refine Rn.uv (g:=⟨.XG c lv,q0,q,rd,Fo BE c lv,rv,wv⟩) hx (AdC hC (.XG c lv) _ hm) MS (λd hd=>?_) Y λj g' hr hle=>⟨I,.XG rfl h0 g' ?_,?_⟩
 grind [Fo,GY d hd];grind;grind [Pt,Se]
theorem AjK (BM:g.ph=.xa) (h:L0 x g lt) {v:Int} (hv:0<=v/\v<3000000000000000000):Rn x.Ac x.Ab 0 (TO (.El 5 16 1) v lt) (Lq x (Nq x g v)):=by
 obtain⟨ph,q0,q,rd,BE,rv,wv⟩:=g;cases BM;obtain⟨GY,b,s,ab,p,hC,MS,hp⟩:=h;obtain⟨pc,R,m⟩:=lt;cases hp;show Rn x.Ac x.Ab 0 ⟨p+16*x.n+1,⟨CA R 5 v,m⟩⟩ _;refine Rn.Ai0 (FX hC MS).1 (BK R 5 v) Y λR' h5=>?_
 refine Rn.ur (g:=⟨.xa,q0,q,rd,BE,rv,v+1⟩) (c:=0) hx (hC.ph _ _) MS GY (Jo _) h5 λj g' hr hle=>⟨I,.xa rfl g' hr,?_⟩<;>grind [Pt,Se]
theorem AjN (BM:g.ph=.lo c) (h:L0 x g lt) {v:Int} (hv:0<=v/\v<3000000000000000000):Rn x.Ac x.Ab 0 (TO (.ld 2 (8+c)) v lt) (Lq x (Nq x g v)):=by
 obtain⟨ph,q0,q,rd,BE,rv,wv⟩:=g;cases BM;obtain⟨hc,hr1,Le,GY,b,s,ab,p,hC,MS,hp,h5⟩:=h;obtain⟨pc,R,m⟩:=lt;cases hp;show Rn x.Ac x.Ab 0 ⟨p+16*x.n+3+14*c+5+1,⟨CA R 2 v,m⟩⟩ _;refine Rn.Aj3 hx.hb (FX hC MS).1 hc (lv:=v) (rv:=rv) (BK _ _ _) AC hC.start (λSN j R' hj=>Vc hx hC.Ao hC.mt hC.MP Y λg' hr=> .lob rfl (by exact SN) g' hr) λw R' e1 e2 e3 r5=>?_
 refine Rn.ur (g:=⟨.lo c,q0,q,rd,BE,rv,wv⟩) (c:=c+1) hx hC MS GY Y (r5.trans ((BA R v (i:=2) (j:=5) Do).trans h5)) λj g' hr hle=>⟨I,.lo rfl ⟨w,e1,e2,e3⟩ g' hr,?_⟩<;>grind [Se,Pt]
theorem AjM (BM:g.ph=.pu c) (h:L0 x g lt) {v u:Int}:Rn x.Ac x.Ab 0 (TO (.st c u) v lt) (Lq x (Nq x g v)):=by
 obtain⟨ph,q0,q,rd,BE,rv,wv⟩:=g;cases BM;obtain⟨hc,uD,GY,b,s,ab,p,hC,MS,hp,h5,_⟩:=h;obtain⟨pc,R,m⟩:=lt;cases hp;show Rn x.Ac x.Ab 0 ⟨p+30*x.n+3+4*(c+1),⟨R,m⟩⟩ _;refine Rn.tV (g:=⟨.pu c,q0,q,rd,BE,rv,wv⟩) (c:=c+1) hx hC MS GY Y h5 λj g' hr hle=>⟨I,.pu rfl g' hr,?_⟩<;>grind [Se,Pt]
theorem AjO (BM:g.ph=.fr c) (h:L0 x g lt) {v u:Int}:Rn x.Ac x.Ab 0 (TO (.st (8+c) u) v lt) (Lq x (Nq x g v)):=by
 obtain⟨ph,q0,q,rd,BE,rv,wv⟩:=g;cases BM;obtain⟨hc,uD,GY,b,s,ab,p,hC,MS,hp,h5⟩:=h;obtain⟨pc,R,m⟩:=lt;cases hp;show Rn x.Ac x.Ab 0 ⟨p+34*x.n+3+3*(c+1),⟨R,m⟩⟩ _;refine Rn.uS (g:=⟨.fr c,q0,q,rd,BE,rv,wv⟩) (c:=c+1) hx hC MS GY Y h5 λj g' hr hle=>⟨I,.fr rfl g' hr,?_⟩<;>grind [Se,Pt]
omit hx in
theorem wg {ab:Nat} (hc:Ip x g m b s ab p):DQ x.Ab (rz ab (L5 x.Ac (GD x.n p b))) (GD x.n p b):=by
 obtain⟨Px,z,C4,pe,e1,e2,e3,e4,e5,e6,e7,e8⟩:=hc.MP<;>grind [CE,Bx,CO,RE,GD,Gh]
theorem AjL {i:Nat} (BM:g.ph=.te i) (h:L0 x g lt) {v u:Int}:Rn x.Ac x.Ab 0 (TO (.out u) v lt) (Lq x (Nq x g v)):=by
 obtain⟨ph,q0,q,rd,BE,rv,wv⟩:=g;cases BM;obtain⟨b,s,ab,p,hC,hp,h1,ho⟩:=h;obtain⟨pc,R,m⟩:=lt;cases hp;have bU:q.o[i]?=U (R 2):=ho;have hlt:=(Jm.1 bU).1;have h8:J q.o<=8:=hC.bi.2;show Rn x.Ac x.Ab 0 ⟨GD x.n p b+5+1,⟨R,m⟩⟩ _;refine Rn.Ajr (wg hC) h1 Y λR' h1'=>?_
 refine Rn.fT (g:=⟨.te i,q0,q,rd,BE,rv,wv⟩) (i:=i+1) hx hC hlt h1' λj g' hr hle=>⟨I,.te rfl g' hr,?_⟩<;>grind [Se]
theorem AjP (BM:g.ph=.ba c) (h:L0 x g lt) {v u:Int}:Rn x.Ac x.Ab 0 (TO (.st (8+c) u) v lt) (Lq x (Nq x g v)):=by
 obtain⟨ph,q0,q,rd,BE,rv,wv⟩:=g;cases BM;obtain⟨hc,hl,b,s,ab,z,C4,hB,hM,h1,h2,h3,hp⟩:=h;obtain⟨pc,R,m⟩:=lt;cases hp;show Rn x.Ac x.Ab 0 ⟨ab+4*(c+1),⟨R,m⟩⟩ _;refine Rn.vi (g:=⟨.ba c,q0,q,rd,BE,rv,wv⟩) (c:=c+1) hx ⟨hB,hM,h1,h2,h3⟩ Y λj g' hr hle=>⟨I,.ba rfl g' hr,?_⟩<;>grind [Se]
theorem AhK (BM:g.ph=.Po) (h:L0 x g lt) {v:Int}:Rn x.Ac x.Ab 0 (TO (.ld 1 16) v lt) (Lq x (Nq x g v)):=by
 obtain⟨ph,q0,q,rd,BE,rv,wv⟩:=g;cases BM;obtain⟨b,s,ab,h0,Px,hwf,hck,hL,hR,GY,Vx⟩:=h;have Z7:q0.s=.atomic b s:=h0;obtain⟨pc,R,m⟩:=lt;show Rn x.Ac x.Ab 0 ⟨pc+1,⟨CA R 1 v,m⟩⟩ _;refine Rn.st hx.hb 38 .start (v:=v) hck.st rfl (BK R 1 v) ?_;have e:Cw q0=⟨b,.Ao b s q0.k,q0.L,q0.R,D9,[]⟩:=by unfold Cw;rw[Z7]
 have hw:=hwf;have K7:NP x.cells q0.R (.rest q0.s q0.k):=hwf;rw[Z7] at K7;obtain⟨⟨⟨hi,hd,Vv,bq⟩,⟨hA1,Aoz⟩,hA2⟩,hk⟩:=K7;have Aod:q0.k.C7=I:=Px;refine Rn.BC (g:=⟨.node,q0,Cw q0,D9,D9,v,0⟩) hx (b:=b) (s:=s) (ab:=ab) ⟨h0,Px,hwf,by rw[e];rfl,by rw[e];grind⟩ (by rw[e];exact hck.MP) ?_ rfl λj g' hr hle=>⟨I,.Po rfl h0 g' hr,?_⟩
 .rw[e];refine⟨hL,hR,⟨⟨Vv,hA1⟩,AC,AC,AC,hk⟩,λ_=>⟨?_,?_⟩⟩
  .have MY:=BI.Tv (m:=m) hck.cl hck.cnt;exact⟨λi hi=>(hck.kp i hi).trans (hL i hi),rfl,MY.wr0,MY.vP,MY.rd0,MY.lk0,MY.oy,MY.cnt,MY.Al⟩
  .show 0+(ob b+0)<=8;omega
 grind [C9,KC,AW,Se]
theorem AhH (BM:g.ph=.node) (h:L0 x g lt) {v u:Int} (he:PN g=U (.out u)):Rn x.Ac x.Ab 0 (TO (.out u) v lt) (Lq x (Nq x g v)):=by
 obtain⟨ph,q0,q,rd,BE,rv,wv⟩:=g;cases BM;have BG:(match q.s with|.nil=>U (.stop 10)|.out a _=>if q.k.C7 then Z else U (.out (DW q.L a))|_=>(Br q).map .stop)=U (Ek.out u):=he;obtain⟨⟨ab,B,rd',lkd',hs⟩,h1,h2,_⟩:=h;cases hs with
 |out hk hs hc hg hp hm=>
  rename_i a r gg;have iV:q.s=.out a r:=hs;have LS:q.k.C7=I:=hk;have e:KI q={q with s:=r,o:=q.o++[DW q.L a]}:=by unfold KI;rw[iV]
  have eA:=hm.wf;have Fa:NP x.cells q.R (.rest q.s q.k):=eA;rw[iV] at Fa;refine Rn.outside (q:=KI q) (ab:=ab) (B:=B) (rd:=rd') (BE:=lkd') hx (by rw[e];exact hp) (by rw[e];exact hk) ?_ λq' j hk hle=>⟨I,.out rfl q' hk,?_⟩
  .rw[e];exact⟨hm.L,hm.R,⟨⟨Fa.1.1.2,Fa.1.2⟩,Fa.2⟩,AC⟩
  grind [C9,KC,AW,Se,NB]
 |halt hs _ _=>rw[show q.s=.nil from hs] at BG;cases BG
 |CS ht _ _=>
  have IJ:Br q=U _:=ht;grind [Br]
 |Po hs hk _ _ _ _=>grind
 |get hs hk ha _ _ _ _ _ _=>rw[show q.s=_ from hs] at BG;grind [Br]
 |DU hs hk _ _=>rw[show q.s=.nil from hs] at BG;cases BG
theorem AdQ (h:L0 x g lt) {e:Ek} (he:PN g=U e) (hns:∀t,e≠ .stop t) {v:Int} (hv:(∃c lv,g.ph=.F2 c lv)\/(0<=v/\v<3000000000000000000)):Rn x.Ac x.Ab 0 (TO e v lt) (Lq x (Nq x g v)):=by
 have Xu:(∀c lv,g.ph≠ .F2 c lv)->0<=v/\v<3000000000000000000:=AC;have BG:=he;unfold PN at BG;cases BM:g.ph with
 |node=>
  have:∃u,e=.out u:=by
   rw[BM] at BG;grind [Br]
  grind [AhH]
 |Po=>rw[BM] at BG;grind [AhK]
 |M0 c=>rw[BM] at BG;grind [AeT]
 |F2 c lv=>rw[BM] at BG;grind [AeS]
 |Gw c lv y=>rw[BM] at BG;grind [AeR]
 |ZE c=>rw[BM] at BG;grind [AhJ]
 |XG c lv=>rw[BM] at BG;grind [AhI]
 |xa=>rw[BM] at BG;grind [AjK]
 |lo c=>rw[BM] at BG;grind [AjN]
 |pu c=>
  rw[BM] at BG;replace BG:(g.q.A5 c).map (Ek.st c ·)=U e:=BG;cases hm:g.q.A5 c<;>grind [AjM]
 |fr c=>rw[BM] at BG;grind [AjO]
 |te i=>
  rw[BM] at BG;replace BG:(g.q.o[i]?).map Ek.out=U e:=BG;grind [AjL]
 |ba c=>
  rw[BM] at BG;replace BG:(g.BE c).map (Ek.st (8+c) ·)=U e:=BG;cases hm:g.BE c<;>grind [AjP]
end
def A7 {α:Type} (f:Nat->α) (t:Nat) (v:α):Nat->α:=λu=>if u=t then v else f u
theorem Au (f:Nat->α) (t:Nat) (v:α):A7 f t v t=v:=by simp[A7]
theorem Ba (f:Nat->α) {t u:Nat} (v:α) (h:u≠t):A7 f t v u=f u:=by simp[A7,h]
theorem Dn (f:Nat->α) (t:Nat):A7 f t (f t)=f:=by
 funext u;grind [A7]
def KD (f:Nat->Option (Nat×Int)) (n:Nat) (c:Nat):List (Nat×Int):=if c<n then (f c).toList++KD f n (c+1) else []
termination_by n-c
theorem GX (f:Nat->Option (Nat×Int)) {n c:Nat} (h:c<n):KD f n c=(f c).toList++KD f n (c+1):=by rw[KD,Jd h]
theorem So (f:Nat->Option (Nat×Int)) {n c:Nat} (h:n<=c):KD f n c=[]:=by rw[KD,In Y]
theorem Vn (f:Nat->Option (Nat×Int)) (n:Nat) {c c':Nat} (h:c<=c') (hf:∀d,c<=d->d<c'->d<n->f d=Z):KD f n c=KD f n c':=by
 obtain⟨k,rfl⟩:∃k,c'=c+k:=⟨c'-c,Y⟩;induction k<;>grind [GX,So]
theorem Vo (f:Nat->Option (Nat×Int)) (n:Nat) {c:Nat} (hf:∀d,c<=d->d<n->f d=Z):KD f n c=[]:=by
 by_cases h:c<=n
 .rw[Vn f n h AC,So f AC]
 grind [So]
theorem CY {f:Nat->Option (Nat×Int)} {n:Nat} {p:Nat×Int}:∀{c:Nat},p∈KD f n c<->∃d,c<=d/\d<n/\f d=U p:=by
 have key:∀k c,n-c<=k->(p∈KD f n c<->∃d,c<=d/\d<n/\f d=U p):=by
  intro k;induction k with
  |zero=>
   grind [So]
  |succ k ih=>
   intro c hc;grind [GX,So f Y]
 exact λ{c}=>key (n-c) c AC
def aP (p q:Nat×Int):Prop:=8<=p.1->p.1≠q.1
theorem dT {f:Nat->Option (Nat×Int)} (h:∀d p,f d=U p->p.1=8+d) (n:Nat):∀c,(KD f n c).Pairwise aP:=by
 have key:∀k c,n-c<=k->(KD f n c).Pairwise aP:=by
  intro k;induction k with
  |zero=>intro c hc;rw[So f Y];exact .nil
  |succ k ih=>
   intro c hc;by_cases hn:c<n
   .rw[GX f hn,QV];refine⟨?_,AC,?_⟩;grind
    .intro p hp q hq _ he;grind [CY]
   grind
 exact λc=>key (n-c) c AC
structure LK (T n:Nat) (sm:Nat->Int) (N:Int) (H:Nat->Nat->Option Int) (Z95:Nat->List (Nat×Int)):Prop where
 B6:∀t c v,t<T->c<n->H t c=U v->sm (8+c)=v+1/\(∃w,v=2*w/\0<=w/\w<=N)/\∀u,(8+c,u)∉Z95 t
 todo:∀t a v,t<T->(a,v)∈Z95 t->a<n\/∃c,c<n/\a=8+c/\(∃w,v=2*w/\0<=w/\w<=N)/\∃u,sm (8+c)=2*u+1/\0<=u/\u<=N
 nd:∀t,t<T->(Z95 t).Pairwise aP
 Pu:∀t t' c,t<T->t'<T->c<n->((H t c).isSome=V\/∃v,(8+c,v)∈Z95 t)->((H t' c).isSome=V\/∃v,(8+c,v)∈Z95 t')->t=t'
 free:∀c,c<n->(∀t,t<T->H t c=Z/\∀v,(8+c,v)∉Z95 t)->∃w,sm (8+c)=2*w/\0<=w/\w<=N
section
variable {T n:Nat} {sm:Nat->Int} {N:Int} {H:Nat->Nat->Option Int} {Z95:Nat->List (Nat×Int)} (h:LK T n sm N H Z95) (h6:n<=6)
include h
theorem LK.ct {N':Int} {sm':Nat->Int} (hN:N<=N') (hs:∀c,c<n->sm' (8+c)=sm (8+c)):LK T n sm' N' H Z95 where
 B6:=λt c v ht hc hv=>by
  obtain⟨h1,⟨w,h2,h3,h4⟩,h5⟩:=h.B6 t c v ht hc hv;exact⟨by rw[hs c hc];exact h1,⟨w,h2,h3,Y⟩,h5⟩
 todo:=λt a v ht hv=>by
  rcases h.todo t a v ht hv with h1|⟨c,h1,h2,⟨w,h3,h4,h5⟩,u,h6,h7,h8⟩;grind
  .exact .inr ⟨c,h1,h2,⟨w,h3,h4,Y⟩,u,by rw[hs c h1];exact h6,h7,Y⟩
 nd:=h.nd
 Pu:=h.Pu
 free:=λc hc hx=>by
  obtain⟨w,h1,h2,h3⟩:=h.free c hc hx;exact⟨w,by rw[hs c hc];exact h1,h2,Y⟩
include h6
theorem LK.val (hc:c<n):∃w,0<=w/\w<=N/\(sm (8+c)=2*w\/sm (8+c)=2*w+1):=by
 by_cases hx:∀t,t<T->H t c=Z/\∀v,(8+c,v)∉Z95 t
 .obtain⟨w,h1,h2,h3⟩:=h.free c hc hx;exact⟨w,h2,h3,.inl h1⟩
 .obtain⟨t,ht⟩:=Classical.not_forall.1 hx;obtain⟨ht,hx⟩:=Classical.not_imp.1 ht;cases hH:H t c with
  |some v=>
   obtain⟨h1,⟨w,h2,h3,h4⟩,_⟩:=h.B6 t c v ht hc hH;exact⟨w,h3,h4,AC⟩
  |none=>
   obtain⟨v,hv⟩:∃v,(8+c,v)∈Z95 t:=by
    grind
   rcases h.todo t _ v ht hv with h1|⟨c',h1,h2,_,u,h3,h4,h5⟩
   .omega
   .obtain rfl:c'=c:=Y
    exact⟨u,h4,h5,.inr h3⟩
theorem LK.Ck {t a:Nat} {r:List (Nat×Int)} (ht:t<T) (hd:Z95 t=(a,u)::r):LK T n (CA sm a u) N H (A7 Z95 t r):=by
 have bS:∀t' p,p∈A7 Z95 t r t'->p∈Z95 t':=λt' p hp=>by
  grind [A7]
 have NJ:(a,u)∈Z95 t:=by rw[hd];grind
 have GO:=h.nd t ht;rw[hd,J8] at GO;have AcV:∀{c:Nat},c<n->a=8+c->∀t',t'<T->(H t' c=Z)/\∀v,(8+c,v)∉A7 Z95 t r t':=λ{c} hc ha t' IJ=>by
  have hne:∀v,(8+c,v)∉A7 Z95 t r t:=λv hv=>by
   rw[Au] at hv;exact GO.1 _ hv AC ha
  have ho:∀t'',t''<T->((H t'' c).isSome=V\/∃v,(8+c,v)∈Z95 t'')->t''=t:=λt'' Amp hx=>h.Pu t'' t c Amp ht hc hx AC
  constructor
  .cases hH:H t' c<;>grind [LK]
  grind [LK]
 refine⟨λt' c v IJ hc hv=>?_,λt' b v IJ hv=>?_,λt' IJ=>?_,λt' t'' c h1 h2 h3 h4 h5=>h.Pu t' t'' c h1 h2 h3 AC AC,λc hc hx=>?_⟩
 .obtain⟨h1,h2,h3⟩:=h.B6 t' c v IJ hc hv;refine⟨?_,h2,λu' mu=>h3 u' (bS _ _ mu)⟩<;>grind [BA]
 .rcases h.todo t' b v IJ AC with h1|⟨c,h1,h2,h3,w,h4,h5⟩;grind
  .refine .inr ⟨c,h1,h2,h3,w,?_,h5⟩<;>grind [BA]
 grind [A7,LK]
 .by_cases ha:a=8+c
  .rcases h.todo t a u ht NJ with h1|⟨c',h1,h2,⟨w,h3,h4,h5⟩,_⟩
   .omega
   .exact⟨w,by rw[ha,BK];exact h3,h4,h5⟩
  .obtain⟨w,h1,h2⟩:=h.free c hc λt' IJ=>⟨AC,λv hv=>by
      grind [Au,Ba]⟩
   exact⟨w,(BA _ _ AC).trans h1,h2⟩
theorem LK.Wm {t:Nat} (ht:t<T) (hc:c<n) (he:sm (8+c)=lv) (hl:∃w,lv=2*w/\0<=w/\w<=N):LK T n (CA sm (8+c) (lv+1)) N (A7 H t (Fo (H t) c lv)) Z95:=by
 have Xy:∀t',t'<T->H t' c=Z/\∀v,(8+c,v)∉Z95 t':=λt' IJ=>by
  obtain⟨w,hw,_⟩:=hl;constructor
  .cases hH:H t' c<;>grind [LK]
  grind [LK]
 have hH:∀t' d,(t'≠t\/d≠c)->A7 H t (Fo (H t) c lv) t' d=H t' d:=λt' d hd=>by
  unfold A7 Fo;by_cases h1:t'=t
  .rw[Jd h1];grind
  grind
 have hHt:A7 H t (Fo (H t) c lv) t c=U lv:=by rw[Au];unfold Fo;rw[Jd rfl]
 refine⟨λt' d v IJ hd hv=>?_,λt' b v IJ hv=>?_,h.nd,λt' t'' d h1 h2 h3 h4 h5=>?_,λd hd hx=>?_⟩
 .by_cases hx:t'=t/\d=c
  .obtain⟨rfl,rfl⟩:=hx;rw[hHt] at hv;cases hv;exact⟨BK _ _ _,hl,AC⟩
  .rw[hH t' d Y] at hv;by_cases hdc:d=c;grind
   .obtain⟨h1,h2,h3⟩:=h.B6 t' d v IJ hd hv;exact⟨(BA _ _ Y).trans h1,h2,h3⟩
 .rcases h.todo t' b v IJ hv with h1|⟨d,h1,h2,h3,u,h4,h5⟩;grind
  .refine .inr ⟨d,h1,h2,h3,u,?_,h5⟩<;>grind [BA]
 grind [LK]
 .by_cases hdc:d=c;grind
  .obtain⟨w,h1,h2⟩:=h.free d hd AC;exact⟨w,(BA _ _ Y).trans h1,h2⟩
theorem LK.decide {t:Nat} {l:List (Nat×Int)} (ht:t<T) (hl:∀a v,(a,v)∈l->a<n\/∃c,c<n/\a=8+c/\(H t c).isSome=V/\∃w,v=2*w/\0<=w/\w<=N) (ha:l.Pairwise aP) (Da:∀c,c<n->(H t c).isSome=V->∃v,(8+c,v)∈l):
  LK T n sm N (A7 H t D9) (A7 Z95 t (Z95 t++l)):=by
 have NJ:∀c,c<n->∀v,(8+c,v)∈l->(H t c).isSome=V:=AC;have SN:∀c,c<n->(H t c).isSome=V->∀u,(8+c,u)∉Z95 t:=λc hc hs u=>by
  grind [Option.isSome_iff_exists,LK]
 have Co:∀t' c,c<n->((A7 H t D9 t' c).isSome=V\/∃v,(8+c,v)∈A7 Z95 t (Z95 t++l) t')->((H t' c).isSome=V\/∃v,(8+c,v)∈Z95 t'):=λt' c hc hx=>by
  by_cases he:t'=t
  .subst he;rw[Au,Au] at hx;rcases hx with hx|⟨v,hv⟩
   .cases hx
   grind
  .rw[Ba _ _ he,Ba _ _ he] at hx;exact hx
 refine⟨λt' c v IJ hc hv=>?_,λt' a v IJ hv=>?_,λt' IJ=>?_,λt' t'' c h1 h2 h3 h4 h5=>h.Pu t' t'' c h1 h2 h3 AC AC,λc hc hx=>h.free c hc λt' IJ=>?_⟩
 .by_cases he:t'=t
  .subst he;rw[Au] at hv;cases hv
  .rw[Ba _ _ he] at hv;rw[Ba _ _ he];exact h.B6 t' c v IJ hc hv
 .by_cases he:t'=t
  .subst he;rw[Au] at hv;rcases Jq.1 hv with hv|hv
   .exact h.todo t' a v IJ hv
   .rcases hl a v hv with h1|⟨c,h1,h2,h3,h4⟩;grind
    .obtain⟨v',Xu⟩:=JE.1 h3;obtain⟨h5,⟨w,h6,h7,h8⟩,_⟩:=h.B6 t' c v' IJ h1 Xu;exact .inr ⟨c,h1,h2,h4,w,Y,h7,h8⟩
  .rw[Ba _ _ he] at hv;exact h.todo t' a v IJ hv
 .by_cases he:t'=t
  .subst he;rw[Au,QV];refine⟨h.nd t' IJ,ha,λp hp q hq h8 he=>?_⟩<;>grind
  grind [Ba,LK]
 .by_cases he:t'=t
  .subst he;have:=hx t' IJ;rw[Au,Au] at this;refine⟨?_,AC⟩;cases hH:H t' c<;>grind
  .have:=hx t' IJ;rw[Ba _ _ he,Ba _ _ he] at this;exact this
end
