/- Part 20 of the proof. -/
import Derived.Test.YtpdfifdlhpmofaaGreatDoorC05
import Derived.Test.YtpdfifdlhpmofaaGreatDoorD00
set_option linter.unusedVariables false
set_option linter.unusedSimpArgs false
set_option maxHeartbeats 0
set_option maxRecDepth 99999
namespace Go.Proofs.YtpdfifdlhpmofaaGreatDoor
open Go.RowKit
open Value renaming slice->m9,string->qA,bool->qB,tuple->qC,agg->qD,pointer->qE
open Ending renaming returned->qF
open Obj renaming cells->qG
open Option renaming none->Z,some->U
open Bool renaming true->V,false->I
open Go.Lib renaming hid->D
open List renaming length->J
theorem nam {p:Prop} (h:p:=by
 exact Rn.XB hb (T:=8) (.wr c) hl.1 hl.2.1 Y (OV Y) rfl λR' hR=>⟨λ_=>q 2 R' AC hR,λhv=>Jk ((BI.wrF hm hc).2 hf) hv⟩):p:=h
theorem nav {p:Prop} (h:p:=by
 rw[UM hb o ho Y];subst hf;rfl):p:=h
theorem naw {p:Prop} (h:p:=by
 exact⟨_,_,by rw[hp];exact hc,this.1,this.2,rfl⟩):p:=h
theorem naC {p:Prop} (h:p:=by
 rw[show m.toNat=(m.toNat-1)+1 by omega,i5,jP];omega):p:=h
theorem naD {p:Prop} (h:p:=by
 rw[show w.toNat-1=((w-1).toNat-1)+1 by omega,i5,Nat.add_comm]):p:=h
variable {x t u i e d v lv rv:Int} {o:List Int} {p c p0 L:Nat} {s b:Bj} {l:List GI} {rd' A3:Nat->Option Int} {a:Ag} {R R':Nat->Int} {f:Nat->Nat->List LI} {α:Type}
def K6 (f:BitVec 64->BitVec 64->BitVec 64) (x y:Int):Int:=wrap64 (f (BitVec.ofInt 64 x) (BitVec.ofInt 64 y)).toNat
def aK:Nat->Int->Int
 |0,a=>a
 |n+1,a=>aK n (wrap64 (a+a))
def Yx:Nat->Int->Int
 |0,a=>a
 |n+1,a=>Yx n (wrap64 ((wrap64 (a-K6 (· &&& ·) a 1)).tdiv 2))
def vO:ByteArray:=⟨#[109,117,108]⟩
def TB:ByteArray:=⟨#[100,105,118]⟩
def Y3:ByteArray:=⟨#[109,111,100]⟩
def vN:ByteArray:=⟨#[120,111,114]⟩
def BO (op:ByteArray) (a b:Int):Option Int:=
 if op=KG then U (wrap64 (a+b)) else if op=KF then U (wrap64 (a-b)) else if op=vO then U (wrap64 (a*b))
 else if op=TB\/op=Y3 then
  if b=0 then Z else if b= -1 then U (if op=TB then wrap64 (-a) else 0) else U (if op=TB then wrap64 (a.tdiv b) else a.tmod b)
 else if op=aS then U (K6 (· &&& ·) a b) else if op=nOr then U (K6 (· ||| ·) a b) else if op=vN then U (K6 (· ^^^ ·) a b)
 else if op=US then U (aK (K6 (· &&& ·) b 63).toNat a) else if op=Y1 then U (Yx (K6 (· &&& ·) b 63).toNat a)
 else if op=cR then U (if a<b then 1 else 0) else if op=cS then U (if a=b then 1 else 0) else U 0
theorem EP (h: -9223372036854775808<=x) (k:x<9223372036854775808):wrap64 x=x:=by unfold wrap64;omega
theorem ug (x:Int) (h:0<=x) (k:x<9223372036854775808):(BitVec.ofInt 64 x).toNat=x.toNat:=by
 rw[BitVec.toNat_ofInt];omega
theorem mG (v:Int) (h:0<=v) (k:v<4000000000000000000):K6 (· &&& ·) (2*v) 1=0:=by
 grind [K6,ug,EP]
theorem AfT (v:Int) (h:0<=v) (k:v<4000000000000000000):K6 (· &&& ·) (2*v+1) 1=1:=by
 grind [K6,ug,EP]
theorem Aep (v:Int) (h:0<=v) (k:v<4000000000000000000):K6 (· ||| ·) (2*v) 1=2*v+1:=by
 unfold K6;rw[BitVec.toNat_or,ug _ Y Y,ug _ Y Y,show(1:Int).toNat=1 by rfl];have h2:(2*v).toNat ||| 1=2*v.toNat+1:=by
  rw[show(2*v).toNat=2*v.toNat by omega];have:=Nat.two_pow_add_eq_or_of_lt (i:=1) (b:=1) Do v.toNat;grind
 rw[h2,EP Y Y];omega
theorem Aan (v:Int) (h:0<=v) (k:v<4000000000000000000):Yx 1 (2*v)=v:=by
 unfold Yx Yx;rw[mG v h k,EP (x:=2*v-0) Y Y,Int.tdiv_eq_ediv_of_nonneg Y,show(2*v-0) / 2=v by omega,EP Y Y]
theorem Aea (v:Int) (h:0<=v) (k:v<4000000000000000000):aK 1 v=2*v:=by
 grind [aK,EP]
theorem Adu:(K6 (· &&& ·) 1 63).toNat=1:=by decide+kernel
theorem NT (a b:Int):BO KG a b=U (wrap64 (a+b)):=by unfold BO;rw[Jb rfl]
theorem cW (a b:Int):BO KF a b=U (wrap64 (a-b)):=by unfold BO;rw[In (by decide+kernel),Jb rfl]
theorem V0 (a b:Int):BO aS a b=U (K6 (· &&& ·) a b):=by unfold BO;rw[In (by decide+kernel),In (by decide+kernel),In (by decide+kernel),In (by decide+kernel),Jb rfl]
theorem kL (a b:Int):BO nOr a b=U (K6 (· ||| ·) a b):=by unfold BO;rw[In (by decide+kernel),In (by decide+kernel),In (by decide+kernel),In (by decide+kernel),In (by decide+kernel),Jb rfl]
theorem wG (a:Int):BO US a 1=U (aK 1 a):=by unfold BO;rw[In (by decide+kernel),In (by decide+kernel),In (by decide+kernel),In (by decide+kernel),In (by decide+kernel),In (by decide+kernel),In (by decide+kernel),Jb rfl,Adu]
theorem wF (a:Int):BO Y1 a 1=U (Yx 1 a):=by unfold BO;rw[In (by decide+kernel),In (by decide+kernel),In (by decide+kernel),In (by decide+kernel),In (by decide+kernel),In (by decide+kernel),In (by decide+kernel),In (by decide+kernel),Jb rfl,Adu]
theorem P3 (a b:Int):BO cR a b=U (if a<b then 1 else 0):=by unfold BO;rw[In (by decide+kernel),In (by decide+kernel),In (by decide+kernel),In (by decide+kernel),In (by decide+kernel),In (by decide+kernel),In (by decide+kernel),In (by decide+kernel),In (by decide+kernel),Jb rfl]
theorem NS (a b:Int):BO cS a b=U (if a=b then 1 else 0):=by unfold BO;rw[In (by decide+kernel),In (by decide+kernel),In (by decide+kernel),In (by decide+kernel),In (by decide+kernel),In (by decide+kernel),In (by decide+kernel),In (by decide+kernel),In (by decide+kernel),In (by decide+kernel),Jb rfl]
def Cv (f:Nat->Int) (i:Nat) (v:Int):Nat->Int:=λj=>if j=i then v else f j
theorem BK (f:Nat->Int) (i:Nat) (v:Int):Cv f i v i=v:=by simp[Cv]
theorem Bp (f:Nat->Int) {i j:Nat} (v:Int) (h:j≠i):Cv f i v j=f j:=by simp[Cv,h]
structure Da where
 AX:Nat->Int
 Gm:Nat->Int
 wr:Nat->Int
 vl:Nat->Int
 rd:Nat->Int
 lk:Nat->Int
 hd:Nat->Int
 start:Int
 count:Int
 An:Nat->Int
 DE:Nat->Int
variable {m:Da}
inductive KU where
 |AX (i:Nat)
 |Gm (i:Nat)
 |wr (i:Nat)
 |vl (i:Nat)
 |rd (i:Nat)
 |lk (i:Nat)
 |hd (i:Nat)
 |start
 |count
 |An (i:Nat)
 |DE (i:Nat)
deriving DecidableEq
def KU.Ss (o:Nat):KU:=
 if o<4 then .AX o else if o<8 then .Gm (o-4) else if o<14 then .wr (o-8) else if o<20 then .vl (o-14) else if o<26 then .rd (o-20)
 else if o<32 then .lk (o-26) else if o<38 then .hd (o-32) else if o=38 then .start else if o=39 then .count else if o<48 then .An (o-40) else .DE (o-48)
def KU.dM:KU->Nat
 |.AX i=>i
 |.Gm i=>4+i
 |.wr i=>8+i
 |.vl i=>14+i
 |.rd i=>20+i
 |.lk i=>26+i
 |.hd i=>32+i
 |.start=>38
 |.count=>39
 |.An i=>40+i
 |.DE i=>48+i
theorem KU.tZ (o:Nat):(KU.Ss o).dM=o:=by
 unfold KU.Ss
 repeat' split
 all_goals simp only[KU.dM]
 all_goals omega
theorem KU.Afz {o:Nat}:KU.Ss p=KU.Ss o<->p=o:=⟨λh=>by rw[<-tZ p,h,tZ],AC⟩
def Da.gk (m:Da):KU->Int
 |.AX i=>m.AX i
 |.Gm i=>m.Gm i
 |.wr i=>m.wr i
 |.vl i=>m.vl i
 |.rd i=>m.rd i
 |.lk i=>m.lk i
 |.hd i=>m.hd i
 |.start=>m.start
 |.count=>m.count
 |.An i=>m.An i
 |.DE i=>m.DE i
def Da.n7 (m:Da) (v:Int):KU->Da
 |.AX i=>{m with AX:=Cv m.AX i v}
 |.Gm i=>{m with Gm:=Cv m.Gm i v}
 |.wr i=>{m with wr:=Cv m.wr i v}
 |.vl i=>{m with vl:=Cv m.vl i v}
 |.rd i=>{m with rd:=Cv m.rd i v}
 |.lk i=>{m with lk:=Cv m.lk i v}
 |.hd i=>{m with hd:=Cv m.hd i v}
 |.start=>{m with start:=v}
 |.count=>{m with count:=v}
 |.An i=>{m with An:=Cv m.An i v}
 |.DE i=>{m with DE:=Cv m.DE i v}
theorem Da.xH (m:Da) (f g:KU) (v:Int):(m.n7 v f).gk g=if g=f then v else m.gk g:=by
 cases f<;>cases g<;>simp[Da.gk,Da.n7,Cv]
def Da.get (m:Da) (o:Nat):Int:=m.gk (.Ss o)
def Da.set (m:Da) (o:Nat) (v:Int):Da:=m.n7 v (.Ss o)
theorem Da.Afk (m:Da) (o p:Nat) (v:Int):(m.set o v).get p=if p=o then v else m.get p:=by
 grind [Da.get,Da.set,Da.xH,KU.Afz]
def Ey (R:Nat->Int) (a:Ag):Int:=if a.Dd then R a.v.toNat else a.v
def Pp (Ac a:Int):Option Nat:=if Ac<=a/\a<Ac+64 then U (a-Ac).toNat else Z
structure XS where
 R:Nat->Int
 m:Da
def bt (Ac:Int):GI->XS->Option (XS×Option Nat)
 |.Y4 d a,x=>U (⟨Cv x.R d.toNat (Ey x.R a),x.m⟩,Z)
 |.op n d a b,x=>(BO n (Ey x.R a) (Ey x.R b)).map λv=>(⟨Cv x.R d.toNat v,x.m⟩,Z)
 |.load d a k,x=>(Pp Ac (wrap64 (Ey x.R a+k))).map λo=>(⟨Cv x.R d.toNat (x.m.get o),x.m⟩,Z)
 |.store a k b,x=>(Pp Ac (wrap64 (Ey x.R a+k))).map λo=>(⟨x.R,x.m.set o (Ey x.R b)⟩,Z)
 |.GF t,x=>U (x,U t.toNat)
 |.jz a t,x=>U (x,if Ey x.R a=0 then U t.toNat else Z)
 |_,_=>Z
structure LT where
 pc:Nat
 x:XS
def ps1 (Ac:Int) (Ab:List GI) (s:LT):Option LT:=match Ab[s.pc]? with
 |none=>Z
 |some i=>(bt Ac i s.x).map λr=>⟨r.2.getD (s.pc+1),r.1⟩
inductive Gc (Ac:Int) (Ab:List GI):Nat->LT->LT->Prop
 |nil (s:LT):Gc Ac Ab 0 s s
 |cons {n:Nat} {s t u:LT} (h:ps1 Ac Ab s=U t) (k:Gc Ac Ab n t u):Gc Ac Ab (n+1) s u
theorem Gc.trans {Ac:Int} {Ab:List GI} {n m:Nat} {s t u:LT} (h:Gc Ac Ab n s t) (k:Gc Ac Ab m t u):Gc Ac Ab (n+m) s u:=by
 induction h<;>grind [cons]
def DP (Ab:List GI) (l:List GI) (p:Nat):Prop:=∀j x,l[j]?=U x->Ab[p+j]?=U x
theorem A9 {Ab:List GI} {i:GI}:DP Ab (i::l) p<->Ab[p]?=U i/\DP Ab l (p+1):=by
 constructor
 .intro h;exact⟨h 0 i rfl,λj x hx=>by rw[show p+1+j=p+(j+1) by omega];exact h (j+1) x hx⟩
 .rintro⟨h,k⟩ j x hx;cases j with
  |zero=>grind
  |succ j=>rw[show p+(j+1)=p+1+j by omega];exact k j x hx
theorem Bw {Ab m:List GI}:DP Ab (l++m) p<->DP Ab l p/\DP Ab m (p+J l):=by
 induction l generalizing p<;>grind [DP,A9]
inductive KK where
 |done
 |rest (s:Bj) (k:KK)
 |loop (b s:Bj) (k:KK)
 |Ao (b s:Bj) (k:KK)
variable {k k0:KK}
def KK.Af:KK->Nat
 |.done=>0
 |.rest _ k=>k.Af
 |.loop _ _ k=>k.Af+1
 |.Ao _ _ k=>k.Af
def KK.Db:KK->Bool
 |.done=>I
 |.rest _ k=>k.Db
 |.loop _ _ k=>k.Db
 |.Ao .. =>V
def KK.dp:KK->Nat
 |.done=>0
 |.rest _ k=>k.dp+1
 |.loop _ _ k=>k.dp+1
 |.Ao _ _ k=>k.dp+1
def AW:Bj->Nat
 |.nil=>0
 |.set _ _ _ _ r=>5+AW r
 |.get _ _ _ _ r=>60+AW r
 |.put _ _ _ _ r=>12+AW r
 |.out _ r=>6+AW r
 |.atomic b r=>400+AW b+AW r
 |.Es _ b r=>4+AW b+AW r
 |.loop n b r=>2+n.toNat*(6+AW b)+AW r
def KB:KK->(Nat->Int)->Nat
 |.done,_=>1
 |.rest s k,R=>1+AW s+KB k R
 |.loop b s k,R=>6+((R k.Af).toNat-1)*(6+AW b)+AW s+KB k R
 |.Ao _ s k,R=>320+AW s+KB k R
def Nc:Bj->Nat
 |.set .. =>2
 |.get .. =>9
 |.put .. =>7
 |.out .. =>1
 |.atomic .. =>27
 |_=>0
def ob:Bj->Nat
 |.nil=>0
 |.set _ _ _ _ r=>ob r
 |.get _ _ _ _ r=>ob r
 |.put _ _ _ _ r=>ob r
 |.out _ r=>1+ob r
 |.atomic _ r=>ob r
 |.Es _ b r=>ob b+ob r
 |.loop n b r=>n.toNat*ob b+ob r
def gR:KK->(Nat->Int)->Nat
 |.done,_=>0
 |.rest s k,R=>ob s+gR k R
 |.loop b s k,R=>((R k.Af).toNat-1)*ob b+ob s+gR k R
 |.Ao _ _ _,_=>0
def AB:Bj->Prop
 |.nil=>True
 |.set _ _ _ _ r=>AB r
 |.get _ _ _ _ r=>AB r
 |.put _ _ _ _ r=>AB r
 |.out _ r=>AB r
 |.atomic b r=>(AB b/\ob b<=8)/\AB r
 |.Es _ b r=>AB b/\AB r
 |.loop _ b r=>AB b/\AB r
def Om (cells:Int) (R:Nat->Int):KK->Prop
 |.done=>True
 |.rest s k=>(WF cells s k.dp k.Db/\AB s)/\Om cells R k
 |.loop b s k=>((1<=R k.Af/\R k.Af<=4)/\k.dp<3)/\(WF cells b (k.dp+1) k.Db/\AB b)/\(WF cells s k.dp k.Db/\AB s)/\Om cells R k
 |.Ao b s k=>(k.Db=I/\k.dp<3)/\(WF cells b (k.dp+1) V/\AB b/\ob b<=8)/\(WF cells s k.dp I/\AB s)/\Om cells R k
theorem ua (k:KK):k.Af<=k.dp:=by
 induction k with
 |done=>exact Jf _
 |rest s k ih=>exact jS ih
 |loop b s k ih=>exact Nat.succ_le_succ ih
 |Ao b s k ih=>exact jS ih
theorem Sb (k:KK) (R R':Nat->Int) (h:∀d,d<k.Af->R' d=R d):KB k R'=KB k R:=by
 induction k with
 |done=>rfl
 |rest s k ih=>simp only[KB,ih h]
 |loop b s k ih=>simp only[KB,ih (λd hd=>h d (Qg hd)),h k.Af (JC _)]
 |Ao b s k ih=>simp only[KB,ih h]
theorem fG (k:KK) (R R':Nat->Int) (h:∀d,d<k.Af->R' d=R d):gR k R'=gR k R:=by
 induction k with
 |done=>rfl
 |rest s k ih=>simp only[gR,ih h]
 |loop b s k ih=>simp only[gR,ih (λd hd=>h d (Qg hd)),h k.Af (JC _)]
 |Ao b s k ih=>rfl
theorem Sx (cells:Int) (k:KK) (R R':Nat->Int) (h:∀d,d<k.Af->R' d=R d) (w:Om cells R k):Om cells R' k:=by
 induction k with
 |done=>trivial
 |rest s k ih=>exact⟨w.1,ih h w.2⟩
 |loop b s k ih=>exact⟨⟨by rw[h k.Af (JC _)];exact w.1.1,w.1.2⟩,w.2.1,w.2.2.1,ih (λd hd=>h d (Qg hd)) w.2.2.2⟩
 |Ao b s k ih=>exact⟨w.1,w.2.1,w.2.2.1,ih h w.2.2.2⟩
section
variable (Ac:Int) (n:Nat) (Ab:List GI)
def fM (d p C5:Nat):List LI:=[.i (.load 1 (.n (Ac+(48+d))) 0),.i (.op KF 1 (.r 1) (.n 1)),.i (.store (.n (Ac+(48+d))) 0 (.r 1)),.i (.jz (.r 1) (p+5:Nat)),.i (.GF C5)]
def PD:Nat->KK->Nat->Prop
 |_,.done,p=>Ab[p]?=U .halt
 |ab,.rest s k,p=>DP Ab (rz ab (Gu Ac n k.Db k.Af p s)) p/\PD ab k (p+(Gu Ac n k.Db k.Af p s).length)
 |ab,.loop b s k,p=>∃C5,p=C5+(Gu Ac n k.Db (k.Af+1) C5 b).length/\DP Ab (rz ab (Gu Ac n k.Db (k.Af+1) C5 b)) C5/\
  DP Ab (rz ab (fM Ac k.Af p C5)) p/\DP Ab (rz ab (Gu Ac n k.Db k.Af (p+5) s)) (p+5)/\PD ab k (p+5+(Gu Ac n k.Db k.Af (p+5) s).length)
 |ab,.Ao b s k,p=>k.Db=I/\∃z C5 pe:Nat,p=C5+(KW Ac n C5).length+(Gu Ac n V k.Af (C5+(KW Ac n C5).length) b).length/\
  DP Ab (rz ab (KW Ac n C5++Gu Ac n V k.Af (C5+(KW Ac n C5).length) b++RD Ac n (BU b) p)) C5/\
  ab=p+(RD Ac n (BU b) p).length+1/\pe=ab+(Fq Ac n C5 ab).length/\Ab[ab-1]?=U (.GF pe)/\DP Ab (rz z (Fq Ac n C5 ab)) ab/\
  DP Ab (rz z (Gu Ac n I k.Af pe s)) pe/\PD z k (pe+(Gu Ac n I k.Af pe s).length)
end
def DV (L:Nat->Int) (a:At):Int:=if a.AX then L a.v.toNat else a.v
def En (f:Nat->Option Int) (i:Nat) (v:Int):Nat->Option Int:=λj=>if j=i then U v else f j
structure KS where
 s:Bj
 k:KK
 L:Nat->Int
 R:Nat->Int
 A3:Nat->Option Int
 o:List Int
variable {q r:KS}
def Ot (rd:Nat->Option Int) (q:KS):Option KS:=match q.s with
 |.nil=>match q.k with
  |.rest s k=>U {q with s:=s,k:=k}
  |.loop b s k=>if q.R k.Af-1=0 then U {q with s:=s,k:=k,R:=Cv q.R k.Af (q.R k.Af-1)} else U {q with s:=b,R:=Cv q.R k.Af (q.R k.Af-1)}
  |_=>Z
 |.set v op a b r=>(if op.size=0 then U (DV q.L a) else BO op (DV q.L a) (DV q.L b)).map λx=>{q with s:=r,L:=Cv q.L v.toNat x}
 |.get v f s a r=>if DV q.L a<0\/s<=DV q.L a then Z else
   ((q.A3 (f+DV q.L a).toNat).or (rd (f+DV q.L a).toNat)).map λx=>{q with s:=r,L:=Cv q.L v.toNat x}
 |.put f s i a r=>if DV q.L i<0\/s<=DV q.L i then Z else U {q with s:=r,A3:=En q.A3 (f+DV q.L i).toNat (DV q.L a)}
 |.out a r=>if q.k.Db=V then U {q with s:=r,o:=q.o++[DV q.L a]} else Z
 |.Es a b r=>U (if DV q.L a=0 then {q with s:=r} else {q with s:=b,k:=.rest r q.k})
 |.loop m b r=>U {q with s:=b,k:=.loop b r q.k,R:=Cv q.R q.k.Af m}
 |.atomic .. =>Z
inductive Ij (rd:Nat->Option Int):KS->KS->Prop
 |nil (q:KS):Ij rd q q
 |cons {q r u:KS} (h:Ot rd q=U r) (k:Ij rd r u):Ij rd q u
theorem Ij.trans {rd:Nat->Option Int} {u:KS} (h:Ij rd q r) (k:Ij rd r u):Ij rd q u:=by
 induction h<;>grind [cons]
theorem kW {rd:Nat->Option Int} (hr:∀c x,rd c=U x->rd' c=U x) {q r:KS} (h:Ot rd q=U r):Ot rd' q=U r:=by
 unfold Ot at h⊢;split at h<;>try exact h
 split at h
 .cases h
 .rename_i h2;rw[In h2];simp only[Jj] at h⊢;obtain⟨x,hx,rfl⟩:=h;refine⟨x,?_,rfl⟩;cases hm:q.A3 _<;>grind
theorem Ij.mono {rd:Nat->Option Int} (hr:∀c x,rd c=U x->rd' c=U x) {q r:KS} (h:Ij rd q r):Ij rd' q r:=by
 induction h<;>grind [nil,cons,kW]
def Bs (Ac:Int):Prop:=32<=Ac/\Ac<=160
section
variable {Ac:Int} (hb:Bs Ac)
include hb
theorem UM (o:Nat) (ho:o<64) {a:Int} (h:a=Ac+o):Pp Ac (wrap64 a)=U o:=by
 obtain⟨h1,h2⟩:=hb<;>grind [EP,Pp]
theorem AkM (o:Nat) (f:KU) (he:e=o) (ho:o<64) (hf:KU.Ss o=f) (d:Int) (x:XS):bt Ac (.load d (.n (Ac+e)) 0) x=U (⟨Cv x.R d.toNat (x.m.gk f),x.m⟩,Z):=by
 show(Pp Ac (wrap64 (Ac+e+0))).map _=_;exact nav
theorem AkL (o:Nat) (f:KU) (he:e=o) (ho:o<64) (hf:KU.Ss o=f) (b:Ag) (x:XS):bt Ac (.store (.n (Ac+e)) 0 b) x=U (⟨x.R,x.m.n7 (Ey x.R b) f⟩,Z):=by
 show(Pp Ac (wrap64 (Ac+e+0))).map _=_;exact nav
theorem Ais (o:Nat) (f:KU) (x:XS) (he:x.R i.toNat+e=o) (ho:o<64) (hf:KU.Ss o=f) (d:Int):bt Ac (.load d (.r i) (Ac+e)) x=U (⟨Cv x.R d.toNat (x.m.gk f),x.m⟩,Z):=by
 show(Pp Ac (wrap64 (x.R i.toNat+(Ac+e)))).map _=_;exact nav
theorem Air (o:Nat) (f:KU) (x:XS) (he:x.R i.toNat+e=o) (ho:o<64) (hf:KU.Ss o=f) (b:Ag):bt Ac (.store (.r i) (Ac+e) b) x=U (⟨x.R,x.m.n7 (Ey x.R b) f⟩,Z):=by
 show(Pp Ac (wrap64 (x.R i.toNat+(Ac+e)))).map _=_;exact nav
end
theorem OW (h:c<4):KU.Ss c=.AX c:=by unfold KU.Ss;rw[Jb h]
theorem lY (h:c<4):KU.Ss (4+c)=.Gm c:=by grind [KU.Ss]
theorem OV (h:c<6):KU.Ss (8+c)=.wr c:=by grind [KU.Ss]
theorem rh (h:c<6):KU.Ss (14+c)=.vl c:=by grind [KU.Ss]
theorem gv (h:c<6):KU.Ss (20+c)=.rd c:=by grind [KU.Ss]
theorem Wo (h:c<6):KU.Ss (26+c)=.lk c:=by grind [KU.Ss]
theorem Ac6 (h:c<6):KU.Ss (32+c)=.hd c:=by grind [KU.Ss]
theorem lX (h:c<8):KU.Ss (40+c)=.An c:=by grind [KU.Ss]
theorem gu (c:Nat):KU.Ss (48+c)=.DE c:=by grind [KU.Ss]
theorem lU (R:Nat->Int) (k:Int):Ey R (.r k)=R k.toNat:=rfl
theorem D2 (R:Nat->Int) (k v:Int):Ey (Cv R k.toNat v) (.r k)=v:=BK _ _ _
theorem Eu (R:Nat->Int) (v:Int):Ey R (.n v)=v:=rfl
def Rn (Ac:Int) (Ab:List GI) (k:Nat) (s:LT) (Q:Nat->LT->Prop):Prop:=∃j t,Gc Ac Ab j s t/\Q (k+j) t
section
variable {Ac:Int} {Ab:List GI} {k p:Nat} {R:Nat->Int} {m:Da} {Q:Nat->LT->Prop}
theorem Rn.Ba {s:LT} (h:Q k s):Rn Ac Ab k s Q:=⟨0,s,.nil _,h⟩
theorem Rn.step {x y:XS} {i:GI} {t:Option Nat} (h:Ab[p]?=U i) (he:bt Ac i x=U (y,t)) (r:Rn Ac Ab (k+1) ⟨t.getD (p+1),y⟩ Q):Rn Ac Ab k ⟨p,x⟩ Q:=by
 obtain⟨j,u,hr,hq⟩:=r;exact⟨j+1,u,.cons (by grind [ps1]) hr,by rwa[show k+(j+1)=k+1+j by omega]⟩
theorem Rn.Y4 (h:Ab[p]?=U (.Y4 d a)) (hv:Ey R a=v) (r:Rn Ac Ab (k+1) ⟨p+1,⟨Cv R d.toNat v,m⟩⟩ Q):Rn Ac Ab k ⟨p,⟨R,m⟩⟩ Q:=
 Rn.step (t:=Z) h (by subst hv;rfl) r
theorem Rn.op {o:ByteArray} {b:Ag} {w:Int} (h:Ab[p]?=U (.op o d a b)) (hu:Ey R a=u) (hw:Ey R b=w) (hv:BO o u w=U v) (r:Rn Ac Ab (k+1) ⟨p+1,⟨Cv R d.toNat v,m⟩⟩ Q):Rn Ac Ab k ⟨p,⟨R,m⟩⟩ Q:=
 Rn.step (t:=Z) (y:=⟨Cv R d.toNat v,m⟩) h (by show(BO o (Ey R a) (Ey R b)).map _=_;rw[hu,hw,hv];rfl) r
theorem Rn.GF (h:Ab[p]?=U (.GF t)) (r:Rn Ac Ab (k+1) ⟨t.toNat,⟨R,m⟩⟩ Q):Rn Ac Ab k ⟨p,⟨R,m⟩⟩ Q:=Rn.step (t:=U t.toNat) h rfl r
theorem Rn.jz (h:Ab[p]?=U (.jz a t)) (hv:Ey R a=0) (r:Rn Ac Ab (k+1) ⟨t.toNat,⟨R,m⟩⟩ Q):Rn Ac Ab k ⟨p,⟨R,m⟩⟩ Q:=
 Rn.step (t:=U t.toNat) h (show U (_,if Ey R a=0 then _ else _)=_ by rw[Jb hv]) r
theorem Rn.jnz (h:Ab[p]?=U (.jz a t)) (hv:Ey R a≠0) (r:Rn Ac Ab (k+1) ⟨p+1,⟨R,m⟩⟩ Q):Rn Ac Ab k ⟨p,⟨R,m⟩⟩ Q:=
 Rn.step (t:=Z) h (show U (_,if Ey R a=0 then _ else _)=_ by rw[In hv]) r
variable (hb:Bs Ac)
include hb
theorem Rn.ld (o:Nat) (f:KU) (h:Ab[p]?=U (.load d (.n (Ac+e)) 0)) (hf:KU.Ss o=f) (hv:m.gk f=v) (r:Rn Ac Ab (k+1) ⟨p+1,⟨Cv R d.toNat v,m⟩⟩ Q) (he:e=o:=by omega) (ho:o<64:=by omega):Rn Ac Ab k ⟨p,⟨R,m⟩⟩ Q:=
 Rn.step (t:=Z) h (by subst hv;exact AkM hb o f he ho hf d ⟨R,m⟩) r
theorem Rn.st {b:Ag} (o:Nat) (f:KU) (h:Ab[p]?=U (.store (.n (Ac+e)) 0 b)) (hf:KU.Ss o=f) (hv:Ey R b=v) (r:Rn Ac Ab (k+1) ⟨p+1,⟨R,m.n7 v f⟩⟩ Q) (he:e=o:=by omega) (ho:o<64:=by omega):Rn Ac Ab k ⟨p,⟨R,m⟩⟩ Q:=
 Rn.step (t:=Z) h (by subst hv;exact AkL hb o f he ho hf b ⟨R,m⟩) r
theorem Rn.ldR (o:Nat) (f:KU) (h:Ab[p]?=U (.load d (.r i) (Ac+e))) (hf:KU.Ss o=f) (hv:m.gk f=v) (he:R i.toNat+e=o) (ho:o<64) (r:Rn Ac Ab (k+1) ⟨p+1,⟨Cv R d.toNat v,m⟩⟩ Q):Rn Ac Ab k ⟨p,⟨R,m⟩⟩ Q:=
 Rn.step (t:=Z) h (by subst hv;exact Ais hb o f ⟨R,m⟩ he ho hf d) r
theorem Rn.stR {b:Ag} (o:Nat) (f:KU) (h:Ab[p]?=U (.store (.r i) (Ac+e) b)) (hf:KU.Ss o=f) (hv:Ey R b=v) (he:R i.toNat+e=o) (ho:o<64) (r:Rn Ac Ab (k+1) ⟨p+1,⟨R,m.n7 v f⟩⟩ Q):Rn Ac Ab k ⟨p,⟨R,m⟩⟩ Q:=
 Rn.step (t:=Z) h (by subst hv;exact Air hb o f ⟨R,m⟩ he ho hf b) r
def Rg (l:List Nat) (R R':Nat->Int):Prop:=∀i,i∉l->R' i=R i
omit hb in
theorem Nz (a:At) (r:Int):(DL Ac a r).length<=1:=by unfold DL;split<;>simp
theorem Rn.val {ab:Nat} {a:At} {r:Int} (h:DP Ab (rz ab (DL Ac a r)) p) (ha:DO a) (q:∀R',Rg [r.toNat] R R'->Ey R' (GS.BD a r)=DV m.AX a->Rn Ac Ab (k+(DL Ac a r).length) ⟨p+(DL Ac a r).length,⟨R',m⟩⟩ Q):
  Rn Ac Ab k ⟨p,⟨R,m⟩⟩ Q:=by
 unfold DL at h q;unfold DO at ha;unfold GS.BD DV at q;split at h<;>rename_i hl
 .rw[Jb hl] at ha;simp only[Jb hl] at q;exact Rn.ld hb a.v.toNat (.AX a.v.toNat) (A9.1 h).1 (OW Y) rfl (q _ (λi hi=>Bp _ _ AC) (BK _ _ _))
 .simp only[In hl] at q;exact q R (λ_ _=>rfl) rfl
end
theorem zE (a:At) (r:Int):(GS.BD a r).Dd=V->(GS.BD a r).v=r:=by unfold GS.BD;split<;>simp[Ag.r,Ag.n]
theorem Vm (R:Nat->Int) {d:Int} (v:Int) {a:At} {r:Int} (h:r.toNat≠d.toNat):Ey (Cv R d.toNat v) (GS.BD a r)=Ey R (GS.BD a r):=by
 grind [Ey,zE,Bp]
theorem Aiu {l:List Nat} (h:Rg l R R') {a:At} {r:Int} (hr:r.toNat∉l):Ey R' (GS.BD a r)=Ey R (GS.BD a r):=by
 grind [Ey,zE,h _ hr]
theorem Rg.Cv {l:List Nat} (h:Rg l R R') {d:Nat} (v:Int) (hd:d∈l):Rg l R (Cv R' d v):=λi hi=>by
 rw[Bp _ _ AC];exact h i hi
theorem Rg.refl (l:List Nat) (R:Nat->Int):Rg l R R:=λ_ _=>rfl
theorem Rn.cell {Ac:Int} (hb:Bs Ac) {Ab:List GI} {ab:Nat} {f s:Int} {a:At} {k p:Nat} {R:Nat->Int} {m:Da} {Q:Nat->LT->Prop}
  (h:DP Ab (rz ab (GY Ac p f s a)) p) (ha:DO a) (hf:0<=f/\1<=s/\f+s<=6)
  (q1:DV m.AX a<0\/s<=DV m.AX a->∀j p' R',j<=7->Ab[p']?=U (.CR 2)->Q (k+j) ⟨p',⟨R',m⟩⟩)
  (q2:¬(DV m.AX a<0\/s<=DV m.AX a)->∀j R',j<=7->R' 0=f+DV m.AX a->Rn Ac Ab (k+j) ⟨p+(GY Ac p f s a).length,⟨R',m⟩⟩ Q):
  Rn Ac Ab k ⟨p,⟨R,m⟩⟩ Q:=by
 unfold GY at h q2;unfold rz at h;rw[JQ,Bw,JZ] at h;obtain⟨h1,h2⟩:=h;rw[GT] at q2;refine Rn.val hb h1 ha λR1 _ e1=>?_
 have hl:=Nz (Ac:=Ac) a 0;generalize (DL Ac a 0).length=n at*;unfold Vp at h2 q2;simp only[Js,Qu,LI.AN,A9] at h2;obtain⟨c0,c1,c2,c3,c4,c5,c6,c7,_⟩:=h2;generalize DV m.AX a=v at*;refine Rn.op c0 e1 (Eu _ _) (P3 _ _) ?_;by_cases hn:v<0
 .rw[Jb hn];refine Rn.jnz c1 (by rw[D2];decide) (Rn.Ba ?_);rw[show k+n+1+1=k+(n+2) by omega];exact q1 AC _ _ _ Y c2
 rw[In hn];refine Rn.jz c1 (D2 _ _ _) ?_;refine Rn.op c3 ((Vm _ _ Do).trans e1) (Eu _ _) (P3 _ _) ?_;refine Rn.op c4 (D2 _ _ _) (Eu _ _) (NS _ _) ?_;by_cases hs:v<s
 .rw[Jb hs];refine Rn.jz c5 (D2 _ _ _) ?_;refine Rn.op (u:=v) c7 (by rw[Vm _ _ Do,Vm _ _ Do,Vm _ _ Do];exact e1) (Eu _ _) ((NT _ _).trans (by rw[EP Y Y])) ?_;rw[show k+n+1+1+1+1+1+1=k+(n+6) by omega];exact q2 Y (n+6) _ Y ((BK _ 0 (v+f)).trans AC)
 .rw[In hs];refine Rn.jnz c5 (by rw[D2];decide) (Rn.Ba ?_);rw[show k+n+1+1+1+1+1=k+(n+5) by omega];exact q1 AC _ _ _ Y c6
section
variable {Ac:Int} {Ab:List GI} {k p:Nat} {R:Nat->Int} {m:Da} {Q:Nat->LT->Prop} (hb:Bs Ac)
include hb
theorem Rn.open {ab:Nat} (h:DP Ab (rz ab (KD Ac 2)) p) (hr:R 2=lv) (hl:0<=lv/\lv<8000000000000000000) (hs:m.start=rv)
  (q1:(¬∃w,lv=2*w/\0<=w/\w<=rv)->∀j R',j<=8->Rn Ac Ab (k+j) ⟨ab,⟨R',m⟩⟩ Q) (q2:∀v,lv=2*v->0<=v->v<=rv->∀R',Rg [3,4] R R'->Rn Ac Ab (k+8) ⟨p+8,⟨R',m⟩⟩ Q):
  Rn Ac Ab k ⟨p,⟨R,m⟩⟩ Q:=by
 unfold KD at h;unfold rz at h;simp only[Js,Qu,LI.AN,A9] at h;obtain⟨c0,c1,c2,c3,c4,c5,c6,c7,_⟩:=h;obtain⟨v,hv,hv2⟩:∃v,0<=v/\(lv=2*v\/lv=2*v+1):=⟨lv / 2,Y,Y⟩;rcases hv2 with rfl|rfl
 .refine Rn.op c0 (u:=2*v) hr (Eu _ _) ((V0 _ _).trans (by rw[mG v hv Y])) ?_;refine Rn.op c1 (D2 _ _ _) (Eu _ _) (NS _ _) ?_;rw[Jb rfl];refine Rn.jnz c2 (by rw[D2];decide) ?_;refine Rn.op c3 (u:=2*v) hr (Eu _ _) ((wF _).trans (by rw[Aan v hv Y])) ?_;refine Rn.ld hb 38 .start c4 rfl hs ?_;refine Rn.op c5 (u:=rv) (w:=v) (D2 _ _ _) rfl (P3 _ _) ?_;refine Rn.op c6 (D2 _ _ _) (Eu _ _) (NS _ _) ?_;by_cases hlt:rv<v
  .rw[Jb hlt];exact Rn.jz c7 (D2 _ _ _) (q1 AC 8 _ AC)
  .rw[In hlt];refine Rn.jnz c7 (by rw[D2];decide) (q2 v rfl hv Y _ ?_);exact(((((((Rg.refl _ _).Cv _ (d:=3) EQ).Cv _ (d:=3) EQ).Cv _ (d:=3) EQ).Cv _ (d:=4) EQ).Cv _ (d:=3) EQ).Cv _ (d:=3) EQ)
 .refine Rn.op c0 (u:=2*v+1) hr (Eu _ _) ((V0 _ _).trans (by rw[AfT v hv Y])) ?_;refine Rn.op c1 (D2 _ _ _) (Eu _ _) (NS _ _) ?_;exact Rn.jz c2 (D2 _ _ _) (q1 AC 3 _ Y)
theorem Rn.Kg {ab:Nat} (h:DP Ab (rz ab (TW Ac p)) p) (hc:c<6) (hr:R 0=(c:Int)) (q1:m.wr c≠0->∀R',R' 1=m.vl c->Rn Ac Ab (k+4) ⟨p+18,⟨R',m⟩⟩ Q) (q2:m.wr c=0->∀R',R' 0=(c:Int)->Q (k+2) ⟨p+4,⟨R',m⟩⟩):
  Rn Ac Ab k ⟨p,⟨R,m⟩⟩ Q:=by
 unfold TW at h;unfold rz at h;simp only[JQ,Ji,Js,Jx,LI.AN,A9] at h;obtain⟨c0,c1,c2,c3,_⟩:=h;refine Rn.ldR hb (8+c) (.wr c) c0 (OV hc) rfl AC Y ?_;by_cases hw:m.wr c=0
 .refine Rn.jz c1 (by rw[D2];exact hw) (Rn.Ba (q2 hw _ ?_))<;>grind [Bp]
 .refine Rn.jnz c1 (by rw[D2];exact hw) ?_;refine Rn.ldR hb (14+c) (.vl c) c2 (rh hc) rfl ?_ Y ?_;grind [Bp];exact Rn.GF c3 (q1 hw _ (BK _ _ _))
theorem Rn.Fp {ab:Nat} (h:DP Ab (rz ab (TW Ac p0)) p0) (hr:R 0=(c:Int)) (h2:R 2=lv) (hl:0<=lv/\lv<8000000000000000000) (hs:m.start=rv)
  (q1:(¬∃w,lv=2*w/\0<=w/\w<=rv)->∀j R',j<=8->Rn Ac Ab (k+j) ⟨ab,⟨R',m⟩⟩ Q) (q2:∀v,lv=2*v->0<=v->v<=rv->∀R',R' 0=(c:Int)->R' 2=lv->Rn Ac Ab (k+8) ⟨p0+13,⟨R',m⟩⟩ Q):
  Rn Ac Ab k ⟨p0+5,⟨R,m⟩⟩ Q:=by
 unfold TW rz at h;rw[JQ,JQ,Ji,Bw,Bw] at h;exact Rn.open hb h.2.1 h2 hl hs q1 λv e1 e2 e3 R' hg=>q2 v e1 e2 e3 R' ((hg 0 Do).trans hr) ((hg 2 Do).trans h2)
theorem Rn.Fy {ab:Nat} {lw:Int} (h:DP Ab (rz ab (TW Ac p0)) p0) (hc:c<6) (hr:R 0=(c:Int)) (h1:R 1=x) (h2:R 2=lv) (h3:R 3=lw)
  (q1:lw≠lv->∀R',Rn Ac Ab (k+2) ⟨ab,⟨R',m⟩⟩ Q) (q2:lw=lv->∀R',R' 1=x->Rn Ac Ab (k+3) ⟨p0+18,⟨R',{m with rd:=Cv m.rd c 1}⟩⟩ Q):
  Rn Ac Ab k ⟨p0+15,⟨R,m⟩⟩ Q:=by
 unfold TW rz at h;rw[JQ,Bw] at h;have h':=h.2;simp only[Js,LI.AN,A9] at h';obtain⟨_,_,c0,c1,c2,_⟩:=h';refine Rn.op c0 (u:=lw) (w:=lv) h3 h2 (NS _ _) ?_;by_cases he:lw=lv
 .rw[Jb he];refine Rn.jnz c1 (by rw[D2];decide) ?_;refine Rn.stR hb (20+c) (.rd c) c2 (gv hc) (Eu _ _) ?_ Y (q2 he _ ((Bp _ _ Do).trans h1))<;>grind [Cv]
 .rw[In he];exact Rn.jz c1 (D2 _ _ _) AC
end
theorem Ed (hL:∀c p,(f c p).length=L):∀n p,(Fj f n p).length=L*n
 |0,p=>rfl
 |n+1,p=>by rw[Fj,GT,Ed hL n p,hL,jY]
theorem Kt (hL:∀c p,(f c p).length=L) {Ab:List GI} {ab:Nat} {n p:Nat} (h:DP Ab (rz ab (Fj f n p)) p) {c:Nat} (hc:c<n):DP Ab (rz ab (f c (p+L*c))) (p+L*c):=by
 induction n<;>grind [Fj,CC,Bw,CM,Ed]
theorem Rn.Oo {Ac:Int} {Ab:List GI} (hL:∀c p,(f c p).length=L) {ab n p:Nat} (h:DP Ab (rz ab (Fj f n p)) p) (Z97:Nat->(Nat->Int)->Da->Prop)
  (hs:∀c,c<n->∀pc k R m,DP Ab (rz ab (f c pc)) pc->Z97 c R m->∀Q,(∀R' m',Z97 (c+1) R' m'->Rn Ac Ab (k+L) ⟨pc+L,⟨R',m'⟩⟩ Q)->Rn Ac Ab k ⟨pc,⟨R,m⟩⟩ Q)
  {k:Nat} {R:Nat->Int} {m:Da} {Q:Nat->LT->Prop} (h0:Z97 0 R m) (q:∀R' m',Z97 n R' m'->Rn Ac Ab (k+L*n) ⟨p+L*n,⟨R',m'⟩⟩ Q):Rn Ac Ab k ⟨p,⟨R,m⟩⟩ Q:=by
 have key:∀i,i<=n->∀R m,Z97 (n-i) R m->Rn Ac Ab (k+L*(n-i)) ⟨p+L*(n-i),⟨R,m⟩⟩ Q:=by
  intro i;induction i<;>grind [Kt,Nat.mul_succ,Nat.add_assoc]
 have:=key n AC R m (by rw[QQ];exact h0);rw[QQ] at this;grind
def l7 (f g:Nat->Int) (c:Nat):Nat->Int:=λi=>if i<c then g i else f i
theorem Ac8 (f g:Nat->Int):l7 f g 0=f:=by funext i;simp[l7]
theorem ZR (f g:Nat->Int) (c:Nat):Cv (l7 f g c) c (g c)=l7 f g (c+1):=by
 funext i;grind [Cv,l7]
theorem Wp (f g:Nat->Int) {c i:Nat} (h:i<c):l7 f g c i=g i:=by simp[l7,h]
section
variable {Ac:Int} {Ab:List GI} {k p:Nat} {R:Nat->Int} {m:Da} {Q:Nat->LT->Prop} (hb:Bs Ac)
include hb
theorem Rn.og {ab:Nat} (h:DP Ab (rz ab (Fj (O5 Ac) 4 p)) p) (q:∀R',Rn Ac Ab (k+8) ⟨p+8,⟨R',{m with Gm:=l7 m.Gm m.AX 4}⟩⟩ Q):Rn Ac Ab k ⟨p,⟨R,m⟩⟩ Q:=by
 refine Rn.Oo (L:=2) (λ_ _=>rfl) h (λc _ m'=>m'={m with Gm:=l7 m.Gm m.AX c}) ?_ (by rw[Ac8]) AC;rintro c hc pc k R m' hl rfl Q q;unfold O5 rz at hl;simp only[Js,LI.AN,A9] at hl;obtain⟨c0,c1,_⟩:=hl;refine Rn.ld hb c (.AX c) c0 (OW hc) rfl ?_;refine Rn.st hb (4+c) (.Gm c) c1 (lY hc) (D2 _ _ _) (q _ _ ?_);show _=_;rw[<-ZR];rfl
theorem Rn.AJ {ab:Nat} (h:DP Ab (rz ab (Fj (P8 Ac) 4 p)) p) (q:∀R',Rn Ac Ab (k+8) ⟨p+8,⟨R',{m with AX:=l7 m.AX m.Gm 4}⟩⟩ Q):Rn Ac Ab k ⟨p,⟨R,m⟩⟩ Q:=by
 refine Rn.Oo (L:=2) (λ_ _=>rfl) h (λc _ m'=>m'={m with AX:=l7 m.AX m.Gm c}) ?_ (by rw[Ac8]) AC;rintro c hc pc k R m' hl rfl Q q;unfold P8 rz at hl;simp only[Js,LI.AN,A9] at hl;obtain⟨c0,c1,_⟩:=hl;refine Rn.ld hb (4+c) (.Gm c) c0 (lY hc) rfl ?_;refine Rn.st hb c (.AX c) c1 (OW hc) (D2 _ _ _) (q _ _ ?_);show _=_;rw[<-ZR];rfl
theorem Rn.Og {ab n:Nat} (hn:n<=6) (h:DP Ab (rz ab (Fj (KY Ac) n p)) p) (q:∀R',Rn Ac Ab (k+3*n) ⟨p+3*n,⟨R',{m with wr:=l7 m.wr (λ_=>0) n,rd:=l7 m.rd (λ_=>0) n,lk:=l7 m.lk (λ_=>0) n}⟩⟩ Q):Rn Ac Ab k ⟨p,⟨R,m⟩⟩ Q:=by
 refine Rn.Oo (L:=3) (λ_ _=>rfl) h (λc _ m'=>m'={m with wr:=l7 m.wr (λ_=>0) c,rd:=l7 m.rd (λ_=>0) c,lk:=l7 m.lk (λ_=>0) c}) ?_ (by simp only[Ac8]) AC;rintro c hc pc k R m' hl rfl Q q;unfold KY rz at hl;simp only[Js,LI.AN,A9] at hl;obtain⟨c0,c1,c2,_⟩:=hl;refine Rn.st hb (8+c) (.wr c) c0 (OV Y) (Eu _ _) ?_;refine Rn.st hb (20+c) (.rd c) c1 (gv Y) (Eu _ _) ?_;refine Rn.st hb (26+c) (.lk c) c2 (Wo Y) (Eu _ _) (q _ _ ?_);simp only[<-ZR];rfl
end
structure Bc where
 K0:Nat->Int
 S0:Int
structure BI (n:Nat) (B:Bc) (m:Da) (A3 rd Bi:Nat->Option Int) (o:List Int):Prop where
 Gm:∀i,i<4->m.Gm i=B.K0 i
 start:m.start=B.S0
 wr0:∀c,c<n->A3 c=Z->m.wr c=0
 zv:∀c v,c<n->A3 c=U v->m.wr c=1/\m.vl c=v
 rd0:∀c,c<n->m.rd c=if (rd c).isSome then 1 else 0
 lk0:∀c,c<n->m.lk c=if (Bi c).isSome then 1 else 0
 pM:∀c v,c<n->Bi c=U v->m.hd c=v
 yU:m.count=J o
 An:∀i x,o[i]?=U x->m.An i=x
structure Mt (n:Nat) (cells:Int) (B:Bc) (rd Bi:Nat->Option Int) (q:KS) (m:Da):Prop where
 L:∀i,i<4->m.AX i=q.L i
 R:∀d,d<q.k.Af->m.DE d=q.R d
 wf:Om cells q.R (.rest q.s q.k)
 bi:q.k.Db=V->BI n B m q.A3 rd Bi q.o/\J q.o+gR (.rest q.s q.k) q.R<=8
def Bz (q:KS):Option Int:=match q.s with
 |.set _ op a b _=>if op.size≠0/\BO op (DV q.L a) (DV q.L b)=Z then U 1 else Z
 |.get _ _ s a _=>if DV q.L a<0\/s<=DV q.L a then U 2 else Z
 |.put _ s i _ _=>if DV q.L i<0\/s<=DV q.L i then U 2 else Z
 |_=>Z
def Ai2 (i:GI) (R:Nat->Int) (t:Int):Prop:=(i=.CR 2/\t=2)\/(∃o d a b,i=.op o d a b/\BO o (Ey R a) (Ey R b)=Z/\t=1)
section
variable (Ac:Int) (n:Nat) (Ab:List GI)
structure uJ (ab:Nat) (b s:Bj) (k:KK) (lt:LT):Prop where
 ld:Ab[lt.pc]?=U (.load 1 (.n 16) 0)
 st:Ab[lt.pc+1]?=U (.store (.n (Ac+38)) 0 (.r 1))
 Mh:PD Ac n Ab ab (.rest b (.Ao b s k)) (lt.pc+2)
 cl:∀c,c<n->lt.x.m.wr c=0/\lt.x.m.rd c=0/\lt.x.m.lk c=0
 yU:lt.x.m.count=0
 kp:∀i,i<4->lt.x.m.Gm i=lt.x.m.AX i
structure AgM (ab c p0:Nat) (v:Int) (r:Bj) (k:KK):Prop where
 get:DP Ab (rz ab (TW Ac p0)) p0
 st:Ab[p0+18]?=U (.store (.n (Ac+v)) 0 (.r 1))
 Mh:PD Ac n Ab ab (.rest r k) (p0+19)
 lt:c<n
inductive gH (cells:Int) (B:Bc) (rd Bi:Nat->Option Int) (ab:Nat):KS->LT->Prop
 |halt {q:KS} {lt:LT} (hs:q.s=.nil) (hk:q.k=.done) (hc:Ab[lt.pc]?=U .halt):gH cells B rd Bi ab q lt
 |out {q:KS} {lt:LT} {a:At} {r:Bj} {g:Ag} (hk:q.k.Db=I) (hs:q.s=.out a r) (hc:Ab[lt.pc]?=U (.out g)) (hg:Ey lt.x.R g=DV q.L a) (hp:PD Ac n Ab ab (.rest r q.k) (lt.pc+1)) (hm:Mt n cells B rd Bi q lt.x.m):gH cells B rd Bi ab q lt
 |CR {q:KS} {lt:LT} {t:Int} {i:GI} (ht:Bz q=U t) (hc:Ab[lt.pc]?=U i) (hi:Ai2 i lt.x.R t):gH cells B rd Bi ab q lt
 |Of {q:KS} {lt:LT} {b r:Bj} {ab':Nat} (hs:q.s=.atomic b r) (hk:q.k.Db=I) (hc:uJ Ac n Ab ab' b r q.k lt) (hL:∀i,i<4->lt.x.m.AX i=q.L i) (hR:∀d,d<q.k.Af->lt.x.m.DE d=q.R d) (hw:Om cells q.R (.rest q.s q.k)):gH cells B rd Bi ab q lt
 |get {q:KS} {lt:LT} {v f s:Int} {a:At} {r:Bj} {c p0:Nat} (hs:q.s=.get v f s a r) (hk:q.k.Db=V) (ha:0<=DV q.L a/\DV q.L a<s) (hc:(c:Int)=f+DV q.L a) (hn:q.A3 c=Z) (hg:AgM Ac n Ab ab c p0 v r q.k) (Tb:lt.pc=p0+4) (h0:lt.x.R 0=c) (hm:Mt n cells B rd Bi q lt.x.m):gH cells B rd Bi ab q lt
 |D1 {q:KS} {lt:LT} {b s:Bj} {k:KK} (hs:q.s=.nil) (hk:q.k=.Ao b s k) (hp:PD Ac n Ab ab (.Ao b s k) lt.pc) (hm:Mt n cells B rd Bi q lt.x.m):gH cells B rd Bi ab q lt
end
theorem T2 {L L':Nat->Int} {a:At} (ha:DO a) (h:∀i,i<4->L i=L' i):DV L a=DV L' a:=by
 grind [DO,DV]
theorem BI.AX {n:Nat} {B:Bc} {rd Bi:Nat->Option Int} (h:BI n B m A3 rd Bi o) (l:Nat->Int) (r:Nat->Int):BI n B {m with AX:=l,DE:=r} A3 rd Bi o:=
 ⟨h.Gm,h.start,h.wr0,h.zv,h.rd0,h.lk0,h.pM,h.yU,h.An⟩
theorem BI.put {n:Nat} {B:Bc} {rd Bi:Nat->Option Int} (h:BI n B m A3 rd Bi o) (c:Nat) (v:Int):BI n B {m with vl:=Cv m.vl c v,wr:=Cv m.wr c 1} (En A3 c v) rd Bi o where
 Gm:=h.Gm
 start:=h.start
 wr0:=λd hd hm=>by
  grind [En,Bp,BI]
 zv:=λd w hd hm=>by
  grind [En,BK,Bp,BI]
 rd0:=h.rd0
 lk0:=h.lk0
 pM:=h.pM
 yU:=h.yU
 An:=h.An
theorem BI.out {n:Nat} {B:Bc} {m:Da} {A3 rd Bi:Nat->Option Int} {o:List Int} (h:BI n B m A3 rd Bi o) (v:Int):BI n B {m with An:=Cv m.An (J o) v,count:=J o+1} A3 rd Bi (o++[v]) where
 Gm:=h.Gm
 start:=h.start
 wr0:=h.wr0
 zv:=h.zv
 rd0:=h.rd0
 lk0:=h.lk0
 pM:=h.pM
 yU:=EQ
 An:=λi x hx=>by
  grind [BK,Bp,BI]
theorem BI.Og {n:Nat} (h:∀c,c<n->m.wr c=0/\m.rd c=0/\m.lk c=0) (hc:m.count=0):BI n ⟨m.Gm,m.start⟩ m (λ_=>Z) (λ_=>Z) (λ_=>Z) [] where
 Gm:=AC
 start:=rfl
 wr0:=AC
 zv:=AC
 rd0:=AC
 lk0:=AC
 pM:=AC
 yU:=hc
 An:=AC
section
variable {Ac:Int} {n:Nat} {Ab:List GI} {cells:Int} {B:Bc} {rd Bi:Nat->Option Int} {ab:Nat}
theorem Rn.C5 (hb:Bs Ac) (hn:n<=6) {b s:Bj} {k:KK} {C5 j:Nat} {R:Nat->Int} {m:Da} {Q:Nat->LT->Prop} (h:DP Ab (rz ab (KW Ac n C5)) C5) (hp:PD Ac n Ab ab (.rest b (.Ao b s k)) (C5+(KW Ac n C5).length)) (hk:∀i,i<4->m.Gm i=m.AX i)
  (q:∀lt',uJ Ac n Ab ab b s k lt'->lt'.x.m.AX=m.AX->lt'.x.m.DE=m.DE->Q (j+3*n+1) lt'):Rn Ac Ab j ⟨C5,⟨R,m⟩⟩ Q:=by
 have hl:(KW Ac n C5).length=3*n+3:=by grind [KW,Ed,KY]
 rw[hl] at hp;unfold KW at h;rw[CC,Bw,CM,Ed (f:=KY Ac) (L:=3) (λ_ _=>rfl)] at h;obtain⟨h1,h2⟩:=h;unfold rz at h2;simp only[Js,LI.AN,A9] at h2;obtain⟨c0,c1,c2,_⟩:=h2;refine Rn.Og hb hn h1 λR'=>?_
 refine Rn.st hb 39 .count c0 rfl (Eu _ _) (Rn.Ba (q _ ⟨c1,c2,?_,?_,rfl,hk⟩ rfl rfl));grind
 .exact λc hc=>⟨Wp m.wr (λ_=>0) hc,Wp m.rd (λ_=>0) hc,Wp m.lk (λ_=>0) hc⟩
end
section
section
variable (Ac:Int) (n:Nat) (Ab:List GI) (cells:Int) (B:Bc) (rd Bi:Nat->Option Int) (ab:Nat)
def Dy (q:KS):Nat:=KB (.rest q.s q.k) q.R
def N1 (q:KS) (j:Nat) (lt:LT):Prop:=(∃q',Ot (λ_=>Z) q=U q'/\PD Ac n Ab ab (.rest q'.s q'.k) lt.pc/\Mt n cells B rd Bi q' lt.x.m/\j+1+Dy q'<=Dy q)\/(j<=Nc q.s/\gH Ac n Ab cells B rd Bi ab q lt)
end
variable {Ac:Int} {n:Nat} {Ab:List GI} {cells:Int} {B:Bc} {rd Bi:Nat->Option Int} {ab:Nat}
theorem Mt.Aec {v:Nat} {x:Int} {r:Bj} (h:Mt n cells B rd Bi q m) (hw:WF cells r q.k.dp q.k.Db/\AB r) (ho:ob r<=ob q.s):Mt n cells B rd Bi {q with s:=r,L:=Cv q.L v x} {m with AX:=Cv m.AX v x} where
 L:=λi hi=>by
  grind [BK,Bp,Mt]
 R:=h.R
 wf:=⟨hw,h.wf.2⟩
 bi:=λhb=>⟨(h.bi hb).1.AX (Cv m.AX v x) m.DE,by have:=(h.bi hb).2;grind [gR]⟩
theorem Ahq (hb:Bs Ac) {q:KS} {lt:LT} {v:Int} {op:ByteArray} {a b:At} {r:Bj} (hq:q.s=.set v op a b r) (hp:PD Ac n Ab ab (.rest q.s q.k) lt.pc) (hm:Mt n cells B rd Bi q lt.x.m):Rn Ac Ab 0 lt (N1 Ac n Ab cells B rd Bi ab q):=by
 obtain⟨⟨⟨Fu,Mi,Ld,aU,au⟩,hA⟩,hk⟩:=(by have:=hm.wf;rw[hq] at this;exact this);obtain⟨hl,Fa⟩:=(by rw[hq] at hp;exact hp);rw[Gu,CC,Bw,CM] at hl;rw[Gu,GT,<-Jq] at Fa;have Xq:PD Ac n Ab ab (.rest r q.k) (lt.pc+(aM Ac v op a b).length):=⟨hl.2,Fa⟩;have hs:=hl.1;obtain⟨p,R,m⟩:=lt;have ea:DV m.AX a=DV q.L a:=T2 Ld hm.L;have eb:DV m.AX b=DV q.L b:=T2 aU hm.L;have BJ:∀x,Dy {q with s:=r,L:=Cv q.L v.toNat x}+5=Dy q:=λx=>by
  grind [Dy,KB,AW]
 have hv:=Nz (Ac:=Ac) a 1;have hv2:=Nz (Ac:=Ac) b 2;by_cases ho:op.size=0
 .unfold aM at hs Xq;rw[Jb ho] at hs Xq;rw[CC,Bw,CM] at hs;refine Rn.val hb hs.1 Ld λR1 _ e1=>?_
  refine Rn.st hb v.toNat (.AX v.toNat) (A9.1 hs.2).1 (OW Y) e1 (Rn.Ba (.inl ⟨{q with s:=r,L:=Cv q.L v.toNat (DV q.L a)},?_,?_,?_,?_⟩));grind [Ot];grind
  .rw[ea];exact hm.Aec ⟨au,hA⟩ (by rw[hq];exact Jf _)
  grind
 .unfold aM at hs Xq;rw[In ho] at hs Xq;rw[CC,CC,Bw,Bw,GT,CM,CM] at hs;refine Rn.val hb hs.1.1 Ld λR1 _ e1=>?_
  refine Rn.val hb hs.1.2 aU λR2 g2 e2=>?_
  have e1':Ey R2 (GS.BD a 1)=DV m.AX a:=(Aiu g2 Do).trans e1;obtain⟨c0,c1,_⟩:Ab[p+(DL Ac a 1).length+(DL Ac b 2).length]?=U (.op op 1 (GS.BD a 1) (GS.BD b 2))/\Ab[p+(DL Ac a 1).length+(DL Ac b 2).length+1]?=U (.store (.n (Ac+v)) 0 (.r 1))/\True:=by
   have:=hs.2;grind [rz,LI.AN,A9]
  cases hx:BO op (DV q.L a) (DV q.L b) with
  |none=>exact Rn.Ba (.inr ⟨by rw[hq];grind [Nc],.CR (t:=1) (by unfold Bz;rw[hq];simp only[hx];rw[Jb AC]) c0 (.inr ⟨_,_,_,_,rfl,by rw[e1',e2,ea,eb];exact hx,rfl⟩)⟩)
  |some x=>
   refine Rn.op c0 e1' e2 (by rw[ea,eb];exact hx) ?_;refine Rn.st hb v.toNat (.AX v.toNat) c1 (OW Y) (D2 _ _ _) (Rn.Ba (.inl ⟨{q with s:=r,L:=Cv q.L v.toNat x},?_,?_,hm.Aec ⟨au,hA⟩ (by rw[hq];exact Jf _),?_⟩))<;>grind [Ot]
theorem mg {f s:Int} {cells:Int} (hf:0<=f/\1<=s/\f+s<=cells) (hi:¬(i<0\/s<=i)) (hn:n=cells.toNat):∃c:Nat,(c:Int)=f+i/\c=(f+i).toNat/\c<n:=⟨(f+i).toNat,Y,rfl,Y⟩
theorem Ahv (hb:Bs Ac) (hn:n=cells.toNat) (h6:cells<=6) {q:KS} {lt:LT} {v f s:Int} {a:At} {r:Bj} (hq:q.s=.get v f s a r) (hp:PD Ac n Ab ab (.rest q.s q.k) lt.pc) (hm:Mt n cells B rd Bi q lt.x.m):Rn Ac Ab 0 lt (N1 Ac n Ab cells B rd Bi ab q):=by
 obtain⟨⟨⟨Fu,Mi,Ld,aU,au⟩,hA⟩,hk⟩:=(by have:=hm.wf;rw[hq] at this;exact this);obtain⟨hl,Fa⟩:=(by rw[hq] at hp;exact hp);rw[Gu] at hl Fa;simp only[CC,Bw,CM,GT] at hl Fa;obtain⟨⟨⟨h1,h2⟩,h3⟩,h4⟩:=hl;obtain⟨p,R,m⟩:=lt;have ea:DV m.AX a=DV q.L a:=T2 Ld hm.L;refine Rn.cell hb h1 Ld Y (λho j p' R' hj hc=> .inr ⟨by rw[hq];grind [Nc],.CR (t:=2) ?_ hc (.inl AC)⟩) λho j R' hj hr=>?_
 grind [Bz];obtain⟨c,hc,hcn,B8⟩:=mg Mi ho hn;have hg:(TW Ac (p+(GY Ac p f s a).length)).length=18:=rfl;rw[hg] at h3 h4 Fa;have Aw:=(A9.1 h3).1;have Xq:PD Ac n Ab ab (.rest r q.k) (p+(GY Ac p f s a).length+19):=⟨h4,by rw[<-Jq] at Fa;exact Fa⟩;have Mp:=hm.bi aU;refine Rn.Kg hb (c:=c) h2 Y AC (λxi R2 h1=>?_) λxi R2 h0=> .inr ⟨by rw[hq];grind [Nc],?_⟩
 .cases tA:q.A3 c with
  |none=>grind [Mp.1.wr0 c B8 tA]
  |some x=>
   have hx:=(Mp.1.zv c x B8 tA).2;refine Rn.st hb v.toNat (.AX v.toNat) (v:=x) Aw (OW Y) (by rw[lU];exact h1.trans hx) (Rn.Ba (.inl ⟨{q with s:=r,L:=Cv q.L v.toNat x},?_,Xq,hm.Aec ⟨au,hA⟩ (by rw[hq];exact Jf _),?_⟩))<;>grind [Ot,Dy,KB,AW]
 .have tA:q.A3 c=Z:=by
   cases tA:q.A3 c with
   |none=>rfl
   |some x=>have:=(Mp.1.zv c x B8 tA).1;rw[xi] at this;cases this
  exact .get (c:=c) hq aU (by rw[<-ea];omega) (by rw[<-ea];exact hc) tA ⟨h2,Aw,Xq,B8⟩ rfl h0 hm
theorem Ahr (hb:Bs Ac) (hn:n=cells.toNat) (h6:cells<=6) {q:KS} {lt:LT} {f s:Int} {i a:At} {r:Bj} (hq:q.s=.put f s i a r) (hp:PD Ac n Ab ab (.rest q.s q.k) lt.pc) (hm:Mt n cells B rd Bi q lt.x.m):Rn Ac Ab 0 lt (N1 Ac n Ab cells B rd Bi ab q):=by
 obtain⟨⟨⟨Mi,Ld,hwa,aU,au⟩,hA⟩,hk⟩:=(by have:=hm.wf;rw[hq] at this;exact this);obtain⟨hl,Fa⟩:=(by rw[hq] at hp;exact hp);rw[Gu] at hl Fa;simp only[CC,Bw,CM,GT] at hl Fa;obtain⟨⟨⟨h1,h2⟩,h3⟩,h4⟩:=hl;obtain⟨p,R,m⟩:=lt;simp only[<-Jq] at h4 Fa;have ei:DV m.AX i=DV q.L i:=T2 Ld hm.L;have ea:DV m.AX a=DV q.L a:=T2 hwa hm.L;refine Rn.cell hb h1 Ld Y (λho j p' R' hj hc=> .inr ⟨by rw[hq];grind [Nc],.CR (t:=2) ?_ hc (.inl AC)⟩) λho j R' hj hr=>?_
 grind [Bz];obtain⟨c,hc,hcn,B8⟩:=mg Mi ho hn;have hv:=Nz (Ac:=Ac) a 1;refine Rn.val hb h2 hwa λR1 g1 e1=>?_
 have h0:R1 0=c:=(g1 0 Do).trans AC;unfold rz at h3;simp only[Js,LI.AN,A9,<-Jq] at h3;obtain⟨c0,c1,_⟩:=h3;refine Rn.stR hb (14+c) (.vl c) c0 (rh Y) e1 AC Y ?_;refine Rn.stR hb (8+c) (.wr c) c1 (OV Y) (Eu _ _) AC Y (Rn.Ba (.inl ⟨{q with s:=r,A3:=En q.A3 c (DV q.L a)},?_,⟨h4,?_⟩,⟨hm.L,hm.R,⟨⟨au,hA⟩,hk⟩,λhb=>⟨?_,?_⟩⟩,?_⟩));grind [Ot];grind
 .rw[ea];exact(hm.bi aU).1.put c _
 grind [gR,ob,Mt];grind [Dy,KB,AW]
theorem Ahs (hb:Bs Ac) {q:KS} {lt:LT} {a:At} {r:Bj} (hq:q.s=.out a r) (hp:PD Ac n Ab ab (.rest q.s q.k) lt.pc) (hm:Mt n cells B rd Bi q lt.x.m):Rn Ac Ab 0 lt (N1 Ac n Ab cells B rd Bi ab q):=by
 obtain⟨⟨⟨hwa,au⟩,hA⟩,hk⟩:=(by have:=hm.wf;rw[hq] at this;exact this);obtain⟨hl,Fa⟩:=(by rw[hq] at hp;exact hp);rw[Gu] at hl Fa;unfold kr at hl Fa;simp only[CC,Bw,CM,GT] at hl Fa;obtain⟨⟨h1,h2⟩,h4⟩:=hl;obtain⟨p,R,m⟩:=lt;simp only[<-Jq] at h4 Fa;have ea:DV m.AX a=DV q.L a:=T2 hwa hm.L;have hv:=Nz (Ac:=Ac) a 1;refine Rn.val hb h1 hwa λR1 g1 e1=>?_
 by_cases hi:q.k.Db=V
 .rw[Jb hi] at h2 h4 Fa;have Mp:=hm.bi hi;have tz:J q.o+1+gR (.rest r q.k) q.R<=8:=by have:=Mp.2;rw[hq] at this;grind [gR,ob]
  unfold rz at h2;simp only[Js,LI.AN,A9,<-Jq] at h2;obtain⟨c0,c1,c2,c3,_⟩:=h2;refine Rn.ld hb 39 .count (v:=J q.o) c0 rfl Mp.1.yU ?_;refine Rn.stR hb (40+J q.o) (.An (J q.o)) c1 (lX Y) ((Vm R1 _ Do).trans e1) ?_ Y ?_;grind [BK];refine Rn.op c2 (u:=J q.o) (D2 _ _ _) (Eu _ _) ((NT _ _).trans (by rw[EP Y Y])) ?_;refine Rn.st hb 39 .count c3 rfl (D2 _ _ _) (Rn.Ba (.inl ⟨{q with s:=r,o:=q.o++[DV q.L a]},?_,⟨h4,Fa⟩,⟨hm.L,hm.R,⟨⟨au,hA⟩,hk⟩,λ_=>⟨?_,?_⟩⟩,?_⟩));grind [Ot]
  .rw[ea];exact Mp.1.out _
  grind;grind [Dy,KB,AW]
 .have pI:q.k.Db=I:=AC
  rw[In hi] at h2 h4 Fa;exact Rn.Ba (.inr ⟨by rw[hq];grind [Nc],.out pI hq (A9.1 h2).1 AC ⟨h4,Fa⟩ hm⟩)
theorem Ahu (hb:Bs Ac) {q:KS} {lt:LT} {a:At} {b r:Bj} (hq:q.s=.Es a b r) (hp:PD Ac n Ab ab (.rest q.s q.k) lt.pc) (hm:Mt n cells B rd Bi q lt.x.m):Rn Ac Ab 0 lt (N1 Ac n Ab cells B rd Bi ab q):=by
 obtain⟨⟨⟨hwa,hd,Vb,au⟩,hA1,hA2⟩,hk⟩:=(by have:=hm.wf;rw[hq] at this;exact this);obtain⟨hl,Fa⟩:=(by rw[hq] at hp;exact hp);rw[Gu] at hl Fa;simp only[CC,Bw,CM,GT,Jg] at hl Fa;obtain⟨⟨h1,h2⟩,h4⟩:=hl;rw[rz,Js] at h2;obtain⟨h2,h3⟩:=A9.1 h2;obtain⟨p,R,m⟩:=lt;have ea:DV m.AX a=DV q.L a:=T2 hwa hm.L;have hv:=Nz (Ac:=Ac) a 1;refine Rn.val hb h1 hwa λR1 g1 e1=>?_
 generalize hlen:(Gu Ac n q.k.Db q.k.Af (p+(DL Ac a 1).length+1) b).length=lb at*;have e2:p+((DL Ac a 1).length+(lb+1))=p+(DL Ac a 1).length+1+lb:=Y
 rw[e2] at h4;have gV:PD Ac n Ab ab q.k (p+(DL Ac a 1).length+1+lb+(Gu Ac n q.k.Db q.k.Af (p+(DL Ac a 1).length+1+lb) r).length):=by
  rw[<-e2,Jq];exact Fa
 by_cases h0:DV q.L a=0
 .refine Rn.jz h2 (by rw[e1,ea];exact h0) (Rn.Ba (.inl ⟨{q with s:=r},?_,⟨h4,gV⟩,⟨hm.L,hm.R,⟨⟨au,hA2⟩,hk⟩,λhb=>⟨(hm.bi hb).1,?_⟩⟩,?_⟩))<;>grind [Ot,gR,ob,Dy,KB,AW,Mt]
 .refine Rn.jnz h2 (by rw[e1,ea];exact h0) (Rn.Ba (.inl ⟨{q with s:=b,k:=.rest r q.k},?_,⟨h3,?_⟩,⟨hm.L,hm.R,⟨⟨Vb,hA1⟩,AC,hk⟩,λhb=>⟨(hm.bi hb).1,?_⟩⟩,?_⟩));grind [Ot]
  .show PD Ac n Ab ab (.rest r q.k) (_+(Gu Ac n q.k.Db q.k.Af (p+(DL Ac a 1).length+1) b).length);rw[hlen];exact⟨h4,gV⟩
  grind [hm.bi hb,gR,ob];grind [Dy,KB,AW]
end
section
variable {Ac:Int} {n:Nat} {Ab:List GI} {cells:Int} {B:Bc} {rd Bi:Nat->Option Int} {ab:Nat}
theorem AeB (hb:Bs Ac) {q:KS} {lt:LT} {m:Int} {b r:Bj} (hq:q.s=.loop m b r) (hp:PD Ac n Ab ab (.rest q.s q.k) lt.pc) (hm:Mt n cells B rd Bi q lt.x.m):Rn Ac Ab 0 lt (N1 Ac n Ab cells B rd Bi ab q):=by
 obtain⟨⟨⟨hmn,hd,Vb,au⟩,hA1,hA2⟩,hk⟩:=(by have:=hm.wf;rw[hq] at this;exact this);obtain⟨hl,Fa⟩:=(by rw[hq] at hp;exact hp);have hdp:=ua q.k;rw[Gu] at hl Fa;simp only[CC,Bw,CM,GT,Jg,Jw] at hl Fa;obtain⟨⟨h1,h2⟩,h4⟩:=hl;rw[rz,Js] at h1;obtain⟨h1,h3⟩:=A9.1 h1;obtain⟨p,R,mm⟩:=lt;have e1:∀lb,p+(lb+1)=p+1+lb:=Y
 have e2:∀lb,p+(lb+1+(0+1+1+1+1+1))=p+1+lb+5:=Y
 rw[e1 (Gu Ac n q.k.Db (q.k.Af+1) (p+1) b).length] at h2;rw[e2] at h4;rw[<-Jq,e2] at Fa;have hR:∀d,d<q.k.Af->Cv q.R q.k.Af m d=q.R d:=λd hd=>Bp _ _ AC
 refine Rn.st hb (48+q.k.Af) (.DE q.k.Af) h1 (gu _) (Eu _ _) (Rn.Ba (.inl ⟨{q with s:=b,k:=.loop b r q.k,R:=Cv q.R q.k.Af m},?_,⟨h3,p+1,rfl,h3,h2,h4,Fa⟩,⟨hm.L,?_,⟨⟨Vb,hA1⟩,⟨⟨?_,?_⟩,hd⟩,AC,AC,Sx _ _ _ _ hR hk⟩,λhb=>⟨((hm.bi hb).1.AX _ _),?_⟩⟩,?_⟩));grind [Ot]
 .intro d hd;show Cv _ _ _ _=Cv _ _ _ _;by_cases he:d=q.k.Af;grind [BK]
  .rw[Bp _ _ he,Bp _ _ he];exact hm.R d (by have:d<q.k.Af+1:=hd;omega)
 grind [BK];grind [BK]
 .have:=(hm.bi hb).2;rw[hq] at this;simp only[gR,ob] at this⊢;rw[fG _ _ _ hR,BK];have e:m.toNat*ob b=ob b+(m.toNat-1)*ob b:=by
   exact naC
  omega
 .unfold Dy;rw[hq];simp only[KB,AW];rw[Sb _ _ _ hR,BK];have e:m.toNat*(6+AW b)=(6+AW b)+(m.toNat-1)*(6+AW b):=by
   exact naC
  omega
theorem wH {d C5:Nat} (h:DP Ab (rz ab (fM Ac d p C5)) p):Ab[p]?=U (.load 1 (.n (Ac+(48+d))) 0)/\Ab[p+1]?=U (.op KF 1 (.r 1) (.n 1))/\Ab[p+2]?=U (.store (.n (Ac+(48+d))) 0 (.r 1))/\Ab[p+3]?=U (.jz (.r 1) (p+5:Nat))/\Ab[p+4]?=U (.GF C5):=by
 grind [fM,rz,LI.AN,A9]
theorem Aht (hb:Bs Ac) {q:KS} {lt:LT} (hq:q.s=.nil) (hp:PD Ac n Ab ab (.rest q.s q.k) lt.pc) (hm:Mt n cells B rd Bi q lt.x.m):Rn Ac Ab 0 lt (N1 Ac n Ab cells B rd Bi ab q):=by
 obtain⟨_,hk⟩:=hm.wf;obtain⟨_,Fa⟩:=(by rw[hq] at hp;exact hp);rw[Gu] at Fa;have gV:PD Ac n Ab ab q.k lt.pc:=Fa;clear Fa;cases SH:q.k with
 |done=>rw[SH] at gV;exact Rn.Ba (.inr ⟨Jr _,.halt hq SH gV⟩)
 |Ao b s k=>rw[SH] at gV;exact Rn.Ba (.inr ⟨Jr _,.D1 hq SH gV hm⟩)
 |rest s k=>
  rw[SH] at gV hk;refine Rn.Ba (.inl ⟨{q with s:=s,k:=k},?_,gV,⟨hm.L,λd hd=>hm.R d (by rw[SH];exact hd),hk,λhb=>?_⟩,?_⟩)
  .unfold Ot;rw[hq,SH]
  .have:=hm.bi (by rw[SH];exact hb);rw[hq,SH] at this;simpa only[gR,ob,JH] using this
  .unfold Dy;rw[hq,SH];simp only[KB,AW];omega
 |loop b s k=>
  rw[SH] at gV hk;obtain⟨⟨hr,hd⟩,Vb,hws,hk⟩:=hk;obtain⟨C5,hpt,h1,h2,h3,h4⟩:=gV;have hdp:=ua k;have hrR:=hm.R k.Af (by rw[SH];exact JC _);obtain⟨c0,c1,c2,c3,c4⟩:=wH h2;obtain⟨p,R,m⟩:=lt;generalize hrn:q.R k.Af=w at*;have hR:∀d,d<k.Af->Cv q.R k.Af (w-1) d=q.R d:=λd hd=>Bp _ _ (Qe hd)
  have hMR:∀d,d<k.Af+1->Cv m.DE k.Af (w-1) d=Cv q.R k.Af (w-1) d:=λd hd=>by
   by_cases he:d=k.Af
   .rw[he,BK,BK]
   .rw[Bp _ _ he,Bp _ _ he];exact hm.R d (by rw[SH];exact hd)
  refine Rn.ld hb (48+k.Af) (.DE k.Af) (v:=w) c0 (gu _) hrR ?_;refine Rn.op c1 (u:=w) (D2 _ _ _) (Eu _ _) ((cW _ _).trans (by rw[EP Y Y])) ?_;refine Rn.st hb (48+k.Af) (.DE k.Af) c2 (gu _) (D2 _ _ _) ?_;by_cases h0:w-1=0
  .refine Rn.jz c3 (by rw[D2];exact h0) (Rn.Ba (.inl ⟨{q with s:=s,k:=k,R:=Cv q.R k.Af (w-1)},?_,⟨h3,h4⟩,⟨hm.L,λd hd=>hMR d (by have:d<k.Af:=hd;omega),⟨hws,Sx _ _ _ _ hR hk⟩,λhb=>?_⟩,?_⟩))
   .unfold Ot;rw[hq,SH];show(if q.R k.Af-1=0 then _ else _)=_;rw[hrn,Jb h0]
   .have:=hm.bi (by rw[SH];exact hb);rw[hq,SH] at this;refine⟨this.1.AX _ _,?_⟩;have h:=this.2;simp only[gR,ob,hrn] at h⊢;rw[fG _ _ _ hR];omega
   .unfold Dy;rw[hq,SH];simp only[KB,AW,hrn];rw[Sb _ _ _ hR];omega
  .refine Rn.jnz c3 (by rw[D2];exact h0) (Rn.GF c4 (Rn.Ba (.inl ⟨{q with s:=b,R:=Cv q.R k.Af (w-1)},?_,?_,⟨hm.L,?_,?_,λhb=>?_⟩,?_⟩)))
   .unfold Ot;rw[hq,SH];show(if q.R k.Af-1=0 then _ else _)=_;rw[hrn,In h0]
   .show PD Ac n Ab ab (.rest b q.k) C5;rw[SH];have Al4:p=C5+_:=hpt;subst Al4;exact⟨h1,C5,rfl,h1,h2,h3,h4⟩
   .show∀d,d<q.k.Af->_;rw[SH];exact hMR
   .show Om cells (Cv q.R k.Af (w-1)) (.rest b q.k);rw[SH];exact⟨Vb,⟨⟨by rw[BK];omega,by rw[BK];omega⟩,hd⟩,Vb,hws,Sx _ _ _ _ hR hk⟩
   .have:=hm.bi hb;rw[hq,SH] at this;refine⟨this.1.AX _ _,?_⟩;have h:=this.2;show _+gR (.rest b q.k) _<=8;rw[SH];simp only[gR,ob,hrn,BK] at h⊢;rw[fG _ _ _ hR];have e:(w.toNat-1)*ob b=ob b+((w-1).toNat-1)*ob b:=by
     exact naD
    omega
   .show _+KB (.rest b q.k) _<=_;unfold Dy;rw[hq,SH];simp only[KB,AW,hrn,BK];rw[Sb _ _ _ hR];have e:(w.toNat-1)*(6+AW b)=(6+AW b)+((w-1).toNat-1)*(6+AW b):=by
     exact naD
    omega
theorem AjC (x:Int) (l:List GI):rz x (l.map LI.i)=l:=by
 unfold rz;rw[jM];exact List.map_id'' (λ_=>rfl) l
theorem vQ (hb:Bs Ac) (hn:n<=6) {q:KS} {lt:LT} {b r:Bj} (hq:q.s=.atomic b r) (hp:PD Ac n Ab ab (.rest q.s q.k) lt.pc) (hm:Mt n cells B rd Bi q lt.x.m):Rn Ac Ab 0 lt (N1 Ac n Ab cells B rd Bi ab q):=by
 obtain⟨⟨⟨hi,hd,Vb,au⟩,hA1,hA2⟩,hk⟩:=(by have:=hm.wf;rw[hq] at this;exact this);obtain⟨hl,Fa⟩:=(by rw[hq] at hp;exact hp);rw[Gu] at hl Fa;obtain⟨p,R,m⟩:=lt;have e8:(Fj (O5 Ac) 4 p).length=8:=Ed (L:=2) (λ_ _=>rfl) 4 p;simp only[CC,Bw,CM,GT,Jg,JZ,e8] at hl Fa;rw[hi] at hl Fa;generalize hT:KW Ac n (p+8)=T at hl Fa;generalize hC:Gu Ac n V q.k.Af (p+8+J T) b=C at hl Fa;generalize hE:RD Ac n (BU b) (p+8+J T+J C)=E at hl Fa;obtain⟨ab',Vj⟩:∃x,x=p+8+J T+J C+J E+1:=AC;have eab:p+8+(J T+J C+J E)+1=ab':=Y
 rw[eab] at hl Fa;generalize hK:Fq Ac n (p+8) ab'=K at hl Fa;obtain⟨pe,na⟩:∃x,x=ab'+J K:=AC;have epe:p+(8+(J T+J C+J E)+(J K+1))=pe:=Y
 rw[epe] at hl;rw[<-Jq,epe] at Fa;obtain⟨⟨⟨h1,h2⟩,h3⟩,h4⟩:=hl;rw[AjC] at h2;rw[rz,Js,show p+(8+(J T+J C+J E))=ab'-1 by omega] at h3;obtain⟨h3,h5⟩:=A9.1 h3;rw[show ab'-1+1=ab' by omega] at h5;refine Rn.og hb h1 λR'=>?_
 have h2':=h2;rw[Bw,Bw,CM] at h2';refine Rn.C5 (b:=b) (s:=r) (k:=q.k) (ab:=ab') hb hn (C5:=p+8) (by rw[hT];grind) ?_ (λi hi=>Wp m.Gm m.AX hi) ?_
 .rw[hT];refine⟨by rw[show(KK.Ao b r q.k).Db=V from rfl,show(KK.Ao b r q.k).Af=q.k.Af from rfl,hC];grind,hi,ab,p+8,pe,by rw[hT];rfl,?_⟩;rw[show(KK.Ao b r q.k).Db=V from rfl,show(KK.Ao b r q.k).Af=q.k.Af from rfl,hT,hC,hE];refine⟨by rw[CC,CC];exact h2,Vj,by rw[hK];exact na,by rw[na];exact h3,by rw[hK];exact h5,h4,Fa⟩
 .intro lt' hc hl hr;refine .inr ⟨by rw[hq];grind [Nc],.Of hq hi hc (λi hi=>by rw[hl];exact hm.L i hi) (λd hd=>by rw[hr];exact hm.R d hd) hm.wf⟩
theorem Ajr (hb:Bs Ac) (hn:n=cells.toNat) (h6:cells<=6) {q:KS} {lt:LT} (hp:PD Ac n Ab ab (.rest q.s q.k) lt.pc) (hm:Mt n cells B rd Bi q lt.x.m):Rn Ac Ab 0 lt (N1 Ac n Ab cells B rd Bi ab q):=by
 cases hq:q.s<;>grind [Aht,Ahq,Ahv,Ahr,Ahs,Ahu,AeB,vQ]
theorem cK (hb:Bs Ac) (hn:n=cells.toNat) (h6:cells<=6):∀(N:Nat) {q:KS} {lt:LT},Dy q<=N->PD Ac n Ab ab (.rest q.s q.k) lt.pc->Mt n cells B rd Bi q lt.x.m->
  ∃j lt' q',Gc Ac Ab j lt lt'/\Ij (λ_=>Z) q q'/\gH Ac n Ab cells B rd Bi ab q' lt'/\j+Dy q'<=Dy q+Nc q'.s:=by
 intro N;induction N with
 |zero=>grind [Dy,KB]
 |succ N ih=>
  intro q lt h hp hm;obtain⟨j,lt',hr,hN⟩:=Ajr hb hn h6 hp hm;rw[JH] at hN;rcases hN with⟨q',hk,Rm,Xs,hle⟩|⟨hj,hs⟩
  .obtain⟨j2,lt2,q2,LB,Mo,MU,Ah7⟩:=ih Y Rm Xs;exact⟨j+j2,lt2,q2,hr.trans LB,.cons hk Mo,MU,Y⟩
  .exact⟨j,lt',q,hr,.nil q,hs,Y⟩
end
theorem Rn.skip {Ac:Int} {Ab:List GI} {Z96:Nat} (hL:∀c p,(f c p).length=L) {ab n p:Nat} (h:DP Ab (rz ab (Fj f n p)) p) (fl:Nat->Bool) {m:Da}
  (hs:∀c,c<n->fl c=I->∀pc k R,DP Ab (rz ab (f c pc)) pc->∀Q,(∀j R',j<=Z96->Rg [1] R R'->Rn Ac Ab (k+j) ⟨pc+L,⟨R',m⟩⟩ Q)->Rn Ac Ab k ⟨pc,⟨R,m⟩⟩ Q)
  {Q:Nat->LT->Prop} {R0:Nat->Int} {k0:Nat}
  (c:Nat) (hc:c<=n) (q1:∀c' j,c<=c'->c'<n->fl c'=V->(∀d,c<=d->d<c'->fl d=I)->j<=Z96*(c'-c)->∀R',Rg [1] R0 R'->DP Ab (rz ab (f c' (p+L*c'))) (p+L*c')->Rn Ac Ab (k0+j) ⟨p+L*c',⟨R',m⟩⟩ Q)
  (q2:∀j,(∀d,c<=d->d<n->fl d=I)->j<=Z96*(n-c)->∀R',Rg [1] R0 R'->Rn Ac Ab (k0+j) ⟨p+L*n,⟨R',m⟩⟩ Q):Rn Ac Ab k0 ⟨p+L*c,⟨R0,m⟩⟩ Q:=by
 have key:∀i,i<=n-c->(∀d,c<=d->d<n-i->fl d=I)->∀j R,j<=Z96*(n-c-i)->Rg [1] R0 R->Rn Ac Ab (k0+j) ⟨p+L*(n-i),⟨R,m⟩⟩ Q:=by
  intro i;induction i with
  |zero=>grind
  |succ i ih=>
   intro hi hd j R hj hR;have hl:=Kt hL h (c:=n-(i+1)) Y;cases hf:fl (n-(i+1)) with
   |true=>grind
   |false=>
    refine hs _ Y hf _ _ R hl Q λj' R' hj' hR'=>?_
    have e:n-(i+1)+1=n-i:=Y
    rw[Jq,Jq,<-jY,Nat.succ_eq_add_one,e];refine ih Y (λd h1 h2=>?_) (j+j') R' ?_ (λx hx=>(hR' x hx).trans (hR x hx))
    .by_cases he:d=n-(i+1)
     .rw[he];exact hf
     .exact hd d h1 Y
    .have e2:n-c-i=n-c-(i+1)+1:=Y
     rw[e2,jY];omega
 have:=key (n-c) AC (λd h1 h2=>Y) 0 R0 AC (Rg.refl _ _);rwa[JX,show n-(n-c)=c by omega] at this
theorem LA (Ac:Int) (c p:Nat):(MP Ac c p).length=16:=rfl
theorem NV (Ac:Int) (c p:Nat):(O7 Ac c p).length=14:=rfl
theorem UG (Ac:Int) (c p:Nat):(YL Ac c p).length=4:=rfl
theorem Sp (Ac:Int) (c p:Nat):(Rw Ac c p).length=3:=rfl
theorem Wr (Ac:Int) (c p:Nat):(Pd Ac c p).length=4:=rfl
structure CP (Ac:Int) (n:Nat) (Ab:List GI) (ab p:Nat):Prop where
 TD:DP Ab (rz ab (Fj (MP Ac) n p)) p
 b0:Ab[p+16*n]?=U (.Em 5 (.n 16) 0 (.n 1))
 b1:Ab[p+16*n+1]?=U (.op KG 5 (.r 5) (.n 1))
 b2:Ab[p+16*n+2]?=U (.op US 5 (.r 5) (.n 1))
 wK:DP Ab (rz ab (Fj (O7 Ac) n (p+16*n+3))) (p+16*n+3)
 put:DP Ab (rz ab (Fj (YL Ac) n (p+30*n+3))) (p+30*n+3)
 free:DP Ab (rz ab (Fj (Rw Ac) n (p+34*n+3))) (p+34*n+3)
theorem F7 (Ac:Int) (n p:Nat):(FO Ac n p).length=37*n+3:=by
 unfold FO;simp only[GT,Ed (LA Ac),Ed (NV Ac),Ed (UG Ac),Ed (Sp Ac),show J bz=3 from rfl];omega
theorem rk {Ac:Int} {n:Nat} {Ab:List GI} {ab:Nat} (h:DP Ab (rz ab (FO Ac n p)) p):CP Ac n Ab ab p:=by
 unfold FO at h;simp only[CC,Bw,CM,GT,Ed (LA Ac),Ed (NV Ac),Ed (UG Ac),Ed (Sp Ac),show J bz=3 from rfl] at h;obtain⟨⟨⟨⟨h1,h2⟩,h3⟩,h4⟩,h5⟩:=h;unfold bz rz at h2;simp only[Js,LI.AN,A9] at h2;refine⟨h1,h2.1,h2.2.1,h2.2.2.1,?_,?_,?_⟩
 .rw[show p+16*n+3=p+(16*n+3) by omega];exact h3
 .rw[show p+30*n+3=p+(16*n+3+14*n) by omega];exact h4
 .rw[show p+34*n+3=p+(16*n+3+14*n+4*n) by omega];exact h5
section
variable {Ac:Int} {Ab:List GI} {ab n p k:Nat} {m:Da} {R:Nat->Int} {Q:Nat->LT->Prop} (hb:Bs Ac) (hn:n<=6)
include hb
theorem Rn.XB {pc T:Nat} (F:KU) (h0:Ab[pc]?=U (.load 1 (.n (Ac+((T:Int)+c))) 0)) (h1:Ab[pc+1]?=U (.jz (.r 1) t)) (hT:T+c<64) (hf:KU.Ss (T+c)=F) (hv:m.gk F=v)
  (q:∀R',Rg [1] R R'->(v=0->Rn Ac Ab (k+2) ⟨t.toNat,⟨R',m⟩⟩ Q)/\(v≠0->Rn Ac Ab (k+2) ⟨pc+2,⟨R',m⟩⟩ Q)):Rn Ac Ab k ⟨pc,⟨R,m⟩⟩ Q:=by
 have hg:=q (Cv R 1 v) ((Rg.refl _ _).Cv _ EQ);refine Rn.ld hb (T+c) F h0 hf hv ?_ Y hT;by_cases h:v=0
 .exact Rn.jz h1 (by rw[D2];exact h) AC
 .exact Rn.jnz h1 (by rw[D2];exact h) AC
include hn
variable {B:Bc} {A3 rd Bi:Nat->Option Int} {o:List Int} (hm:BI n B m A3 rd Bi o)
include hm
omit hb hn in
theorem BI.wrF (hc:c<n):(m.wr c=0<->(A3 c).isSome=I):=by
 cases h:A3 c<;>grind [BI]
theorem Rn.D0 (h:CP Ac n Ab ab p) (c:Nat) (hc:c<=n)
  (q1:∀c' j R',c<=c'->c'<n->(A3 c').isSome=V->(∀d,c<=d->d<c'->(A3 d).isSome=I)->j<=2*(c'-c)+2->Q (k+j) ⟨p+16*c'+2,⟨R',m⟩⟩)
  (q2:∀j R',(∀d,c<=d->d<n->(A3 d).isSome=I)->j<=2*(n-c)->Q (k+j) ⟨p+16*n,⟨R',m⟩⟩):Rn Ac Ab k ⟨p+16*c,⟨R,m⟩⟩ Q:=by
 refine Rn.skip (Z96:=2) (LA Ac) h.TD (λc=>(A3 c).isSome) ?_ c hc ?_ (λj hd hj R' _=>Rn.Ba AC)
 .intro c hc hf pc k R hl Q q;unfold MP rz at hl;simp only[JQ,Js,Jx,LI.AN,A9] at hl;exact nam
 .intro c' j h1 h2 hf hd hj R' _ hl;unfold MP rz at hl;simp only[JQ,Js,Jx,LI.AN,A9] at hl;refine Rn.XB hb (T:=8) (.wr c') hl.1 hl.2.1 Y (OV Y) rfl λR' hR=>⟨λhv=>?_,λ_=>Rn.Ba ?_⟩
  grind [(BI.wrF hm h2).1 hv]
  .rw[Jq];exact q1 c' (j+2) R' h1 h2 hf hd Y
omit hn hm in
theorem Rn.AjG (h:CP Ac n Ab ab p) (hc:c<n) {lv rv:Int} (h2:R 2=lv) (hl:0<=lv/\lv<8000000000000000000) (hs:m.start=rv)
  (q1:(¬∃w,lv=2*w/\0<=w/\w<=rv)->∀j R',j<=8->Rn Ac Ab (k+j) ⟨ab,⟨R',m⟩⟩ Q) (q2:∀v R',lv=2*v->0<=v->v<=rv->R' 2=lv->R' 3=lv+1->Q (k+9) ⟨p+16*c+12,⟨R',m⟩⟩):Rn Ac Ab k ⟨p+16*c+3,⟨R,m⟩⟩ Q:=by
 have Le:=Kt (LA Ac) h.TD hc;unfold MP at Le;rw[CC,CC,Bw,Bw,CM] at Le;have hx:=Le.2;unfold rz at hx;simp only[GT,Js,LI.AN,A9] at hx;refine Rn.open hb Le.1.2 h2 hl hs q1 λv e1 e2 e3 R' hg=>?_
 subst e1;have h2':R' 2=2*v:=(hg 2 Do).trans h2;refine Rn.op hx.1 (u:=2*v) h2' (Eu _ _) ((kL _ _).trans (by rw[Aep v e2 Y])) (Rn.Ba ?_)<;>grind [Bp,BK]
omit hm in
theorem Rn.AjF (h:CP Ac n Ab ab p) (hc:c<n) {lv:Int} (h2:R 2=lv)
  (q1:R 3=0->Rn Ac Ab (k+1) ⟨ab,⟨R,m⟩⟩ Q) (q2:R 3≠0->Rn Ac Ab (k+3) ⟨p+16*(c+1),⟨R,{m with lk:=Cv m.lk c 1,hd:=Cv m.hd c lv}⟩⟩ Q):Rn Ac Ab k ⟨p+16*c+13,⟨R,m⟩⟩ Q:=by
 have Le:=Kt (LA Ac) h.TD hc;unfold MP at Le;rw[CC,CC,Bw,Bw,CM] at Le;have hx:=Le.2;unfold rz at hx;simp only[GT,Js,LI.AN,A9] at hx;obtain⟨_,_,c2,c3,c4,_⟩:=hx;by_cases h0:R 3=0
 .exact Rn.jz c2 h0 (q1 h0)
 .refine Rn.jnz c2 h0 ?_;refine Rn.st hb (26+c) (.lk c) c3 (Wo Y) (Eu _ _) ?_;exact Rn.st hb (32+c) (.hd c) c4 (Ac6 Y) h2 (q2 h0)
omit hb hn hm in
theorem Rn.AiD (h:CP Ac n Ab ab p) {fD:Int} (h5:R 5=fD) (h0:0<=fD/\fD<4000000000000000000-1) (q:∀R',R' 5=2*(fD+1)->Rn Ac Ab (k+2) ⟨p+16*n+3,⟨R',m⟩⟩ Q):Rn Ac Ab k ⟨p+16*n+1,⟨R,m⟩⟩ Q:=by
 refine Rn.op h.b1 (u:=fD) h5 (Eu _ _) ((NT _ _).trans (by rw[EP Y Y])) ?_;exact Rn.op h.b2 (u:=fD+1) (D2 _ _ _) (Eu _ _) ((wG _).trans (by rw[Aea _ Y Y])) (q _ (BK _ _ _))
omit hb hn in
theorem BI.rdF (hc:c<n):(m.rd c=0<->(rd c).isSome=I):=by
 rw[hm.rd0 c hc];cases (rd c)<;>simp
omit hb hn in
theorem BI.lkF (hc:c<n):(m.lk c=0<->(Bi c).isSome=I):=by
 rw[hm.lk0 c hc];cases (Bi c)<;>simp
theorem Rn.AjD (h:CP Ac n Ab ab p) (c:Nat) (hc:c<=n)
  (q1:∀c' j R',c<=c'->c'<n->((rd c').isSome && !(Bi c').isSome)=V->(∀d,c<=d->d<c'->((rd d).isSome && !(Bi d).isSome)=I)->j<=5*(c'-c)+4->R' 5=R 5->Q (k+j) ⟨p+16*n+3+14*c'+5,⟨R',m⟩⟩)
  (q2:∀j R',(∀d,c<=d->d<n->((rd d).isSome && !(Bi d).isSome)=I)->j<=5*(n-c)->R' 5=R 5->Rn Ac Ab (k+j) ⟨p+30*n+3,⟨R',m⟩⟩ Q):Rn Ac Ab k ⟨p+16*n+3+14*c,⟨R,m⟩⟩ Q:=by
 refine Rn.skip (Z96:=5) (NV Ac) h.wK (λc=>(rd c).isSome && !(Bi c).isSome) ?_ c hc ?_ (λj hd hj R' hR=>?_)
 .intro c hc hf pc k R hl Q q;unfold O7 rz at hl;simp only[JQ,Js,Jx,LI.AN,A9] at hl;obtain⟨c0,c1,c2,c3,c4,_⟩:=hl;refine Rn.XB hb (T:=20) (.rd c) c0 c1 Y (gv Y) rfl λR' hR=>⟨λ_=>q 2 R' Y hR,λhv=>?_⟩
  have Vc:m.rd c≠0:=hv;refine Rn.XB hb (T:=26) (.lk c) c2 c3 Y (Wo Y) rfl λR'' hR'=>⟨λhk=>?_,λ_=>Rn.GF c4 (q 5 R'' Y λx hx=>(hR' x hx).trans (hR x hx))⟩
  have h2:=(BI.lkF hm hc).1 hk;rw[h2] at hf;grind [BI]
 .intro c' j h1 h2 hf hd hj R' hR hl;unfold O7 rz at hl;simp only[JQ,Js,Jx,LI.AN,A9] at hl;obtain⟨c0,c1,c2,c3,c4,_⟩:=hl;have TP:(rd c').isSome=V:=by cases hx:(rd c').isSome<;>simp_all
  have Zx:(Bi c').isSome=I:=by cases hx:(Bi c').isSome<;>simp_all
  refine Rn.XB hb (T:=20) (.rd c') c0 c1 Y (gv Y) rfl λR1 hR1=>⟨λhv=>?_,λ_=>?_⟩
  grind [(BI.rdF hm h2).1 hv];refine Rn.XB hb (T:=26) (.lk c') c2 c3 Y (Wo Y) rfl λR2 hR2=>⟨λ_=>Rn.Ba ?_,λhk=>Jk ((BI.lkF hm h2).2 Zx) hk⟩
  rw[Jq,Jq];exact q1 c' (j+(2+2)) R2 h1 h2 hf hd Y ((hR2 5 Do).trans ((hR1 5 Do).trans (hR 5 Do)))
 grind [hR 5 Do]
omit hn hm in
theorem Rn.AjE (h:CP Ac n Ab ab p) (hc:c<n) {lv rv:Int} (h2:R 2=lv) (hl:0<=lv/\lv<8000000000000000000) (hs:m.start=rv)
  (q1:(¬∃w,lv=2*w/\0<=w/\w<=rv)->∀j R',j<=8->Rn Ac Ab (k+j) ⟨ab,⟨R',m⟩⟩ Q) (q2:∀v R',lv=2*v->0<=v->v<=rv->R' 5=R 5->Rn Ac Ab (k+8) ⟨p+16*n+3+14*(c+1),⟨R',m⟩⟩ Q):Rn Ac Ab k ⟨p+16*n+3+14*c+6,⟨R,m⟩⟩ Q:=by
 have Le:=Kt (NV Ac) h.wK hc;unfold O7 at Le;rw[CC,Bw,CM] at Le;exact Rn.open hb Le.2 h2 hl hs q1 λv e1 e2 e3 R' hg=>q2 v R' e1 e2 e3 (hg 5 Do)
theorem Rn.AlJ (h:CP Ac n Ab ab p) (c:Nat) (hc:c<=n)
  (q1:∀c' j R' v,c<=c'->c'<n->A3 c'=U v->(∀d,c<=d->d<c'->(A3 d).isSome=I)->j<=2*(c'-c)+3->R' 5=R 5->R' 2=v->Q (k+j) ⟨p+30*n+3+4*c'+3,⟨R',m⟩⟩)
  (q2:∀j R',(∀d,c<=d->d<n->(A3 d).isSome=I)->j<=2*(n-c)->R' 5=R 5->Rn Ac Ab (k+j) ⟨p+34*n+3,⟨R',m⟩⟩ Q):Rn Ac Ab k ⟨p+30*n+3+4*c,⟨R,m⟩⟩ Q:=by
 refine Rn.skip (Z96:=2) (UG Ac) h.put (λc=>(A3 c).isSome) ?_ c hc ?_ (λj hd hj R' hR=>?_)
 .intro c hc hf pc k R hl Q q;unfold YL rz at hl;simp only[Js,LI.AN,A9] at hl;exact nam
 .intro c' j h1 h2 hf hd hj R' hR hl;unfold YL rz at hl;simp only[Js,LI.AN,A9] at hl;obtain⟨v,hv⟩:=JA.1 hf;refine Rn.XB hb (T:=8) (.wr c') hl.1 hl.2.1 Y (OV Y) rfl λR1 hR1=>⟨λhv=>?_,λ_=>?_⟩
  grind [(BI.wrF hm h2).1 hv];refine Rn.ld hb (14+c') (.vl c') hl.2.2.1 (rh Y) (hm.zv c' v h2 hv).2 (Rn.Ba ?_);rw[Jq,Jq];exact q1 c' (j+(2+1)) _ v h1 h2 hv hd Y ((Bp _ _ Do).trans ((hR1 5 Do).trans (hR 5 Do))) (BK _ _ _)
 grind [hR 5 Do]
theorem Rn.AkH (h:CP Ac n Ab ab p) (c:Nat) (hc:c<=n)
  (q1:∀c' j R',c<=c'->c'<n->(A3 c').isSome=V->(∀d,c<=d->d<c'->(A3 d).isSome=I)->j<=2*(c'-c)+2->R' 5=R 5->Q (k+j) ⟨p+34*n+3+3*c'+2,⟨R',m⟩⟩)
  (q2:∀j R',(∀d,c<=d->d<n->(A3 d).isSome=I)->j<=2*(n-c)->Rn Ac Ab (k+j) ⟨p+37*n+3,⟨R',m⟩⟩ Q):Rn Ac Ab k ⟨p+34*n+3+3*c,⟨R,m⟩⟩ Q:=by
 refine Rn.skip (Z96:=2) (Sp Ac) h.free (λc=>(A3 c).isSome) ?_ c hc ?_ (λj hd hj R' hR=>?_)
 .intro c hc hf pc k R hl Q q;unfold Rw rz at hl;simp only[Js,LI.AN,A9] at hl;exact Rn.XB hb (T:=8) (.wr c) hl.1 hl.2.1 Y (OV Y) rfl λR' hR=>⟨λ_=>q 2 R' (Jf _) hR,λhv=>Jk ((BI.wrF hm hc).2 hf) hv⟩
 .intro c' j h1 h2 hf hd hj R' hR hl;unfold Rw rz at hl;simp only[Js,LI.AN,A9] at hl;refine Rn.XB hb (T:=8) (.wr c') hl.1 hl.2.1 Y (OV Y) rfl λR1 hR1=>⟨λhv=>?_,λ_=>Rn.Ba ?_⟩
  .have:=(BI.wrF hm h2).1 hv;rw[hf] at this;cases this
  rw[Jq];exact q1 c' (j+2) R1 h1 h2 hf hd Y ((hR1 5 Do).trans (hR 5 Do))
 .have:=q2 j R' hd Y;rwa[show p+37*n+3=p+34*n+3+3*n by omega] at this
theorem Rn.EZ (h:DP Ab (rz ab (Fj (Pd Ac) n p)) p) (c:Nat) (hc:c<=n)
  (q1:∀c' j R' v,c<=c'->c'<n->Bi c'=U v->(∀d,c<=d->d<c'->(Bi d).isSome=I)->j<=2*(c'-c)+3->R' 2=v->Q (k+j) ⟨p+4*c'+3,⟨R',m⟩⟩)
  (q2:∀j R',(∀d,c<=d->d<n->(Bi d).isSome=I)->j<=2*(n-c)->Rn Ac Ab (k+j) ⟨p+4*n,⟨R',m⟩⟩ Q):Rn Ac Ab k ⟨p+4*c,⟨R,m⟩⟩ Q:=by
 refine Rn.skip (Z96:=2) (Wr Ac) h (λc=>(Bi c).isSome) ?_ c hc ?_ AC
 .intro c hc hf pc k R hl Q q;unfold Pd rz at hl;simp only[Js,LI.AN,A9] at hl;exact Rn.XB hb (T:=26) (.lk c) hl.1 hl.2.1 Y (Wo Y) rfl λR' hR=>⟨λ_=>q 2 R' AC hR,λhv=>Jk ((BI.lkF hm hc).2 hf) hv⟩
 .intro c' j h1 h2 hf hd hj R' hR hl;unfold Pd rz at hl;simp only[Js,LI.AN,A9] at hl;obtain⟨v,hv⟩:=JA.1 hf;refine Rn.XB hb (T:=26) (.lk c') hl.1 hl.2.1 Y (Wo Y) rfl λR1 hR1=>⟨λhv=>?_,λ_=>?_⟩
  grind [(BI.lkF hm h2).1 hv];refine Rn.ld hb (32+c') (.hd c') hl.2.2.1 (Ac6 Y) (hm.pM c' v h2 hv) (Rn.Ba ?_);rw[Jq,Jq];exact q1 c' (j+(2+1)) _ v h1 h2 hv hd Y (BK _ _ _)
omit hn in
theorem Rn.Ai4 (h:DP Ab (rz ab (LM Ac p)) p) (i:Nat) (hi:i<=J o) (h8:J o<=8) (h1:R 1=i) (q1:∀x R',o[i]?=U x->R' 1=(i:Int)->R' 2=x->Q (k+4) ⟨p+5,⟨R',m⟩⟩) (q2:i=J o->∀R',Rn Ac Ab (k+3) ⟨p+8,⟨R',m⟩⟩ Q):
  Rn Ac Ab k ⟨p+1,⟨R,m⟩⟩ Q:=by
 unfold LM rz at h;simp only[Js,LI.AN,A9] at h;obtain⟨_,c1,c2,c3,c4,_⟩:=h;refine Rn.ld hb 39 .count (v:=J o) c1 rfl hm.yU ?_;refine Rn.op c2 (u:=i) (w:=J o) ((Bp R (J o:Int) (i:=2) (j:=1) Do).trans h1) (D2 _ _ _) (P3 _ _) ?_;by_cases hlt:i<J o
 .rw[Jb Y];refine Rn.jnz c3 (by rw[D2];decide) ?_;have hx:=Ja hlt;have h1':Cv (Cv R 2 (J o:Int)) 2 1 1=i:=(Bp _ _ Do).trans ((Bp _ _ Do).trans h1);refine Rn.ldR hb (40+i) (.An i) c4 (lX Y) (hm.An i _ hx) (by show Cv (Cv R 2 (J o:Int)) 2 1 1+40=_;rw[h1'];omega) Y (Rn.Ba ?_)<;>grind [Bp,BK]
 .rw[In Y];exact Rn.jz c3 (D2 _ _ _) AC
omit hb hn hm in
theorem Rn.Af8 (h:DP Ab (rz ab (LM Ac p)) p) (q:∀R',R' 1=0->Rn Ac Ab (k+1) ⟨p+1,⟨R',m⟩⟩ Q):Rn Ac Ab k ⟨p,⟨R,m⟩⟩ Q:=by
 unfold LM rz at h;simp only[Js,LI.AN,A9] at h;exact Rn.Y4 h.1 (Eu _ _) (q _ (BK _ _ _))
omit hb hn hm in
theorem Rn.Ai5 {i:Nat} (h:DP Ab (rz ab (LM Ac p)) p) (h1:R 1=i) (hi:i<=8) (q:∀R',R' 1=((i+1:Nat):Int)->Rn Ac Ab (k+2) ⟨p+1,⟨R',m⟩⟩ Q):Rn Ac Ab k ⟨p+6,⟨R,m⟩⟩ Q:=by
 unfold LM rz at h;simp only[Js,LI.AN,A9] at h;obtain⟨_,_,_,_,_,_,c6,c7,_⟩:=h;refine Rn.op c6 (u:=i) h1 (Eu _ _) ((NT _ _).trans (by rw[EP Y Y])) ?_;exact Rn.GF c7 (q _ ((BK _ _ _).trans Y))
end
inductive Ph where
 |node
 |Of
 |Kg (c:Nat)
 |Fp (c:Nat) (lv:Int)
 |Fy (c:Nat) (lv x:Int)
 |VC (c:Nat)
 |U1 (c:Nat) (lv:Int)
 |xa
 |lo (c:Nat)
 |pu (c:Nat)
 |fr (c:Nat)
 |te (i:Nat)
 |ba (c:Nat)
structure Gt where
 ph:Ph
 q0:KS
 q:KS
 rd:Nat->Option Int
 Bi:Nat->Option Int
 rv:Int
 wv:Int
variable {g:Gt}
def D9:Nat->Option Int:=λ_=>Z
def Gt.B (g:Gt):Bc:=⟨g.q0.L,g.rv⟩
def Cw (q:KS):KS:=match q.s with
 |.atomic b s=>⟨b,.Ao b s q.k,q.L,q.R,D9,[]⟩
 |_=>q
def BS (q0 q:KS):KS:=match q0.s with
 |.atomic _ s=>⟨s,q0.k,q.L,q.R,D9,[]⟩
 |_=>q0
def DJ (q:KS):Gt:=⟨match q.s with|.atomic .. => .Of|_=> .node,q,q,D9,D9,0,0⟩
structure Cx where
 Ac:Int
 n:Nat
 Ab:List GI
 cells:Int
structure Nr (x:Cx):Prop where
 hb:Bs x.Ac
 hn:x.n=x.cells.toNat
 h6:x.cells<=6
theorem Nr.n6 {x:Cx} (h:Nr x):x.n<=6:=by have:=h.hn;have:=h.h6;omega
def KK.Ok:KK->Option (Bj×Bj×KK)
 |.done=>Z
 |.rest _ k=>k.Ok
 |.loop _ _ k=>k.Ok
 |.Ao b s k=>U (b,s,k)
theorem ZX (h:k.Ok=U (b,s,k0)):k0.Af<=k.Af:=by
 induction k with
 |done=>cases h
 |rest s k ih=>exact ih h
 |loop b s k ih=>exact jS (ih h)
 |Ao b s k=>cases h;exact Jf _
theorem Vr (h:k.Ok=U (b,s,k0)):k.Db=V:=by
 induction k with
 |done=>cases h
 |rest s k ih=>exact ih h
 |loop b s k ih=>exact ih h
 |Ao b s k=>rfl
structure WD (x:Cx) (g:Gt) (b s:Bj):Prop where
 ni:g.q0.s=.atomic b s
 nb:g.q0.k.Db=I
 wf:Om x.cells g.q0.R (.rest g.q0.s g.q0.k)
 bo:g.q.k.Ok=U (b,s,g.q0.k)
 rp:∀d,d<g.q0.k.Af->g.q.R d=g.q0.R d
structure Z7 (x:Cx) (g:Gt) (m:Da) (b s:Bj) (ab c p0:Nat) (v:Int) (r:Bj):Prop where
 Ao:WD x g b s
 mt:Mt x.n x.cells g.B g.rd g.Bi g.q m
 Bi:g.Bi=D9
 stm:∃f z a,g.q.s=.get v f z a r/\0<=DV g.q.L a/\DV g.q.L a<z/\(c:Int)=f+DV g.q.L a
 A3:g.q.A3 c=Z
 Mh:AgM x.Ac x.n x.Ab ab c p0 v r g.q.k
structure Ik (x:Cx) (g:Gt) (m:Da) (b s:Bj) (ab p:Nat):Prop where
 Ao:WD x g b s
 mt:Mt x.n x.cells g.B g.rd g.Bi g.q m
 s0:g.q.s=.nil
 k0:g.q.k=.Ao b s g.q0.k
 Mh:PD x.Ac x.n x.Ab ab (.Ao b s g.q0.k) p
def TH (g:Gt) (n c:Nat):Prop:=∀d,d<n->(g.Bi d).isSome=(decide (d<c) && (g.q.A3 d).isSome)
def Gx (n p:Nat) (b:Bj):Nat:=p+if BU b then 37*n+3 else 0
def KR (x:Cx) (g:Gt) (lt:LT):Prop:=match g.ph with
 |.node=>(∃ab B rd Bi,gH x.Ac x.n x.Ab x.cells B rd Bi ab g.q lt)/\(g.q.k.Db=V->Bz g.q≠Z/\∃b s,WD x g b s)/\(g.q.k.Db=I->g.q0=g.q/\∀b s,g.q.s≠ .atomic b s)/\g.Bi=D9
 |.Of=>∃b s ab,g.q0.s=.atomic b s/\g.q0.k.Db=I/\Om x.cells g.q0.R (.rest g.q0.s g.q0.k)/\uJ x.Ac x.n x.Ab ab b s g.q0.k lt/\(∀i,i<4->lt.x.m.AX i=g.q0.L i)/\(∀d,d<g.q0.k.Af->lt.x.m.DE d=g.q0.R d)/\g.Bi=D9/\g.rd=D9
 |.Kg c=>∃b s ab p0 v r,Z7 x g lt.x.m b s ab c p0 v r/\lt.pc=p0+4/\lt.x.R 0=c
 |.Fp c lv=>(∃b s ab p0 v r,Z7 x g lt.x.m b s ab c p0 v r/\lt.pc=p0+13/\lt.x.R 0=c/\lt.x.R 2=lv)/\∃w,lv=2*w/\0<=w/\w<=g.rv
 |.Fy c lv y=>(∃b s ab p0 v r,Z7 x g lt.x.m b s ab c p0 v r/\lt.pc=p0+14/\lt.x.R 0=c/\lt.x.R 2=lv/\lt.x.R 1=y)/\∃w,lv=2*w/\0<=w/\w<=g.rv
 |.VC c=>c<x.n/\(g.q.A3 c).isSome=V/\TH g x.n c/\∃b s ab p,Ik x g lt.x.m b s ab p/\BU b=V/\lt.pc=p+16*c+2
 |.U1 c lv=>c<x.n/\(g.q.A3 c).isSome=V/\TH g x.n c/\(∃w,lv=2*w/\0<=w/\w<=g.rv)/\∃b s ab p,Ik x g lt.x.m b s ab p/\BU b=V/\lt.pc=p+16*c+12/\lt.x.R 2=lv/\lt.x.R 3=lv+1
 |.xa=>TH g x.n x.n/\∃b s ab p,Ik x g lt.x.m b s ab p/\BU b=V/\lt.pc=p+16*x.n
 |.lo c=>c<x.n/\(g.rd c).isSome=V/\(g.Bi c).isSome=I/\TH g x.n x.n/\∃b s ab p,Ik x g lt.x.m b s ab p/\BU b=V/\lt.pc=p+16*x.n+3+14*c+5/\lt.x.R 5=2*g.wv
 |.pu c=>c<x.n/\(g.q.A3 c).isSome=V/\TH g x.n x.n/\∃b s ab p,Ik x g lt.x.m b s ab p/\BU b=V/\lt.pc=p+30*x.n+3+4*c+3/\lt.x.R 5=2*g.wv/\g.q.A3 c=U (lt.x.R 2)
 |.fr c=>c<x.n/\(g.q.A3 c).isSome=V/\TH g x.n x.n/\∃b s ab p,Ik x g lt.x.m b s ab p/\BU b=V/\lt.pc=p+34*x.n+3+3*c+2/\lt.x.R 5=2*g.wv
 |.te i=>∃b s ab p,Ik x g lt.x.m b s ab p/\lt.pc=Gx x.n p b+5/\lt.x.R 1=i/\g.q.o[i]?=U (lt.x.R 2)
 |.ba c=>c<x.n/\g.Bi c=U (lt.x.R 2)/\∃(b s:Bj) (ab z C5:Nat),WD x g b s/\Mt x.n x.cells g.B g.rd g.Bi g.q lt.x.m/\DP x.Ab (rz z (Fq x.Ac x.n C5 ab)) ab/\DP x.Ab (rz ab (KW x.Ac x.n C5)) C5/\
   PD x.Ac x.n x.Ab ab (.rest b (.Ao b s g.q0.k)) (C5+(KW x.Ac x.n C5).length)/\lt.pc=ab+4*c+3
def Pn (x:Cx) (g:Gt):Nat:=
 let X:=Dy (BS g.q0 g.q)
 let T:=X+5+7*J g.q.o
 let F:=T+3*x.n+2
 let P:=F+4*x.n+3
 let A:=P+14*x.n+7
 match g.ph with
 |.node=>Dy g.q-Nc g.q.s
 |.Of=>Dy g.q0-27
 |.Kg _=>Dy g.q-9
 |.Fp .. =>Dy g.q-18
 |.Fy .. =>Dy g.q-19
 |.VC c=>A+16*(x.n-c)
 |.U1 c _=>A+16*(x.n-c)-10
 |.xa=>A
 |.lo c=>P+14*(x.n-c)
 |.pu c=>F+4*(x.n-c)
 |.fr c=>T+3*(x.n-c)
 |.te i=>X+7*(J g.q.o-i)
 |.ba c=>Dy g.q0+4*(x.n-c)
theorem MT {rd:Nat->Option Int} (h:Ot rd q=U r):r.k.Db=q.k.Db:=by
 unfold Ot at h;split at h
 .split at h
  .rename_i hk;cases h;rw[hk];rfl
  .rename_i hk;split at h
   .cases h;rw[hk];rfl
   grind
  .cases h
 grind [Option.map_eq_some_iff];grind [Option.map_eq_some_iff];grind;grind
 .cases h;split<;>rfl
 .cases h;rfl
 .cases h
theorem Ij.Db {rd:Nat->Option Int} (h:Ij rd q r):r.k.Db=q.k.Db:=by
 induction h<;>grind [MT]
theorem Ae1 {rd:Nat->Option Int} (hb:q.k.Ok=U (b,s,k0)) (h:Ot rd q=U r):r.k.Ok=U (b,s,k0)/\∀d,d<k0.Af->r.R d=q.R d:=by
 unfold Ot at h;split at h
 .split at h
  .rename_i hk;cases h;rw[hk] at hb;exact⟨hb,AC⟩
  .rename_i b' s' k' hk;rw[hk] at hb;have hR:∀(v:Int) (d:Nat),d<k0.Af->Cv q.R k'.Af v d=q.R d:=λv d h=>Bp _ _ (Qe (JR h (ZX (k:=k') hb)))
   split at h
   .cases h;exact⟨hb,hR _⟩
   .cases h<;>grind
  .cases h
 grind [Option.map_eq_some_iff];grind [Option.map_eq_some_iff];grind;grind
 .cases h;exact⟨by split<;>exact hb,AC⟩
 .cases h;exact⟨hb,λd h=>Bp _ _ (Qe (JR h (ZX hb)))⟩
 .cases h
theorem Ij.Ao {rd:Nat->Option Int} (h:Ij rd q r) {b s:Bj} {k0:KK} (hb:q.k.Ok=U (b,s,k0)):r.k.Ok=U (b,s,k0)/\∀d,d<k0.Af->r.R d=q.R d:=by
 induction h<;>grind [Ae1]
theorem fx {Ac:Int} {n:Nat} {Ab:List GI} {ab:Nat}:∀{k:KK} {p:Nat},PD Ac n Ab ab k p->k.Ok=U (b,s,k0)->∃p',PD Ac n Ab ab (.Ao b s k0) p'
 |.done,_,_,h=>by cases h
 |.rest s k,p,hp,h=>fx (k:=k) hp.2 h
 |.loop _ _ k,p,⟨_,_,_,_,_,hp⟩,h=>fx (k:=k) hp h
 |.Ao _ _ _,p,hp,h=>by cases h<;>grind
section
def AkS (g:Gt):Gt:=⟨.Of,g.q0,g.q0,D9,D9,0,0⟩
inductive I7 (g:Gt) (i:Nat):Gt->Prop
 |te (h:i<J g.q.o):I7 g i {g with ph:=.te i}
 |out (q':KS) (h:i=J g.q.o) (k:Ij D9 (BS g.q0 g.q) q'):I7 g i (DJ q')
inductive KM (n:Nat) (g:Gt) (c:Nat):Gt->Prop
 |fr (c':Nat) (h1:c<=c') (h2:c'<n) (h3:(g.q.A3 c').isSome=V) (h4:∀d,c<=d->d<c'->(g.q.A3 d).isSome=I):KM n g c {g with ph:=.fr c'}
 |stop (g':Gt) (h:∀d,c<=d->d<n->(g.q.A3 d).isSome=I) (k:I7 g 0 g'):KM n g c g'
inductive RO (n:Nat) (g:Gt) (c:Nat):Gt->Prop
 |pu (c':Nat) (h1:c<=c') (h2:c'<n) (h3:(g.q.A3 c').isSome=V) (h4:∀d,c<=d->d<c'->(g.q.A3 d).isSome=I):RO n g c {g with ph:=.pu c'}
 |stop (g':Gt) (h:∀d,c<=d->d<n->(g.q.A3 d).isSome=I) (k:KM n g 0 g'):RO n g c g'
inductive Me (n:Nat) (g:Gt) (c:Nat):Gt->Prop
 |lo (c':Nat) (h1:c<=c') (h2:c'<n) (h3:((g.rd c').isSome && !(g.Bi c').isSome)=V) (h4:∀d,c<=d->d<c'->((g.rd d).isSome && !(g.Bi d).isSome)=I):Me n g c {g with ph:=.lo c'}
 |stop (g':Gt) (h:∀d,c<=d->d<n->((g.rd d).isSome && !(g.Bi d).isSome)=I) (k:RO n g 0 g'):Me n g c g'
inductive M6 (n:Nat) (g:Gt) (c:Nat):Gt->Prop
 |lk (c':Nat) (h1:c<=c') (h2:c'<n) (h3:(g.q.A3 c').isSome=V) (h4:∀d,c<=d->d<c'->(g.q.A3 d).isSome=I):M6 n g c {g with ph:=.VC c'}
 |xa (h:∀d,c<=d->d<n->(g.q.A3 d).isSome=I):M6 n g c {g with ph:=.xa}
inductive EO (n:Nat) (g:Gt) (c:Nat):Gt->Prop
 |ba (c':Nat) (h1:c<=c') (h2:c'<n) (h3:(g.Bi c').isSome=V) (h4:∀d,c<=d->d<c'->(g.Bi d).isSome=I):EO n g c {g with ph:=.ba c'}
 |Of (h:∀d,c<=d->d<n->(g.Bi d).isSome=I):EO n g c (AkS g)
inductive gJ (n:Nat) (b:Bj) (g:Gt):Gt->Prop
 |CR (q':KS) (k:Ij D9 g.q q') (h:Bz q'≠Z):gJ n b g {g with ph:=.node,q:=q'}
 |get (q':KS) (c:Nat) (k:Ij D9 g.q q'):gJ n b g {g with ph:=.Kg c,q:=q'}
 |TD (q' g':_) (k:Ij D9 g.q q') (hs:q'.s=.nil/\∃b s k,q'.k=.Ao b s k) (hp:BU b=V) (h:M6 n {g with q:=q'} 0 g'):gJ n b g g'
 |Gf (q' g':_) (k:Ij D9 g.q q') (hs:q'.s=.nil/\∃b s k,q'.k=.Ao b s k) (hp:BU b=I) (h:I7 {g with q:=q'} 0 g'):gJ n b g g'
def Lq (x:Cx) (P:Nat->Gt->Prop):Nat->LT->Prop:=λj lt=>∃g',KR x g' lt/\P j g'
theorem Rn.Ajf {Ac:Int} {Ab:List GI} {k j:Nat} {s t:LT} {Q:Nat->LT->Prop} (h:Gc Ac Ab j s t) (r:Rn Ac Ab (k+j) t Q):Rn Ac Ab k s Q:=by
 obtain⟨i,u,h2,h3⟩:=r;exact⟨j+i,u,h.trans h2,by rwa[<-Jq]⟩
theorem YO (q:KS):Nc q.s<=Dy q:=by
 unfold Dy;cases q.s<;>simp only[Nc,KB,AW]<;>omega
variable {x:Cx} {P:Nat->Gt->Prop} {k:Nat}
theorem Rn.outside (hx:Nr x) {q:KS} {lt:LT} {ab:Nat} {B:Bc} {rd Bi:Nat->Option Int} (hp:PD x.Ac x.n x.Ab ab (.rest q.s q.k) lt.pc) (hi:q.k.Db=I) (hm:Mt x.n x.cells B rd Bi q lt.x.m)
  (h:∀q' j,Ij D9 q q'->j+Pn x (DJ q')<=Dy q->P (k+j) (DJ q')):Rn x.Ac x.Ab k lt (Lq x P):=by
 obtain⟨j,lt',q',hr,hk,hs,hle⟩:=cK hx.hb hx.hn hx.h6 (Dy q) AC hp hm;refine Rn.Ajf hr (Rn.Ba ?_);have pI:q'.k.Db=I:=hk.Db.trans hi;have key:(∀b s,q'.s≠ .atomic b s)->Lq x P (k+j) lt':=λhne=>by
  have e:DJ q'=⟨.node,q',q',D9,D9,0,0⟩:=by
   grind [DJ]
  refine⟨DJ q',?_,h q' j hk ?_⟩
  .rw[e];exact⟨⟨_,_,_,_,hs⟩,AC,AC,rfl⟩
  .rw[e];show j+(Dy q'-Nc q'.s)<=Dy q;have:=YO q';omega
 cases hs with
 |halt hs hk hc=>grind
 |out _ hs _ _ _ _=>grind
 |CR ht _ _=>grind [Bz]
 |get _ hk _ _ _ _ _ _ _=>rw[pI] at hk;cases hk
 |D1 _ hk _ _=>rw[hk] at pI;cases pI
 |Of hs MY hc hL hR hw=>
  rename_i b r ab';have e:DJ q'=⟨.Of,q',q',D9,D9,0,0⟩:=by unfold DJ;rw[hs]
  refine⟨DJ q',?_,h q' j hk ?_⟩
  .rw[e];exact⟨b,r,ab',hs,pI,hw,hc,hL,hR,rfl,rfl⟩
  .rw[e];show j+(Dy q'-27)<=Dy q;have:=YO q';rw[hs] at hle this;grind [Nc]
theorem Adx {ab:Nat} (hc:Ik x g m b s ab p):BS g.q0 g.q=⟨s,g.q0.k,g.q.L,g.q.R,D9,[]⟩:=by unfold BS;rw[hc.Ao.ni]
theorem Rn.after (hx:Nr x) {g:Gt} {m:Da} {b s:Bj} {ab p pe:Nat} {R:Nat->Int} {z:Nat} (hc:Ik x g m b s ab p) (h1:DP x.Ab (rz z (Gu x.Ac x.n I g.q0.k.Af pe s)) pe) (h2:PD x.Ac x.n x.Ab z g.q0.k (pe+(Gu x.Ac x.n I g.q0.k.Af pe s).length))
  (h:∀q' j,Ij D9 (BS g.q0 g.q) q'->j+Pn x (DJ q')<=Dy (BS g.q0 g.q)->P (k+j) (DJ q')):Rn x.Ac x.Ab k ⟨pe,⟨R,m⟩⟩ (Lq x P):=by
 have e:=Adx hc;have hw:=hc.mt.wf;rw[hc.s0,hc.k0] at hw;obtain⟨_,_,_,Ld,aU⟩:=hw;refine Rn.outside (q:=BS g.q0 g.q) (ab:=z) (B:=g.B) (rd:=D9) (Bi:=D9) hx ?_ ?_ ?_ h
 .rw[e];exact⟨by rw[hc.Ao.nb];exact h1,by rw[hc.Ao.nb];exact h2⟩
 grind
 .rw[e];refine⟨hc.mt.L,λd hd=>hc.mt.R d (by rw[hc.k0];exact hd),⟨by rw[hc.Ao.nb];exact Ld,aU⟩,λhb=>?_⟩<;>grind
theorem Rn.eV (hx:Nr x) {g:Gt} {m:Da} {b s:Bj} {ab p i:Nat} {R:Nat->Int} (hc:Ik x g m b s ab p) (hi:i<=J g.q.o) (h1:R 1=i)
  (h:∀j g',I7 g i g'->j+Pn x g'<=Dy (BS g.q0 g.q)+4+7*(J g.q.o-i)->P (k+j) g'):Rn x.Ac x.Ab k ⟨Gx x.n p b+1,⟨R,m⟩⟩ (Lq x P):=by
 obtain⟨Pr,z,C5,pe,e1,e2,e3,e4,e5,e6,e7,e8⟩:=hc.Mh;have Mp:=hc.mt.bi (by rw[hc.k0];rfl);have ht:DP x.Ab (rz ab (LM x.Ac (Gx x.n p b))) (Gx x.n p b):=by
  rw[CC,Bw] at e2;have:=e2.2;rw[CM,GT,<-Jq,<-e1] at this;grind [RD,CC,Bw,CM,Gx,F7]
 have hel:ab=Gx x.n p b+8+1:=by
  rw[e3];unfold RD Gx;rw[GT];split
  .rw[F7];show _+(_+8)+1=_;omega
  .show _+(0+8)+1=_;omega
 refine Rn.Ai4 hx.hb Mp.1 ht i hi (by have:=Mp.2;omega) h1 (λy R' ho h1' h2'=>?_) λhe R'=>?_
 .have hlt:=(Jn.1 ho).1;exact⟨{g with ph:=.te i},⟨b,s,ab,p,⟨⟨hc.Ao.ni,hc.Ao.nb,hc.Ao.wf,hc.Ao.bo,hc.Ao.rp⟩,hc.mt,hc.s0,hc.k0,hc.Mh⟩,rfl,h1',AC⟩,h 4 _ (.te hlt) (by show 4+(Dy (BS g.q0 g.q)+7*(J g.q.o-i))<=_;omega)⟩
 .have e5':x.Ab[Gx x.n p b+8]?=U (.GF pe):=by rw[show Gx x.n p b+8=ab-1 by omega];exact e5
  refine Rn.GF e5' (Rn.after hx hc e7 e8 λq' j hk hle=>?_);rw[Jq,Jq];exact h (3+(1+j)) _ (.out q' he hk) Y
end
section
variable {x:Cx} {P:Nat->Gt->Prop} {k:Nat}
theorem WD.ph (h:WD x g b s) (ph:Ph) (Bi:Nat->Option Int) (wv:Int):WD x {g with ph:=ph,Bi:=Bi,wv:=wv} b s:=⟨h.ni,h.nb,h.wf,h.bo,h.rp⟩
theorem Ik.ph {ab:Nat} (h:Ik x g m b s ab p) (ph:Ph) (wv:Int):Ik x {g with ph:=ph,wv:=wv} m b s ab p:=⟨h.Ao.ph ph g.Bi wv,h.mt,h.s0,h.k0,h.Mh⟩
theorem FP {ab:Nat} (h:Ik x g m b s ab p) (hp:BU b=V):CP x.Ac x.n x.Ab ab p/\Gx x.n p b=p+37*x.n+3/\DP x.Ab (rz ab (LM x.Ac (Gx x.n p b))) (Gx x.n p b):=by
 obtain⟨Pr,z,C5,pe,e1,e2,e3,e4,e5,e6,e7,e8⟩:=h.Mh<;>grind [CC,Bw,CM,RD,F7,Gx,rk]
theorem Ik.bi {ab:Nat} (h:Ik x g m b s ab p):BI x.n g.B m g.q.A3 g.rd g.Bi g.q.o/\J g.q.o<=8:=by
 have:=h.mt.bi (by rw[h.k0];rfl);grind
theorem Ik.start {ab:Nat} (h:Ik x g m b s ab p):m.start=g.rv:=h.bi.1.start
def Pm (x:Cx) (g:Gt):Nat:=Dy (BS g.q0 g.q)+5+7*J g.q.o
theorem Rn.tQ (hx:Nr x) {g:Gt} {m:Da} {b s:Bj} {ab p c:Nat} {R:Nat->Int} (hc:Ik x g m b s ab p) (hp:BU b=V) (hl:TH g x.n x.n) (hcn:c<=x.n) (h5:R 5=2*g.wv)
  (h:∀j g',KM x.n g c g'->j+Pn x g'<=Pm x g+3*(x.n-c)+2->P (k+j) g'):Rn x.Ac x.Ab k ⟨p+34*x.n+3+3*c,⟨R,m⟩⟩ (Lq x P):=by
 obtain⟨xw,htp,ht⟩:=FP hc hp;refine Rn.AkH hx.hb hx.n6 hc.bi.1 xw c hcn (λc' j R' h1 h2 h3 h4 hj h5'=>?_) λj R' h4 hj=>?_
 .refine⟨{g with ph:=.fr c'},⟨h2,h3,hl,b,s,ab,p,hc.ph _ _,hp,rfl,AC⟩,h j _ (.fr c' h1 h2 h3 h4) ?_⟩;show j+(Pm x g+3*(x.n-c'))<=_;omega
 .rw[show p+37*x.n+3=Gx x.n p b by omega];refine Rn.Af8 ht λR1 e1=>Rn.eV hx hc AC e1 λj2 g' hr hle=>?_
  rw[Jq,Jq];refine h (j+(1+j2)) g' (.stop g' h4 hr) ?_<;>grind [Pm]
theorem Rn.sE (hx:Nr x) {g:Gt} {m:Da} {b s:Bj} {ab p c:Nat} {R:Nat->Int} (hc:Ik x g m b s ab p) (hp:BU b=V) (hl:TH g x.n x.n) (hcn:c<=x.n) (h5:R 5=2*g.wv)
  (h:∀j g',RO x.n g c g'->j+Pn x g'<=Pm x g+3*x.n+2+4*(x.n-c)+3->P (k+j) g'):Rn x.Ac x.Ab k ⟨p+30*x.n+3+4*c,⟨R,m⟩⟩ (Lq x P):=by
 obtain⟨xw,_,_⟩:=FP hc hp;refine Rn.AlJ hx.hb hx.n6 hc.bi.1 xw c hcn (λc' j R' v h1 h2 h3 h4 hj h5' hv=>?_) λj R' h4 hj h5'=>?_
 .have h3':(g.q.A3 c').isSome=V:=by rw[h3];rfl
  refine⟨{g with ph:=.pu c'},⟨h2,h3',hl,b,s,ab,p,hc.ph _ _,hp,rfl,AC,AC⟩,h j _ (.pu c' h1 h2 h3' h4) ?_⟩;show j+(Pm x g+3*x.n+2+4*(x.n-c'))<=_;omega
 .refine Rn.tQ hx hc hp hl (c:=0) AC AC λj2 g' hr hle=>?_
  rw[Jq];exact h (j+j2) g' (.stop g' h4 hr) Y
theorem Rn.sV (hx:Nr x) {g:Gt} {m:Da} {b s:Bj} {ab p c:Nat} {R:Nat->Int} (hc:Ik x g m b s ab p) (hp:BU b=V) (hl:TH g x.n x.n) (hcn:c<=x.n) (h5:R 5=2*g.wv)
  (h:∀j g',Me x.n g c g'->j+Pn x g'<=Pm x g+7*x.n+5+14*(x.n-c)+4->P (k+j) g'):Rn x.Ac x.Ab k ⟨p+16*x.n+3+14*c,⟨R,m⟩⟩ (Lq x P):=by
 obtain⟨xw,_,_⟩:=FP hc hp;refine Rn.AjD hx.hb hx.n6 hc.bi.1 xw c hcn (λc' j R' h1 h2 h3 h4 hj h5'=>?_) λj R' h4 hj h5'=>?_
 .have h3a:(g.rd c').isSome=V:=by cases hx:(g.rd c').isSome<;>simp_all
  have h3b:(g.Bi c').isSome=I:=by cases hx:(g.Bi c').isSome<;>simp_all
  refine⟨{g with ph:=.lo c'},⟨h2,h3a,h3b,hl,b,s,ab,p,hc.ph _ _,hp,rfl,AC⟩,h j _ (.lo c' h1 h2 h3 h4) ?_⟩;show j+(Pm x g+3*x.n+2+4*x.n+3+14*(x.n-c'))<=_;omega
 .refine Rn.sE hx hc hp hl (c:=0) AC AC λj2 g' hr hle=>?_
  rw[Jq];exact h (j+j2) g' (.stop g' h4 hr) Y
theorem Rn.sX (hx:Nr x) {g:Gt} {m:Da} {b s:Bj} {ab p c:Nat} {R:Nat->Int} (hc:Ik x g m b s ab p) (hp:BU b=V) (hl:TH g x.n c) (hcn:c<=x.n)
  (h:∀j g',M6 x.n g c g'->j+Pn x g'<=Pm x g+21*x.n+12+16*(x.n-c)+2->P (k+j) g'):Rn x.Ac x.Ab k ⟨p+16*c,⟨R,m⟩⟩ (Lq x P):=by
 obtain⟨xw,_,_⟩:=FP hc hp;refine Rn.D0 hx.hb hx.n6 hc.bi.1 xw c hcn (λc' j R' h1 h2 h3 h4 hj=>?_) λj R' h4 hj=>?_
 .refine⟨{g with ph:=.VC c'},⟨h2,h3,λd hd=>?_,b,s,ab,p,hc.ph _ _,hp,rfl⟩,h j _ (.lk c' h1 h2 h3 h4) ?_⟩;grind [hl d hd]
  .show j+(Pm x g+3*x.n+2+4*x.n+3+14*x.n+7+16*(x.n-c'))<=_;omega
 .refine⟨{g with ph:=.xa},⟨λd hd=>?_,b,s,ab,p,hc.ph _ _,hp,rfl⟩,h j _ (.xa h4) ?_⟩;grind [hl d hd]
  .show j+(Pm x g+3*x.n+2+4*x.n+3+14*x.n+7)<=_;omega
structure Bak (x:Cx) (g:Gt) (m:Da) (b s:Bj) (ab z C5:Nat):Prop where
 Ao:WD x g b s
 mt:Mt x.n x.cells g.B g.rd g.Bi g.q m
 Gb:DP x.Ab (rz z (Fq x.Ac x.n C5 ab)) ab
 tp:DP x.Ab (rz ab (KW x.Ac x.n C5)) C5
 Mh:PD x.Ac x.n x.Ab ab (.rest b (.Ao b s g.q0.k)) (C5+(KW x.Ac x.n C5).length)
theorem AiF {ab:Nat} (hb:WD x g b s) (hm:Mt x.n x.cells g.B g.rd g.Bi g.q m) (hp:PD x.Ac x.n x.Ab ab (.Ao b s g.q0.k) p):∃z C5,Bak x g m b s ab z C5:=by
 have Rm:=hp;obtain⟨Pr,z,C5,pe,e1,e2,e3,e4,e5,e6,e7,e8⟩:=Rm;rw[CC,CC,Bw,Bw,CM] at e2;refine⟨z,C5,hb,hm,e6,e2.1.1,e2.1.2,?_⟩;rw[show(KK.Ao b s g.q0.k).Af=g.q0.k.Af from rfl,show(KK.Ao b s g.q0.k).Db=V from rfl,<-e1];exact hp
theorem Rn.uk (hx:Nr x) {g:Gt} {m:Da} {b s:Bj} {ab z C5 c:Nat} {R:Nat->Int} (hb:Bak x g m b s ab z C5) (hcn:c<=x.n)
  (h:∀j g',EO x.n g c g'->j+Pn x g'<=Dy g.q0+4*(x.n-c)+3->P (k+j) g'):Rn x.Ac x.Ab k ⟨ab+4*c,⟨R,m⟩⟩ (Lq x P):=by
 have hi:g.q.k.Db=V:=Vr hb.Ao.bo;have Mp:=(hb.mt.bi hi).1;have hk:=hb.Gb;unfold Fq at hk;simp only[CC,Bw,CM,GT,Ed (Wr x.Ac),Ed (f:=P8 x.Ac) (L:=2) (λ_ _=>rfl)] at hk;obtain⟨⟨k1,k2⟩,k3⟩:=hk;have k3':=(A9.1 k3).1;refine Rn.EZ hx.hb hx.n6 Mp k1 c hcn (λc' j R' v h1 h2 h3 h4 hj hv=>?_) λj R' h4 hj=>?_
 .have h3':(g.Bi c').isSome=V:=by rw[h3];rfl
  refine⟨{g with ph:=.ba c'},⟨h2,AC,b,s,ab,z,C5,hb.Ao.ph _ _ _,hb.mt,hb.Gb,hb.tp,hb.Mh,rfl⟩,h j _ (.ba c' h1 h2 h3' h4) ?_⟩;show j+(Dy g.q0+4*(x.n-c'))<=_;omega
 .refine Rn.AJ hx.hb k2 λR1=>?_
  refine Rn.GF (t:=(C5:Int)) ?_ ?_
  .rw[show ab+4*x.n+8=ab+(4*x.n+2*4) by omega];exact k3'
  refine Rn.C5 (b:=b) (s:=s) (k:=g.q0.k) (ab:=ab) hx.hb hx.n6 hb.tp hb.Mh (λi hi=>(Wp m.AX m.Gm hi).symm) λlt' hc hl hr=>?_
  have h0:=YO g.q0;rw[hb.Ao.ni] at h0;simp only[Nc] at h0;have hn6:=hx.n6;refine⟨AkS g,⟨b,s,ab,hb.Ao.ni,hb.Ao.nb,hb.Ao.wf,hc,λi hi=>?_,λd hd=>?_,rfl,rfl⟩,?_⟩
  .rw[hl];exact(Wp m.AX m.Gm hi).trans (Mp.Gm i hi)
  .rw[hr];exact(hb.mt.R d (JR hd (ZX hb.Ao.bo))).trans (hb.Ao.rp d hd)
  .have e:k+j+8+1+3*x.n+1=k+(j+(3*x.n+10)):=Y
   rw[e];refine h _ _ (.Of h4) ?_;show _+(Dy g.q0-27)<=_;omega
theorem Rn.BB (hx:Nr x) {g:Gt} {lt:LT} {b s:Bj} {ab:Nat} (hb:WD x g b s) (hp:PD x.Ac x.n x.Ab ab (.rest g.q.s g.q.k) lt.pc) (hm:Mt x.n x.cells g.B g.rd g.Bi g.q lt.x.m) (hl:g.Bi=D9)
  (h:∀j g',gJ x.n b g g'->j+Pn x g'<=Dy g.q->P (k+j) g'):Rn x.Ac x.Ab k lt (Lq x P):=by
 obtain⟨j,lt',q',hr,hk,hs,hle⟩:=cK hx.hb hx.hn hx.h6 (Dy g.q) AC hp hm;refine Rn.Ajf hr ?_;have pI:q'.k.Db=V:=hk.Db.trans (Vr hb.bo);have hB:∀ph,WD x {g with ph:=ph,q:=q'} b s:=λph=>⟨hb.ni,hb.nb,hb.wf,(hk.Ao hb.bo).1,λd hd=>((hk.Ao hb.bo).2 d hd).trans (hb.rp d hd)⟩
 have Xp:=YO q';cases hs with
 |halt _ MY _=>rw[MY] at pI;cases pI
 |out MY _ _ _ _ _=>rw[pI] at MY;cases MY
 |Of _ MY _ _ _ _=>rw[pI] at MY;cases MY
 |CR ht hc xo=>
  refine Rn.Ba ⟨{g with ph:=.node,q:=q'},⟨⟨ab,g.B,g.rd,g.Bi,.CR ht hc xo⟩,AC,AC,hl⟩,h j _ (.CR q' hk (by rw[ht];simp)) ?_⟩;show j+(Dy q'-Nc q'.s)<=_;omega
 |get hs MY ha hc hn hg Tb h0 Xs=>
  rename_i v f z a r c p0;refine Rn.Ba ⟨{g with ph:=.Kg c,q:=q'},⟨b,s,ab,p0,v,r,⟨hB _,Xs,hl,⟨f,z,a,hs,ha.1,ha.2,hc⟩,hn,hg⟩,Tb,h0⟩,h j _ (.get q' c hk) ?_⟩;show j+(Dy q'-9)<=_;rw[hs] at Xp hle;grind [Nc]
 |D1 hs MY Rm Xs=>
  rename_i b' s' k';have hbo:=(hB .node).bo;have AkB:q'.k.Ok=U (b,s,g.q0.k):=hbo;rw[MY] at AkB;cases AkB;obtain⟨p,R,m⟩:=lt';have hc:Ik x {g with ph:=.node,q:=q'} m b s ab p:=⟨hB _,Xs,hs,MY,Rm⟩;have Al7:Dy q'=320+Dy (BS g.q0 q'):=by
   rw[show BS g.q0 q'=⟨s,g.q0.k,q'.L,q'.R,D9,[]⟩ by unfold BS;rw[hb.ni]];grind [Dy,KB,AW]
  have ho8:=hc.bi.2;have AnJ:J q'.o<=8:=ho8;have hn6:=hx.n6;rw[hs] at hle;simp only[Nc] at hle;cases Mn:BU b with
  |true=>
   refine Rn.sX hx hc Mn (c:=0) (λd hd=>by show(g.Bi d).isSome=_;rw[hl];simp[D9]) AC λj2 g' LB Ah7=>?_
   rw[Jq];refine h (j+j2) g' (.TD q' g' hk ⟨hs,_,_,_,MY⟩ Mn ?_) ?_
   .cases LB with
    |lk c' h1 h2 h3 h4=>exact .lk c' h1 h2 h3 h4
    |xa h1=>exact .xa h1
   grind [Pm]
  |false=>
   have ht:Gx x.n p b=p:=by grind [Gx]
   obtain⟨Pr,z,C5,pe,e1,e2,e3,e4,e5,e6,e7,e8⟩:=Rm;rw[CC,Bw,CM,GT,<-Jq] at e2;have e2':=e2.2;rw[<-e1] at e2';unfold RD at e2';rw[Mn] at e2';refine Rn.Af8 (p:=p) e2' λR1 h1=>?_
   have:=Rn.eV (P:=P) (k:=k+j+1) hx hc (i:=0) AC h1 λj2 g' LB Ah7=>?_
   grind
   .rw[Jq,Jq];refine h (j+(1+j2)) g' (.Gf q' g' hk ⟨hs,_,_,_,MY⟩ Mn ?_) ?_
    .cases LB with
     |te h1=>exact .te h1
     |out q2 h1 h2=>exact .out q2 h1 h2
    grind
end
inductive Ek where
 |ld (d A:Nat)
 |st (A:Nat) (v:Int)
 |KL (d A:Nat) (a b:Int)
 |Em (d A:Nat) (v:Int)
 |out (v:Int)
 |stop (t:Int)
def aj (a:Int):Option Nat:=if 0<=a/\a<32 then U a.toNat else Z
def evk:GI->XS->Option Ek
 |.load d a k,x=>(aj (wrap64 (Ey x.R a+k))).map (.ld d.toNat ·)
 |.store a k b,x=>(aj (wrap64 (Ey x.R a+k))).map (.st · (Ey x.R b))
 |.KL d a k b c,x=>(aj (wrap64 (Ey x.R a+k))).map (.KL d.toNat · (Ey x.R b) (Ey x.R c))
 |.Em d a k b,x=>(aj (wrap64 (Ey x.R a+k))).map (.Em d.toNat · (Ey x.R b))
 |.out a,x=>U (.out (Ey x.R a))
 |.CR t,_=>U (.stop t)
 |.halt,_=>U (.stop 10)
 |.op ..,_=>U (.stop 1)
 |_,_=>Z
def Pb (g:Gt):Option Ek:=match g.ph with
 |.node=>match g.q.s with
  |.nil=>U (.stop 10)
  |.out a _=>if g.q.k.Db then Z else U (.out (DV g.q.L a))
  |_=>(Bz g.q).map .stop
 |.Of=>U (.ld 1 16)
 |.Kg c=>U (.ld 2 (8+c))
 |.Fp c _=>U (.ld 1 c)
 |.Fy c _ _=>U (.ld 3 (8+c))
 |.VC c=>U (.ld 2 (8+c))
 |.U1 c lv=>U (.KL 3 (8+c) lv (lv+1))
 |.xa=>U (.Em 5 16 1)
 |.lo c=>U (.ld 2 (8+c))
 |.pu c=>(g.q.A3 c).map (.st c ·)
 |.fr c=>U (.st (8+c) (2*g.wv))
 |.te i=>(g.q.o[i]?).map .out
 |.ba c=>(g.Bi c).map (.st (8+c) ·)
def Tu (e:Ek) (v:Int) (lt:LT):LT:=match e with
 |.ld d _=>⟨lt.pc+1,⟨Cv lt.x.R d v,lt.x.m⟩⟩
 |.KL d _ _ _=>⟨lt.pc+1,⟨Cv lt.x.R d v,lt.x.m⟩⟩
 |.Em d _ _=>⟨lt.pc+1,⟨Cv lt.x.R d v,lt.x.m⟩⟩
 |_=>⟨lt.pc+1,lt.x⟩
theorem ff {a:Int} (n:Nat) (h:a=n) (hn:n<32):aj (wrap64 a)=U n:=by
 rw[EP Y Y];grind [aj]
theorem sO {Ac:Int} (hb:Bs Ac) {a:Int} (n:Nat) (h:a=n) (hn:n<32):Pp Ac (wrap64 a)=Z:=by
 obtain⟨h1,h2⟩:=hb;rw[EP Y Y];unfold Pp;rw[In Y]
section
variable {Ac:Int} (hb:Bs Ac) {x:XS}
include hb
theorem cj {k:Int} (n:Nat) (h:Ey x.R a+k=n) (hn:n<32):bt Ac (.load d a k) x=Z/\evk (.load d a k) x=U (.ld d.toNat n):=
 ⟨by show(Pp Ac (wrap64 (Ey x.R a+k))).map _=Z;rw[sO hb n h hn];rfl,by show(aj (wrap64 (Ey x.R a+k))).map _=_;rw[ff n h hn];rfl⟩
theorem Aap {k:Int} {b:Ag} (n:Nat) (h:Ey x.R a+k=n) (hn:n<32):bt Ac (.store a k b) x=Z/\evk (.store a k b) x=U (.st n (Ey x.R b)):=
 ⟨by show(Pp Ac (wrap64 (Ey x.R a+k))).map _=Z;rw[sO hb n h hn];rfl,by show(aj (wrap64 (Ey x.R a+k))).map _=_;rw[ff n h hn];rfl⟩
end
theorem NU {Ac:Int} {n:Nat} {Ab:List GI} {ab:Nat} (h:CP Ac n Ab ab p) (hc:c<n):Ab[p+16*c+2]?=U (.load 2 (.n (8+c)) 0)/\Ab[p+16*c+12]?=U (.KL 3 (.n (8+c)) 0 (.r 2) (.r 3))/\
  Ab[p+16*n+3+14*c+5]?=U (.load 2 (.n (8+c)) 0)/\Ab[p+30*n+3+4*c+3]?=U (.store (.n c) 0 (.r 2))/\Ab[p+34*n+3+3*c+2]?=U (.store (.n (8+c)) 0 (.r 5)):=by
 have h1:=Kt (LA Ac) h.TD hc;have h2:=Kt (NV Ac) h.wK hc;have h3:=Kt (UG Ac) h.put hc;have h4:=Kt (Sp Ac) h.free hc;exact⟨h1 2 _ rfl,h1 12 _ rfl,h2 5 _ rfl,h3 3 _ rfl,h4 2 _ rfl⟩
theorem gD {x:Cx} (hx:Nr x) {g:Gt} {lt:LT} (h:KR x g lt):∃i e,x.Ab[lt.pc]?=U i/\bt x.Ac i lt.x=Z/\evk i lt.x=U e/\Pb g=U e:=by
 have h6:=hx.n6;obtain⟨ph,q0,q,rd,Bi,rv,wv⟩:=g;unfold KR at h;unfold Pb;cases ph with
 |node=>
  obtain⟨⟨ab,B,rd',lkd',hs⟩,h1,h2,_⟩:=h;cases hs with
  |halt hs hk hc=>exact⟨_,_,hc,rfl,rfl,by show(match q.s with|.nil=>_|.out a _=>_|_=>_)=_;rw[show q.s=.nil from hs]⟩
  |out hk hs hc hg hp hm=>exact⟨_,_,hc,rfl,rfl,AC⟩
  |CR ht hc hi=>
   rename_i t i;have e:Pb ⟨.node,q0,q,rd,Bi,rv,wv⟩=U (.stop t):=by
    have Kw:Bz q=U t:=ht;grind [Pb,Bz]
   rcases hi with⟨rfl,rfl⟩|⟨o,d,a,b,rfl,hm,rfl⟩
   .exact⟨_,_,hc,rfl,rfl,e⟩
   .refine⟨_,_,hc,?_,rfl,e⟩;show(BO o (Ey lt.x.R a) (Ey lt.x.R b)).map _=Z;rw[hm];rfl
  |Of hs hk _ _ _ _=>grind
  |get hs hk ha _ _ _ _ _ _=>
   grind [Bz]
  |D1 hs hk _ _=>
   refine Jk ?_ (h1 (by rw[hk];rfl)).1;unfold Bz;rw[hs]
 |Of=>
  obtain⟨b,s,ab,_,_,_,hc,_⟩:=h;have:=cj hx.hb (x:=lt.x) (d:=1) (a:=.n 16) (k:=0) 16 rfl Do;grind [uJ]
 |Kg c=>
  obtain⟨b,s,ab,p0,v,r,hg,hp,h0⟩:=h;have hc:=hg.Mh.get 4 _ rfl;have:=cj hx.hb (x:=lt.x) (d:=2) (a:=.r 0) (k:=8) (8+c) (by rw[lU];grind) (by have:=hg.Mh.lt;omega);exact naw
 |Fp c lv=>
  obtain⟨⟨b,s,ab,p0,v,r,hg,hp,h0,_⟩,_⟩:=h;have hc:=hg.Mh.get 13 _ rfl;have:=cj hx.hb (x:=lt.x) (d:=1) (a:=.r 0) (k:=0) c (by rw[lU];grind) (by have:=hg.Mh.lt;omega);exact naw
 |Fy c lv y=>
  obtain⟨⟨b,s,ab,p0,v,r,hg,hp,h0,_⟩,_⟩:=h;have hc:=hg.Mh.get 14 _ rfl;have:=cj hx.hb (x:=lt.x) (d:=3) (a:=.r 0) (k:=8) (8+c) (by rw[lU];grind) (by have:=hg.Mh.lt;omega);exact naw
 |VC c=>
  obtain⟨hc,_,_,b,s,ab,p,hC,Mn,hp⟩:=h;have:=cj hx.hb (x:=lt.x) (d:=2) (a:=.n (8+c)) (k:=0) (8+c) (by rw[Eu];omega) Y;exact⟨_,_,by rw[hp];exact(NU (FP hC Mn).1 hc).1,this.1,this.2,rfl⟩
 |U1 c lv=>
  obtain⟨hc,_,_,_,b,s,ab,p,hC,Mn,hp,h2,h3⟩:=h;refine⟨_,_,by rw[hp];exact(NU (FP hC Mn).1 hc).2.1,rfl,?_,rfl⟩;show(aj (wrap64 (8+(c:Int)+0))).map _=_;rw[ff (8+c) Y Y];show U (Ek.KL 3 (8+c) (lt.x.R 2) (lt.x.R 3))=_;rw[h2,h3]
 |xa=>
  obtain⟨_,b,s,ab,p,hC,Mn,hp⟩:=h;exact⟨_,.Em 5 16 1,by rw[hp];exact(FP hC Mn).1.b0,rfl,by show(aj (wrap64 (16+0))).map _=_;rw[ff (a:=16+0) 16 rfl Do];rfl,rfl⟩
 |lo c=>
  obtain⟨hc,_,_,_,b,s,ab,p,hC,Mn,hp,_⟩:=h;have:=cj hx.hb (x:=lt.x) (d:=2) (a:=.n (8+c)) (k:=0) (8+c) (by rw[Eu];omega) Y;exact⟨_,_,by rw[hp];exact(NU (FP hC Mn).1 hc).2.2.1,this.1,this.2,rfl⟩
 |pu c=>
  obtain⟨hc,_,_,b,s,ab,p,hC,Mn,hp,_,hm⟩:=h;have:=Aap hx.hb (x:=lt.x) (a:=.n c) (k:=0) (b:=.r 2) c (by rw[Eu];omega) Y;refine⟨_,_,by rw[hp];exact(NU (FP hC Mn).1 hc).2.2.2.1,this.1,this.2,?_⟩;show(q.A3 c).map _=_;rw[show q.A3 c=_ from hm];rfl
 |fr c=>
  obtain⟨hc,_,_,b,s,ab,p,hC,Mn,hp,h5⟩:=h;have:=Aap hx.hb (x:=lt.x) (a:=.n (8+c)) (k:=0) (b:=.r 5) (8+c) (by rw[Eu];omega) Y;refine⟨_,_,by rw[hp];exact(NU (FP hC Mn).1 hc).2.2.2.2,this.1,this.2,?_⟩;show U (Ek.st (8+c) (2*wv))=U (.st (8+c) (lt.x.R 5));rw[h5]
 |te i=>
  obtain⟨b,s,ab,p,hC,hp,_,ho⟩:=h;obtain⟨Pr,z,C5,pe,e1,e2,e3,e4,e5,e6,e7,e8⟩:=hC.Mh;rw[CC,Bw] at e2;have:=e2.2;rw[CM,GT,<-Jq,<-e1] at this;unfold RD at this;rw[CC,Bw,CM] at this;have h2:=this.2;have e:p+(if BU b=V then FO x.Ac x.n p else []).length=Gx x.n p b:=by
   grind [Gx,F7]
  rw[e] at h2;refine⟨_,_,by rw[hp];exact h2 5 _ rfl,rfl,rfl,?_⟩;show(q.o[i]?).map _=_;rw[show q.o[i]?=_ from ho];rfl
 |ba c=>
  obtain⟨hc,hl,b,s,ab,z,C5,_,_,Xx,_,_,hp⟩:=h;have:=Aap hx.hb (x:=lt.x) (a:=.n (8+c)) (k:=0) (b:=.r 2) (8+c) (by rw[Eu];omega) Y;unfold Fq at Xx;rw[CC,CC,Bw,Bw] at Xx;have hk:=Kt (Wr x.Ac) Xx.1.1 hc 3 _ rfl;refine⟨_,_,by rw[hp];exact hk,this.1,this.2,?_⟩;show(Bi c).map _=_;rw[show Bi c=_ from hl];rfl
def ZC (q:KS) (y:Int):KS:=match q.s with
 |.get v _ _ _ r=>{q with s:=r,L:=Cv q.L v.toNat y}
 |_=>q
def IY (q:KS):KS:=match q.s with
 |.out a r=>{q with s:=r,o:=q.o++[DV q.L a]}
 |_=>q
def aP (g:Gt) (v:Int):Prop:=∃w,v=2*w/\0<=w/\w<=g.rv
inductive Nx (n:Nat) (g:Gt) (v:Int):Bool->Gt->Prop
 |out (h:g.ph=.node) (q':KS) (k:Ij D9 (IY g.q) q'):Nx n g v I (DJ q')
 |Of (h:g.ph=.Of) {b s:Bj} (h0:g.q0.s=.atomic b s) (g':Gt) (r:gJ n b ⟨.node,g.q0,Cw g.q0,D9,D9,v,0⟩ g'):Nx n g v I g'
 |Kg {c:Nat} (h:g.ph=.Kg c) (hv:aP g v):Nx n g v I {g with ph:=.Fp c v}
 |dB {c:Nat} (h:g.ph=.Kg c) (hv:¬aP g v) (g':Gt) (r:EO n g 0 g'):Nx n g v V g'
 |Fp {c:Nat} {lv:Int} (h:g.ph=.Fp c lv):Nx n g v I {g with ph:=.Fy c lv v}
 |Fy {c:Nat} {lv y:Int} (h:g.ph=.Fy c lv y) (hv:v=lv) {b s:Bj} (h0:g.q0.s=.atomic b s) (g':Gt) (r:gJ n b {g with ph:=.node,q:=ZC g.q y,rd:=En g.rd c y} g'):Nx n g v I g'
 |dA {c:Nat} {lv y:Int} (h:g.ph=.Fy c lv y) (hv:v≠lv) (g':Gt) (r:EO n g 0 g'):Nx n g v V g'
 |VC {c:Nat} (h:g.ph=.VC c) (hv:aP g v):Nx n g v I {g with ph:=.U1 c v}
 |wQ {c:Nat} (h:g.ph=.VC c) (hv:¬aP g v) (g':Gt) (r:EO n g 0 g'):Nx n g v V g'
 |U1 {c:Nat} {lv:Int} (h:g.ph=.U1 c lv) (hv:v≠0) (g':Gt) (r:M6 n {g with Bi:=En g.Bi c lv} (c+1) g'):Nx n g v I g'
 |wP {c:Nat} {lv:Int} (h:g.ph=.U1 c lv) (hv:v=0) (g':Gt) (r:EO n g 0 g'):Nx n g v V g'
 |xa (h:g.ph=.xa) (g':Gt) (r:Me n {g with wv:=v+1} 0 g'):Nx n g v I g'
 |lo {c:Nat} (h:g.ph=.lo c) (hv:aP g v) (g':Gt) (r:Me n g (c+1) g'):Nx n g v I g'
 |lob {c:Nat} (h:g.ph=.lo c) (hv:¬aP g v) (g':Gt) (r:EO n g 0 g'):Nx n g v V g'
 |pu {c:Nat} (h:g.ph=.pu c) (g':Gt) (r:RO n g (c+1) g'):Nx n g v I g'
 |fr {c:Nat} (h:g.ph=.fr c) (g':Gt) (r:KM n g (c+1) g'):Nx n g v I g'
 |te {i:Nat} (h:g.ph=.te i) (g':Gt) (r:I7 g (i+1) g'):Nx n g v I g'
 |ba {c:Nat} (h:g.ph=.ba c) (g':Gt) (r:EO n g (c+1) g'):Nx n g v I g'
def Nq (x:Cx) (g:Gt) (v:Int) (j:Nat) (g':Gt):Prop:=∃bad,Nx x.n g v bad g'/\(if bad then j+Pn x g'<=Dy g.q0+40 else j+1+Pn x g'<=Pn x g)
section
variable {x:Cx} (hx:Nr x) {g:Gt} {lt:LT}
include hx
theorem UN {ab k:Nat} (hb:WD x g b s) (hm:Mt x.n x.cells g.B g.rd g.Bi g.q m) (hp:PD x.Ac x.n x.Ab ab (.Ao b s g.q0.k) p) (hk:k<=9) (hN:∀g',EO x.n g 0 g'->Nx x.n g v V g'):
  Rn x.Ac x.Ab k ⟨ab,⟨R,m⟩⟩ (Lq x (Nq x g v)):=by
 obtain⟨z,C5,hB⟩:=AiF hb hm hp;have h6:=hx.n6;have:=Rn.uk (P:=Nq x g v) (k:=k) (R:=R) hx hB (c:=0) AC λj g' hr hle=>⟨V,AC,AC⟩
 exact this
omit hx in
theorem Abb {ab:Nat} {r:Bj} (h:Z7 x g m b s ab c p0 v r):∃p,PD x.Ac x.n x.Ab ab (.Ao b s g.q0.k) p:=fx (k:=.rest r g.q.k) h.Mh.Mh h.Ao.bo
theorem Aew (BJ:g.ph=.Kg c) (h:KR x g lt) {v:Int} (hv:0<=v/\v<3000000000000000000):Rn x.Ac x.Ab 0 (Tu (.ld 2 (8+c)) v lt) (Lq x (Nq x g v)):=by
 obtain⟨ph,q0,q,rd,Bi,rv,wv⟩:=g;cases BJ;obtain⟨b,s,ab,p0,w,r,hg,hp,h0⟩:=h;obtain⟨pc,R,m⟩:=lt;cases hp;obtain⟨p,Xq⟩:=Abb hg;have Aw:m.start=rv:=(hg.mt.bi (Vr hg.Ao.bo)).1.start;show Rn x.Ac x.Ab 0 ⟨p0+4+1,⟨Cv R 2 v,m⟩⟩ _;refine Rn.Fp hx.hb hg.Mh.get (c:=c) ((Bp R v (i:=2) (j:=0) Do).trans h0) (BK _ _ _) AC Aw (λUm j R' hj=>UN hx hg.Ao hg.mt Xq Y λg' hr=> .dB rfl (by exact Um) g' hr) λu e1 e2 e3 R' r0 r2=>Rn.Ba ?_
 have ho:aP ⟨.Kg c,q0,q,rd,Bi,rv,wv⟩ v:=⟨u,e1,e2,e3⟩;refine⟨⟨.Fp c v,q0,q,rd,Bi,rv,wv⟩,⟨⟨b,s,ab,p0,w,r,⟨⟨hg.Ao.ni,hg.Ao.nb,hg.Ao.wf,hg.Ao.bo,hg.Ao.rp⟩,hg.mt,hg.Bi,hg.stm,hg.A3,hg.Mh⟩,rfl,r0,r2⟩,ho⟩,I,.Kg rfl ho,?_⟩;show 0+8+1+(Dy q-18)<=Dy q-9;have:60<=Dy q:=by
  grind [Dy,KB,AW,Z7]
 omega
theorem Aev (BJ:g.ph=.Fp c lv) (h:KR x g lt) {v:Int}:Rn x.Ac x.Ab 0 (Tu (.ld 1 c) v lt) (Lq x (Nq x g v)):=by
 have _:=hx;obtain⟨ph,q0,q,rd,Bi,rv,wv⟩:=g;cases BJ;obtain⟨⟨b,s,ab,p0,w,r,hg,hp,h0,h2⟩,ho⟩:=h;obtain⟨pc,R,m⟩:=lt;cases hp;refine Rn.Ba ⟨⟨.Fy c lv v,q0,q,rd,Bi,rv,wv⟩,⟨⟨b,s,ab,p0,w,r,⟨⟨hg.Ao.ni,hg.Ao.nb,hg.Ao.wf,hg.Ao.bo,hg.Ao.rp⟩,hg.mt,hg.Bi,hg.stm,hg.A3,hg.Mh⟩,rfl,(Bp R v (i:=1) (j:=0) Do).trans h0,(Bp R v (i:=1) (j:=2) Do).trans h2,BK R 1 v⟩,ho⟩,I,.Fp rfl,?_⟩;show 0+1+(Dy q-19)<=Dy q-18;have:60<=Dy q:=by
  grind [Dy,KB,AW,Z7]
 omega
theorem Aeu {y:Int} (BJ:g.ph=.Fy c lv y) (h:KR x g lt) {v:Int}:Rn x.Ac x.Ab 0 (Tu (.ld 3 (8+c)) v lt) (Lq x (Nq x g v)):=by
 obtain⟨ph,q0,q,rd,Bi,rv,wv⟩:=g;cases BJ;obtain⟨⟨b,s,ab,p0,w,r,hg,hp,h0,h2,h1⟩,ho⟩:=h;obtain⟨pc,R,m⟩:=lt;cases hp;obtain⟨p,Xq⟩:=Abb hg;have Amq:=Vr hg.Ao.bo;have h6:=hx.n6;have hcn:=hg.Mh.lt;obtain⟨f,z,a,hs,ha1,pO,hc⟩:=hg.stm;obtain⟨Mp,tz⟩:=hg.mt.bi Amq;have hwf:=hg.mt.wf;show Rn x.Ac x.Ab 0 ⟨p0+14+1,⟨Cv R 3 v,m⟩⟩ _;refine Rn.Fy hx.hb hg.Mh.get (c:=c) (lv:=lv) (lw:=v) (x:=y) Y ((Bp R v (i:=3) (j:=0) Do).trans h0) ((Bp R v (i:=3) (j:=1) Do).trans h1) ((Bp R v (i:=3) (j:=2) Do).trans h2) (BK _ _ _) (λhne R'=>UN hx hg.Ao hg.mt Xq Y λg' hr=> .dA rfl hne g' hr) λhe R' hR1=>?_
 have V9:q.s=.get w f z a r:=hs;have KT:Om x.cells q.R (.rest q.s q.k):=hwf;rw[V9] at KT;obtain⟨⟨⟨Fu,Mi,Ld,aU,au⟩,hA⟩,hk⟩:=KT;have hgq:ZC q y={q with s:=r,L:=Cv q.L w.toNat y}:=by unfold ZC;rw[V9]
 have Amm:Bi=D9:=hg.Bi;have Vd:BI x.n ⟨q0.L,rv⟩ {m with rd:=Cv m.rd c 1} q.A3 (En rd c y) Bi q.o:=⟨Mp.Gm,Mp.start,Mp.wr0,Mp.zv,λd hd=>by
   grind [En,BK,Bp,BI],Mp.lk0,Mp.pM,Mp.yU,Mp.An⟩
 have hmt:Mt x.n x.cells ⟨q0.L,rv⟩ (En rd c y) Bi q {m with rd:=Cv m.rd c 1}:=⟨hg.mt.L,hg.mt.R,hg.mt.wf,AC⟩;have Ami:=hmt.Aec (v:=w.toNat) (x:=y) (r:=r) ⟨au,hA⟩ (by rw[V9];exact Jf _);refine Rn.st hx.hb w.toNat (.AX w.toNat) (v:=y) hg.Mh.st (OW Y) (by rw[lU];exact hR1) ?_;refine Rn.BB (g:=⟨.node,q0,ZC q y,En rd c y,Bi,rv,wv⟩) hx (b:=b) (s:=s) (ab:=ab) ⟨hg.Ao.ni,hg.Ao.nb,hg.Ao.wf,?_,?_⟩ ?_ ?_ Amm λj g' hr hle=>⟨I,.Fy rfl he hg.Ao.ni g' hr,?_⟩
 grind [hg.Ao.bo]
 .show∀d,d<q0.k.Af->(ZC q y).R d=_;rw[hgq];exact hg.Ao.rp
 grind [hg.Mh.Mh]
 .show Mt x.n x.cells ⟨q0.L,rv⟩ (En rd c y) Bi (ZC q y) _;rw[hgq];exact Ami
 grind [Dy,KB,AW,Pn]
omit hx in
theorem Ac9 {m':Da} {ab:Nat} (h:Ik x g m b s ab p) (ph:Ph) (Bi:Nat->Option Int) (hm:Mt x.n x.cells g.B g.rd Bi g.q m'):Ik x {g with ph:=ph,Bi:=Bi} m' b s ab p:=⟨h.Ao.ph ph Bi g.wv,hm,h.s0,h.k0,h.Mh⟩
theorem Ahl (BJ:g.ph=.VC c) (h:KR x g lt) {v:Int} (hv:0<=v/\v<3000000000000000000):Rn x.Ac x.Ab 0 (Tu (.ld 2 (8+c)) v lt) (Lq x (Nq x g v)):=by
 obtain⟨ph,q0,q,rd,Bi,rv,wv⟩:=g;cases BJ;obtain⟨hc,tA,Gq,b,s,ab,p,hC,Mn,hp⟩:=h;obtain⟨pc,R,m⟩:=lt;cases hp;show Rn x.Ac x.Ab 0 ⟨p+16*c+2+1,⟨Cv R 2 v,m⟩⟩ _;refine Rn.AjG hx.hb (FP hC Mn).1 hc (lv:=v) (rv:=rv) (BK _ _ _) AC hC.start (λUm j R' hj=>UN hx hC.Ao hC.mt hC.Mh Y λg' hr=> .wQ rfl (by exact Um) g' hr) λw R' e1 e2 e3 r2 r3=>?_
 have ho:aP ⟨.VC c,q0,q,rd,Bi,rv,wv⟩ v:=⟨w,e1,e2,e3⟩;refine⟨⟨.U1 c v,q0,q,rd,Bi,rv,wv⟩,⟨hc,tA,Gq,ho,b,s,ab,p,hC.ph _ _,Mn,rfl,r2,r3⟩,I,.VC rfl ho,?_⟩;show 0+9+1+(Pm x ⟨.VC c,q0,q,rd,Bi,rv,wv⟩+3*x.n+2+4*x.n+3+14*x.n+7+16*(x.n-c)-10)<=Pm x ⟨.VC c,q0,q,rd,Bi,rv,wv⟩+3*x.n+2+4*x.n+3+14*x.n+7+16*(x.n-c);omega
theorem Ahk (BJ:g.ph=.U1 c lv) (h:KR x g lt) {v:Int}:Rn x.Ac x.Ab 0 (Tu (.KL 3 (8+c) lv (lv+1)) v lt) (Lq x (Nq x g v)):=by
 obtain⟨ph,q0,q,rd,Bi,rv,wv⟩:=g;cases BJ;obtain⟨hc,tA,Gq,ho,b,s,ab,p,hC,Mn,hp,h2,h3⟩:=h;obtain⟨pc,R,m⟩:=lt;cases hp;have h6:=hx.n6;show Rn x.Ac x.Ab 0 ⟨p+16*c+12+1,⟨Cv R 3 v,m⟩⟩ _;refine Rn.AjF hx.hb hx.n6 (FP hC Mn).1 hc (lv:=lv) ((Bp R v (i:=3) (j:=2) Do).trans h2) (λh0=>UN hx hC.Ao hC.mt hC.Mh Y λg' hr=> .wP rfl (by rw[BK] at h0;exact h0) g' hr) λh0=>?_
 rw[BK] at h0;obtain⟨Mp,tz⟩:=hC.bi;have AnR:(Bi c).isSome=I:=by have:(Bi c).isSome=_:=Gq c hc;rw[this];simp
 have hm:Mt x.n x.cells ⟨q0.L,rv⟩ rd (En Bi c lv) q {m with lk:=Cv m.lk c 1,hd:=Cv m.hd c lv}:=by
  refine⟨hC.mt.L,hC.mt.R,hC.mt.wf,λhb=>⟨⟨Mp.Gm,Mp.start,Mp.wr0,Mp.zv,Mp.rd0,λd hd=>?_,λd u hd hu=>?_,Mp.yU,Mp.An⟩,(hC.mt.bi hb).2⟩⟩<;>grind [Cv,En,BI]
 refine Rn.sX (g:=⟨.U1 c lv,q0,q,rd,En Bi c lv,rv,wv⟩) hx (Ac9 hC (.U1 c lv) _ hm) Mn (λd hd=>?_) Y λj g' hr hle=>⟨I,.U1 rfl h0 g' ?_,?_⟩
 grind [En,Gq d hd];grind;grind [Pm,Pn]
theorem Ajl (BJ:g.ph=.xa) (h:KR x g lt) {v:Int} (hv:0<=v/\v<3000000000000000000):Rn x.Ac x.Ab 0 (Tu (.Em 5 16 1) v lt) (Lq x (Nq x g v)):=by
 obtain⟨ph,q0,q,rd,Bi,rv,wv⟩:=g;cases BJ;obtain⟨Gq,b,s,ab,p,hC,Mn,hp⟩:=h;obtain⟨pc,R,m⟩:=lt;cases hp;show Rn x.Ac x.Ab 0 ⟨p+16*x.n+1,⟨Cv R 5 v,m⟩⟩ _;refine Rn.AiD (FP hC Mn).1 (BK R 5 v) Y λR' h5=>?_
 refine Rn.sV (g:=⟨.xa,q0,q,rd,Bi,rv,v+1⟩) (c:=0) hx (hC.ph _ _) Mn Gq (Jr _) h5 λj g' hr hle=>⟨I,.xa rfl g' hr,?_⟩<;>grind [Pm,Pn]
theorem Ajo (BJ:g.ph=.lo c) (h:KR x g lt) {v:Int} (hv:0<=v/\v<3000000000000000000):Rn x.Ac x.Ab 0 (Tu (.ld 2 (8+c)) v lt) (Lq x (Nq x g v)):=by
 obtain⟨ph,q0,q,rd,Bi,rv,wv⟩:=g;cases BJ;obtain⟨hc,yN,KX,Gq,b,s,ab,p,hC,Mn,hp,h5⟩:=h;obtain⟨pc,R,m⟩:=lt;cases hp;show Rn x.Ac x.Ab 0 ⟨p+16*x.n+3+14*c+5+1,⟨Cv R 2 v,m⟩⟩ _;refine Rn.AjE hx.hb (FP hC Mn).1 hc (lv:=v) (rv:=rv) (BK _ _ _) AC hC.start (λUm j R' hj=>UN hx hC.Ao hC.mt hC.Mh Y λg' hr=> .lob rfl (by exact Um) g' hr) λw R' e1 e2 e3 r5=>?_
 refine Rn.sV (g:=⟨.lo c,q0,q,rd,Bi,rv,wv⟩) (c:=c+1) hx hC Mn Gq Y (r5.trans ((Bp R v (i:=2) (j:=5) Do).trans h5)) λj g' hr hle=>⟨I,.lo rfl ⟨w,e1,e2,e3⟩ g' hr,?_⟩<;>grind [Pn,Pm]
theorem Ajn (BJ:g.ph=.pu c) (h:KR x g lt) {v u:Int}:Rn x.Ac x.Ab 0 (Tu (.st c u) v lt) (Lq x (Nq x g v)):=by
 obtain⟨ph,q0,q,rd,Bi,rv,wv⟩:=g;cases BJ;obtain⟨hc,tA,Gq,b,s,ab,p,hC,Mn,hp,h5,_⟩:=h;obtain⟨pc,R,m⟩:=lt;cases hp;show Rn x.Ac x.Ab 0 ⟨p+30*x.n+3+4*(c+1),⟨R,m⟩⟩ _;refine Rn.sE (g:=⟨.pu c,q0,q,rd,Bi,rv,wv⟩) (c:=c+1) hx hC Mn Gq Y h5 λj g' hr hle=>⟨I,.pu rfl g' hr,?_⟩<;>grind [Pn,Pm]
theorem Ajp (BJ:g.ph=.fr c) (h:KR x g lt) {v u:Int}:Rn x.Ac x.Ab 0 (Tu (.st (8+c) u) v lt) (Lq x (Nq x g v)):=by
 obtain⟨ph,q0,q,rd,Bi,rv,wv⟩:=g;cases BJ;obtain⟨hc,tA,Gq,b,s,ab,p,hC,Mn,hp,h5⟩:=h;obtain⟨pc,R,m⟩:=lt;cases hp;show Rn x.Ac x.Ab 0 ⟨p+34*x.n+3+3*(c+1),⟨R,m⟩⟩ _;refine Rn.tQ (g:=⟨.fr c,q0,q,rd,Bi,rv,wv⟩) (c:=c+1) hx hC Mn Gq Y h5 λj g' hr hle=>⟨I,.fr rfl g' hr,?_⟩<;>grind [Pn,Pm]
omit hx in
theorem uV {ab:Nat} (hc:Ik x g m b s ab p):DP x.Ab (rz ab (LM x.Ac (Gx x.n p b))) (Gx x.n p b):=by
 obtain⟨Pr,z,C5,pe,e1,e2,e3,e4,e5,e6,e7,e8⟩:=hc.Mh<;>grind [CC,Bw,CM,RD,Gx,F7]
theorem Ajm {i:Nat} (BJ:g.ph=.te i) (h:KR x g lt) {v u:Int}:Rn x.Ac x.Ab 0 (Tu (.out u) v lt) (Lq x (Nq x g v)):=by
 obtain⟨ph,q0,q,rd,Bi,rv,wv⟩:=g;cases BJ;obtain⟨b,s,ab,p,hC,hp,h1,ho⟩:=h;obtain⟨pc,R,m⟩:=lt;cases hp;have nf:q.o[i]?=U (R 2):=ho;have hlt:=(Jn.1 nf).1;have h8:J q.o<=8:=hC.bi.2;show Rn x.Ac x.Ab 0 ⟨Gx x.n p b+5+1,⟨R,m⟩⟩ _;refine Rn.Ai5 (uV hC) h1 Y λR' h1'=>?_
 refine Rn.eV (g:=⟨.te i,q0,q,rd,Bi,rv,wv⟩) (i:=i+1) hx hC hlt h1' λj g' hr hle=>⟨I,.te rfl g' hr,?_⟩<;>grind [Pn]
theorem Ajq (BJ:g.ph=.ba c) (h:KR x g lt) {v u:Int}:Rn x.Ac x.Ab 0 (Tu (.st (8+c) u) v lt) (Lq x (Nq x g v)):=by
 obtain⟨ph,q0,q,rd,Bi,rv,wv⟩:=g;cases BJ;obtain⟨hc,hl,b,s,ab,z,C5,hB,hM,h1,h2,h3,hp⟩:=h;obtain⟨pc,R,m⟩:=lt;cases hp;show Rn x.Ac x.Ab 0 ⟨ab+4*(c+1),⟨R,m⟩⟩ _;refine Rn.uk (g:=⟨.ba c,q0,q,rd,Bi,rv,wv⟩) (c:=c+1) hx ⟨hB,hM,h1,h2,h3⟩ Y λj g' hr hle=>⟨I,.ba rfl g' hr,?_⟩<;>grind [Pn]
theorem Ahm (BJ:g.ph=.Of) (h:KR x g lt) {v:Int}:Rn x.Ac x.Ab 0 (Tu (.ld 1 16) v lt) (Lq x (Nq x g v)):=by
 obtain⟨ph,q0,q,rd,Bi,rv,wv⟩:=g;cases BJ;obtain⟨b,s,ab,h0,Pr,hwf,hck,hL,hR,Gq,Vd⟩:=h;have pR:q0.s=.atomic b s:=h0;obtain⟨pc,R,m⟩:=lt;show Rn x.Ac x.Ab 0 ⟨pc+1,⟨Cv R 1 v,m⟩⟩ _;refine Rn.st hx.hb 38 .start (v:=v) hck.st rfl (BK R 1 v) ?_;have e:Cw q0=⟨b,.Ao b s q0.k,q0.L,q0.R,D9,[]⟩:=by unfold Cw;rw[pR]
 have hw:=hwf;have KT:Om x.cells q0.R (.rest q0.s q0.k):=hwf;rw[pR] at KT;obtain⟨⟨⟨hi,hd,Vb,au⟩,⟨hA1,An9⟩,hA2⟩,hk⟩:=KT;have AnL:q0.k.Db=I:=Pr;refine Rn.BB (g:=⟨.node,q0,Cw q0,D9,D9,v,0⟩) hx (b:=b) (s:=s) (ab:=ab) ⟨h0,Pr,hwf,by rw[e];rfl,by rw[e];grind⟩ (by rw[e];exact hck.Mh) ?_ rfl λj g' hr hle=>⟨I,.Of rfl h0 g' hr,?_⟩
 .rw[e];refine⟨hL,hR,⟨⟨Vb,hA1⟩,AC,AC,AC,hk⟩,λ_=>⟨?_,?_⟩⟩
  .have Mp:=BI.Og (m:=m) hck.cl hck.yU;exact⟨λi hi=>(hck.kp i hi).trans (hL i hi),rfl,Mp.wr0,Mp.zv,Mp.rd0,Mp.lk0,Mp.pM,Mp.yU,Mp.An⟩
  .show 0+(ob b+0)<=8;omega
 grind [Dy,KB,AW,Pn]
theorem Ahj (BJ:g.ph=.node) (h:KR x g lt) {v u:Int} (he:Pb g=U (.out u)):Rn x.Ac x.Ab 0 (Tu (.out u) v lt) (Lq x (Nq x g v)):=by
 obtain⟨ph,q0,q,rd,Bi,rv,wv⟩:=g;cases BJ;have Bg:(match q.s with|.nil=>U (.stop 10)|.out a _=>if q.k.Db then Z else U (.out (DV q.L a))|_=>(Bz q).map .stop)=U (Ek.out u):=he;obtain⟨⟨ab,B,rd',lkd',hs⟩,h1,h2,_⟩:=h;cases hs with
 |out hk hs hc hg hp hm=>
  rename_i a r gg;have V9:q.s=.out a r:=hs;have MY:q.k.Db=I:=hk;have e:IY q={q with s:=r,o:=q.o++[DV q.L a]}:=by unfold IY;rw[V9]
  have Xs:=hm.wf;have FM:Om x.cells q.R (.rest q.s q.k):=Xs;rw[V9] at FM;refine Rn.outside (q:=IY q) (ab:=ab) (B:=B) (rd:=rd') (Bi:=lkd') hx (by rw[e];exact hp) (by rw[e];exact hk) ?_ λq' j hk hle=>⟨I,.out rfl q' hk,?_⟩
  .rw[e];exact⟨hm.L,hm.R,⟨⟨FM.1.1.2,FM.1.2⟩,FM.2⟩,AC⟩
  grind [Dy,KB,AW,Pn,Nc]
 |halt hs _ _=>rw[show q.s=.nil from hs] at Bg;cases Bg
 |CR ht _ _=>
  have Kw:Bz q=U _:=ht;grind [Bz]
 |Of hs hk _ _ _ _=>grind
 |get hs hk ha _ _ _ _ _ _=>rw[show q.s=_ from hs] at Bg;grind [Bz]
 |D1 hs hk _ _=>rw[show q.s=.nil from hs] at Bg;cases Bg
theorem Adp (h:KR x g lt) {e:Ek} (he:Pb g=U e) (yO:∀t,e≠ .stop t) {v:Int} (hv:(∃c lv,g.ph=.Fp c lv)\/(0<=v/\v<3000000000000000000)):Rn x.Ac x.Ab 0 (Tu e v lt) (Lq x (Nq x g v)):=by
 have Vc:(∀c lv,g.ph≠ .Fp c lv)->0<=v/\v<3000000000000000000:=AC;have Bg:=he;unfold Pb at Bg;cases BJ:g.ph with
 |node=>
  have:∃u,e=.out u:=by
   rw[BJ] at Bg;grind [Bz]
  grind [Ahj]
 |Of=>rw[BJ] at Bg;grind [Ahm]
 |Kg c=>rw[BJ] at Bg;grind [Aew]
 |Fp c lv=>rw[BJ] at Bg;grind [Aev]
 |Fy c lv y=>rw[BJ] at Bg;grind [Aeu]
 |VC c=>rw[BJ] at Bg;grind [Ahl]
 |U1 c lv=>rw[BJ] at Bg;grind [Ahk]
 |xa=>rw[BJ] at Bg;grind [Ajl]
 |lo c=>rw[BJ] at Bg;grind [Ajo]
 |pu c=>
  rw[BJ] at Bg;replace Bg:(g.q.A3 c).map (Ek.st c ·)=U e:=Bg;cases hm:g.q.A3 c<;>grind [Ajn]
 |fr c=>rw[BJ] at Bg;grind [Ajp]
 |te i=>
  rw[BJ] at Bg;replace Bg:(g.q.o[i]?).map Ek.out=U e:=Bg;grind [Ajm]
 |ba c=>
  rw[BJ] at Bg;replace Bg:(g.Bi c).map (Ek.st (8+c) ·)=U e:=Bg;cases hm:g.Bi c<;>grind [Ajq]
end
def A5 {α:Type} (f:Nat->α) (t:Nat) (v:α):Nat->α:=λu=>if u=t then v else f u
theorem Am (f:Nat->α) (t:Nat) (v:α):A5 f t v t=v:=by simp[A5]
theorem A6 (f:Nat->α) {t u:Nat} (v:α) (h:u≠t):A5 f t v u=f u:=by simp[A5,h]
theorem Dp (f:Nat->α) (t:Nat):A5 f t (f t)=f:=by
 funext u;grind [A5]
def Kv (f:Nat->Option (Nat×Int)) (n:Nat) (c:Nat):List (Nat×Int):=if c<n then (f c).toList++Kv f n (c+1) else []
termination_by n-c
theorem GR (f:Nat->Option (Nat×Int)) {n c:Nat} (h:c<n):Kv f n c=(f c).toList++Kv f n (c+1):=by rw[Kv,Jb h]
theorem Sj (f:Nat->Option (Nat×Int)) {n c:Nat} (h:n<=c):Kv f n c=[]:=by rw[Kv,In Y]
theorem UZ (f:Nat->Option (Nat×Int)) (n:Nat) {c c':Nat} (h:c<=c') (hf:∀d,c<=d->d<c'->d<n->f d=Z):Kv f n c=Kv f n c':=by
 obtain⟨k,rfl⟩:∃k,c'=c+k:=⟨c'-c,Y⟩;induction k<;>grind [GR,Sj]
theorem U0 (f:Nat->Option (Nat×Int)) (n:Nat) {c:Nat} (hf:∀d,c<=d->d<n->f d=Z):Kv f n c=[]:=by
 by_cases h:c<=n
 .rw[UZ f n h AC,Sj f AC]
 grind [Sj]
theorem CY {f:Nat->Option (Nat×Int)} {n:Nat} {p:Nat×Int}:∀{c:Nat},p∈Kv f n c<->∃d,c<=d/\d<n/\f d=U p:=by
 have key:∀k c,n-c<=k->(p∈Kv f n c<->∃d,c<=d/\d<n/\f d=U p):=by
  intro k;induction k with
  |zero=>
   grind [Sj]
  |succ k ih=>
   intro c hc;grind [GR,Sj f Y]
 exact λ{c}=>key (n-c) c AC
def Z1 (p q:Nat×Int):Prop:=8<=p.1->p.1≠q.1
theorem cX {f:Nat->Option (Nat×Int)} (h:∀d p,f d=U p->p.1=8+d) (n:Nat):∀c,(Kv f n c).Pairwise Z1:=by
 have key:∀k c,n-c<=k->(Kv f n c).Pairwise Z1:=by
  intro k;induction k with
  |zero=>intro c hc;rw[Sj f Y];exact .nil
  |succ k ih=>
   intro c hc;by_cases hn:c<n
   .rw[GR f hn,QR];refine⟨?_,AC,?_⟩;grind
    .intro p hp q hq _ he;grind [CY]
   grind
 exact λc=>key (n-c) c AC
structure LK (T n:Nat) (sm:Nat->Int) (N:Int) (H:Nat->Nat->Option Int) (Z95:Nat->List (Nat×Int)):Prop where
 BR:∀t c v,t<T->c<n->H t c=U v->sm (8+c)=v+1/\(∃w,v=2*w/\0<=w/\w<=N)/\∀u,(8+c,u)∉Z95 t
 todo:∀t a v,t<T->(a,v)∈Z95 t->a<n\/∃c,c<n/\a=8+c/\(∃w,v=2*w/\0<=w/\w<=N)/\∃u,sm (8+c)=2*u+1/\0<=u/\u<=N
 nd:∀t,t<T->(Z95 t).Pairwise Z1
 Po:∀t t' c,t<T->t'<T->c<n->((H t c).isSome=V\/∃v,(8+c,v)∈Z95 t)->((H t' c).isSome=V\/∃v,(8+c,v)∈Z95 t')->t=t'
 free:∀c,c<n->(∀t,t<T->H t c=Z/\∀v,(8+c,v)∉Z95 t)->∃w,sm (8+c)=2*w/\0<=w/\w<=N
section
variable {T n:Nat} {sm:Nat->Int} {N:Int} {H:Nat->Nat->Option Int} {Z95:Nat->List (Nat×Int)} (h:LK T n sm N H Z95) (h6:n<=6)
include h
theorem LK.bz {N':Int} {sm':Nat->Int} (hN:N<=N') (hs:∀c,c<n->sm' (8+c)=sm (8+c)):LK T n sm' N' H Z95 where
 BR:=λt c v ht hc hv=>by
  obtain⟨h1,⟨w,h2,h3,h4⟩,h5⟩:=h.BR t c v ht hc hv;exact⟨by rw[hs c hc];exact h1,⟨w,h2,h3,Y⟩,h5⟩
 todo:=λt a v ht hv=>by
  rcases h.todo t a v ht hv with h1|⟨c,h1,h2,⟨w,h3,h4,h5⟩,u,h6,h7,h8⟩;grind
  .exact .inr ⟨c,h1,h2,⟨w,h3,h4,Y⟩,u,by rw[hs c h1];exact h6,h7,Y⟩
 nd:=h.nd
 Po:=h.Po
 free:=λc hc hx=>by
  obtain⟨w,h1,h2,h3⟩:=h.free c hc hx;exact⟨w,by rw[hs c hc];exact h1,h2,Y⟩
include h6
theorem LK.val (hc:c<n):∃w,0<=w/\w<=N/\(sm (8+c)=2*w\/sm (8+c)=2*w+1):=by
 by_cases hx:∀t,t<T->H t c=Z/\∀v,(8+c,v)∉Z95 t
 .obtain⟨w,h1,h2,h3⟩:=h.free c hc hx;exact⟨w,h2,h3,.inl h1⟩
 .obtain⟨t,ht⟩:=Classical.not_forall.1 hx;obtain⟨ht,hx⟩:=Classical.not_imp.1 ht;cases hH:H t c with
  |some v=>
   obtain⟨h1,⟨w,h2,h3,h4⟩,_⟩:=h.BR t c v ht hc hH;exact⟨w,h3,h4,AC⟩
  |none=>
   obtain⟨v,hv⟩:∃v,(8+c,v)∈Z95 t:=by
    grind
   rcases h.todo t _ v ht hv with h1|⟨c',h1,h2,_,u,h3,h4,h5⟩
   .omega
   .obtain rfl:c'=c:=Y
    exact⟨u,h4,h5,.inr h3⟩
theorem LK.C7 {t a:Nat} {r:List (Nat×Int)} (ht:t<T) (hd:Z95 t=(a,u)::r):LK T n (Cv sm a u) N H (A5 Z95 t r):=by
 have fX:∀t' p,p∈A5 Z95 t r t'->p∈Z95 t':=λt' p hp=>by
  grind [A5]
 have Nk:(a,u)∈Z95 t:=by rw[hd];grind
 have EG:=h.nd t ht;rw[hd,Qc] at EG;have Acr:∀{c:Nat},c<n->a=8+c->∀t',t'<T->(H t' c=Z)/\∀v,(8+c,v)∉A5 Z95 t r t':=λ{c} hc ha t' Kw=>by
  have hne:∀v,(8+c,v)∉A5 Z95 t r t:=λv hv=>by
   rw[Am] at hv;exact EG.1 _ hv AC ha
  have ho:∀t'',t''<T->((H t'' c).isSome=V\/∃v,(8+c,v)∈Z95 t'')->t''=t:=λt'' AlW hx=>h.Po t'' t c AlW ht hc hx AC
  constructor
  .cases hH:H t' c<;>grind [LK]
  grind [LK]
 refine⟨λt' c v Kw hc hv=>?_,λt' b v Kw hv=>?_,λt' Kw=>?_,λt' t'' c h1 h2 h3 h4 h5=>h.Po t' t'' c h1 h2 h3 AC AC,λc hc hx=>?_⟩
 .obtain⟨h1,h2,h3⟩:=h.BR t' c v Kw hc hv;refine⟨?_,h2,λu' lf=>h3 u' (fX _ _ lf)⟩<;>grind [Bp]
 .rcases h.todo t' b v Kw AC with h1|⟨c,h1,h2,h3,w,h4,h5⟩;grind
  .refine .inr ⟨c,h1,h2,h3,w,?_,h5⟩<;>grind [Bp]
 grind [A5,LK]
 .by_cases ha:a=8+c
  .rcases h.todo t a u ht Nk with h1|⟨c',h1,h2,⟨w,h3,h4,h5⟩,_⟩
   .omega
   .exact⟨w,by rw[ha,BK];exact h3,h4,h5⟩
  .obtain⟨w,h1,h2⟩:=h.free c hc λt' Kw=>⟨AC,λv hv=>by
      grind [Am,A6]⟩
   exact⟨w,(Bp _ _ AC).trans h1,h2⟩
theorem LK.TD {t:Nat} (ht:t<T) (hc:c<n) (he:sm (8+c)=lv) (hl:∃w,lv=2*w/\0<=w/\w<=N):LK T n (Cv sm (8+c) (lv+1)) N (A5 H t (En (H t) c lv)) Z95:=by
 have Xf:∀t',t'<T->H t' c=Z/\∀v,(8+c,v)∉Z95 t':=λt' Kw=>by
  obtain⟨w,hw,_⟩:=hl;constructor
  .cases hH:H t' c<;>grind [LK]
  grind [LK]
 have hH:∀t' d,(t'≠t\/d≠c)->A5 H t (En (H t) c lv) t' d=H t' d:=λt' d hd=>by
  unfold A5 En;by_cases h1:t'=t
  .rw[Jb h1];grind
  grind
 have hHt:A5 H t (En (H t) c lv) t c=U lv:=by rw[Am];unfold En;rw[Jb rfl]
 refine⟨λt' d v Kw hd hv=>?_,λt' b v Kw hv=>?_,h.nd,λt' t'' d h1 h2 h3 h4 h5=>?_,λd hd hx=>?_⟩
 .by_cases hx:t'=t/\d=c
  .obtain⟨rfl,rfl⟩:=hx;rw[hHt] at hv;cases hv;exact⟨BK _ _ _,hl,AC⟩
  .rw[hH t' d Y] at hv;by_cases hdc:d=c;grind
   .obtain⟨h1,h2,h3⟩:=h.BR t' d v Kw hd hv;exact⟨(Bp _ _ Y).trans h1,h2,h3⟩
 .rcases h.todo t' b v Kw hv with h1|⟨d,h1,h2,h3,u,h4,h5⟩;grind
  .refine .inr ⟨d,h1,h2,h3,u,?_,h5⟩<;>grind [Bp]
 grind [LK]
 .by_cases hdc:d=c;grind
  .obtain⟨w,h1,h2⟩:=h.free d hd AC;exact⟨w,(Bp _ _ Y).trans h1,h2⟩
theorem LK.decide {t:Nat} {l:List (Nat×Int)} (ht:t<T) (hl:∀a v,(a,v)∈l->a<n\/∃c,c<n/\a=8+c/\(H t c).isSome=V/\∃w,v=2*w/\0<=w/\w<=N) (ha:l.Pairwise Z1) (DT:∀c,c<n->(H t c).isSome=V->∃v,(8+c,v)∈l):
  LK T n sm N (A5 H t D9) (A5 Z95 t (Z95 t++l)):=by
 have Nk:∀c,c<n->∀v,(8+c,v)∈l->(H t c).isSome=V:=AC;have Um:∀c,c<n->(H t c).isSome=V->∀u,(8+c,u)∉Z95 t:=λc hc hs u=>by
  grind [Option.isSome_iff_exists,LK]
 have Cp:∀t' c,c<n->((A5 H t D9 t' c).isSome=V\/∃v,(8+c,v)∈A5 Z95 t (Z95 t++l) t')->((H t' c).isSome=V\/∃v,(8+c,v)∈Z95 t'):=λt' c hc hx=>by
  by_cases he:t'=t
  .subst he;rw[Am,Am] at hx;rcases hx with hx|⟨v,hv⟩
   .cases hx
   grind
  .rw[A6 _ _ he,A6 _ _ he] at hx;exact hx
 refine⟨λt' c v Kw hc hv=>?_,λt' a v Kw hv=>?_,λt' Kw=>?_,λt' t'' c h1 h2 h3 h4 h5=>h.Po t' t'' c h1 h2 h3 AC AC,λc hc hx=>h.free c hc λt' Kw=>?_⟩
 .by_cases he:t'=t
  .subst he;rw[Am] at hv;cases hv
  .rw[A6 _ _ he] at hv;rw[A6 _ _ he];exact h.BR t' c v Kw hc hv
 .by_cases he:t'=t
  .subst he;rw[Am] at hv;rcases Jp.1 hv with hv|hv
   .exact h.todo t' a v Kw hv
   .rcases hl a v hv with h1|⟨c,h1,h2,h3,h4⟩;grind
    .obtain⟨v',Vc⟩:=JA.1 h3;obtain⟨h5,⟨w,h6,h7,h8⟩,_⟩:=h.BR t' c v' Kw h1 Vc;exact .inr ⟨c,h1,h2,h4,w,Y,h7,h8⟩
  .rw[A6 _ _ he] at hv;exact h.todo t' a v Kw hv
 .by_cases he:t'=t
  .subst he;rw[Am,QR];refine⟨h.nd t' Kw,ha,λp hp q hq h8 he=>?_⟩<;>grind
  grind [A6,LK]
 .by_cases he:t'=t
  .subst he;have:=hx t' Kw;rw[Am,Am] at this;refine⟨?_,AC⟩;cases hH:H t' c<;>grind
  .have:=hx t' Kw;rw[A6 _ _ he,A6 _ _ he] at this;exact this
end
