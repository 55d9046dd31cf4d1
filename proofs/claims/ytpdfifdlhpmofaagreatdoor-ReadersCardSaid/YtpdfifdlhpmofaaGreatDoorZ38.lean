/-
  Part 38 of the proof.
-/
import Derived.Test.YtpdfifdlhpmofaaGreatDoorZ31
import Derived.Test.YtpdfifdlhpmofaaGreatDoorZ10
import Derived.Test.YtpdfifdlhpmofaaGreatDoorY00
set_option linter.unusedVariables false
set_option linter.unusedSimpArgs false
set_option maxHeartbeats 3200000
set_option maxRecDepth 100000
namespace Go.Proofs.YtpdfifdlhpmofaaGreatDoor
open Go.RowKit
open Go.Lib (hid)
theorem nae {p:Prop} (h:p:=by
 exact Rn.UK hb (T:=8) (.wr c) hl.1 hl.2.1 Y (Nr Y) rfl fun R' hR=>⟨fun _=>q 2 R' (LE _) hR,fun hv=>UV ((BI.wrF hm hc).2 hf) hv⟩):p:=h
theorem nal {p:Prop} (h:p:=by
 unfold EH;rw[hq];simp only[Sp,B9];omega):p:=h
theorem naA {p:Prop} (h:p:=by
 rw[Rv hb o ho Y];subst hf;rfl):p:=h
theorem naB {p:Prop} (h:p:=by
 have:=(BI.wrF hm h2).1 hv;rw[hf] at this;cases this):p:=h
theorem naD {p:Prop} (h:p:=by
 simp only[Qam] at h;obtain⟨_,_,rfl⟩:=h;exact⟨hb,fun _ _=>rfl⟩):p:=h
theorem naI {p:Prop} (h:p:=by
 rw[show m.toNat=(m.toNat - 1)+1 by omega,Nat.succ_mul,Nat.add_sub_cancel];omega):p:=h
theorem naK {p:Prop} (h:p:=by
 rw[show w.toNat - 1=((w - 1).toNat - 1)+1 by omega,Nat.succ_mul,Nat.add_comm]):p:=h
variable {x Ac t i e d v lv rv:Int} {o:List Int} {p n c ab p0 L:Nat} {Ab l:List GI} {s b:Bt} {rd rd' BW Bp:Nat->Option Int} {a:Ag} {R R':Nat->Int} {f:Nat->Nat->List LI}
def Iv (f:BitVec 64->BitVec 64->BitVec 64) (x y:Int):Int:=wrap64 (f (BitVec.ofInt 64 x) (BitVec.ofInt 64 y)).toNat
def Uu:Nat->Int->Int
 | 0,a=>a
 | n+1,a=>Uu n (wrap64 (a+a))
def Ut:Nat->Int->Int
 | 0,a=>a
 | n+1,a=>Ut n (wrap64 ((wrap64 (a - Iv (· &&& ·) a 1)).tdiv 2))
def gU:ByteArray:=⟨#[109,117,108]⟩
def Qz:ByteArray:=⟨#[100,105,118]⟩
def We:ByteArray:=⟨#[109,111,100]⟩
def gT:ByteArray:=⟨#[120,111,114]⟩
def Co (op:ByteArray) (a b:Int):Option Int:=
 if op=Ja then some (wrap64 (a+b)) else if op=I9 then some (wrap64 (a - b)) else if op=gU then some (wrap64 (a*b))
 else if op=Qz\/op=We then
  if b=0 then none else if b= -1 then some (if op=Qz then wrap64 (-a) else 0) else some (if op=Qz then wrap64 (a.tdiv b) else a.tmod b)
 else if op=Wf then some (Iv (· &&& ·) a b) else if op=sJ then some (Iv (· ||| ·) a b) else if op=gT then some (Iv (· ^^^ ·) a b)
 else if op=Qy then some (Uu (Iv (· &&& ·) b 63).toNat a) else if op=Uz then some (Ut (Iv (· &&& ·) b 63).toNat a)
 else if op=XV then some (if a < b then 1 else 0) else if op=XW then some (if a=b then 1 else 0) else some 0
theorem Fu (h: -9223372036854775808<=x) (k:x < 9223372036854775808):wrap64 x=x:=by unfold wrap64;omega
theorem ZH (x:Int) (h:0<=x) (k:x < 9223372036854775808):(BitVec.ofInt 64 x).toNat=x.toNat:=by
 rw[BitVec.toNat_ofInt];omega
theorem fE (v:Int) (h:0<=v) (k:v < 4000000000000000000):Iv (· &&& ·) (2*v) 1=0:=by
 unfold Iv;rw[BitVec.toNat_and,ZH _ Y Y,ZH _ Y Y,show(1:Int).toNat=1 by rfl,Nat.and_one_is_mod,show(2*v).toNat % 2=0 by omega];exact Fu AC AC
theorem Aag (v:Int) (h:0<=v) (k:v < 4000000000000000000):Iv (· &&& ·) (2*v+1) 1=1:=by
 unfold Iv;rw[BitVec.toNat_and,ZH _ Y Y,ZH _ Y Y,show(1:Int).toNat=1 by rfl,Nat.and_one_is_mod,show(2*v+1).toNat % 2=1 by omega];exact Fu AC AC
theorem ym (v:Int) (h:0<=v) (k:v < 4000000000000000000):Iv (· ||| ·) (2*v) 1=2*v+1:=by
 unfold Iv;rw[BitVec.toNat_or,ZH _ Y Y,ZH _ Y Y,show(1:Int).toNat=1 by rfl];have h2:(2*v).toNat ||| 1=2*v.toNat+1:=by
  rw[show(2*v).toNat=2*v.toNat by omega];have:=Nat.two_pow_add_eq_or_of_lt (i:=1) (b:=1) AC v.toNat;simpa using this.symm
 rw[h2,Fu Y Y];omega
theorem ry (v:Int) (h:0<=v) (k:v < 4000000000000000000):Ut 1 (2*v)=v:=by
 unfold Ut Ut;rw[fE v h k,Fu (x:=2*v - 0) Y Y,Int.tdiv_eq_ediv_of_nonneg Y,show(2*v - 0) / 2=v by omega,Fu Y Y]
theorem x8 (v:Int) (h:0<=v) (k:v < 4000000000000000000):Uu 1 v=2*v:=by
 unfold Uu Uu;rw[Fu Y Y];omega
theorem wy:(Iv (· &&& ·) 1 63).toNat=1:=by decide+kernel
theorem L4 (a b:Int):Co Ja a b=some (wrap64 (a+b)):=by unfold Co;rw[In rfl]
theorem Y2 (a b:Int):Co I9 a b=some (wrap64 (a - b)):=by unfold Co;rw[I (by decide+kernel),In rfl]
theorem SQ (a b:Int):Co Wf a b=some (Iv (· &&& ·) a b):=by unfold Co;rw[I (by decide+kernel),I (by decide+kernel),I (by decide+kernel),I (by decide+kernel),In rfl]
theorem dH (a b:Int):Co sJ a b=some (Iv (· ||| ·) a b):=by unfold Co;rw[I (by decide+kernel),I (by decide+kernel),I (by decide+kernel),I (by decide+kernel),I (by decide+kernel),In rfl]
theorem nP (a:Int):Co Qy a 1=some (Uu 1 a):=by unfold Co;rw[I (by decide+kernel),I (by decide+kernel),I (by decide+kernel),I (by decide+kernel),I (by decide+kernel),I (by decide+kernel),I (by decide+kernel),In rfl,wy]
theorem nO (a:Int):Co Uz a 1=some (Ut 1 a):=by unfold Co;rw[I (by decide+kernel),I (by decide+kernel),I (by decide+kernel),I (by decide+kernel),I (by decide+kernel),I (by decide+kernel),I (by decide+kernel),I (by decide+kernel),In rfl,wy]
theorem Ok (a b:Int):Co XV a b=some (if a < b then 1 else 0):=by unfold Co;rw[I (by decide+kernel),I (by decide+kernel),I (by decide+kernel),I (by decide+kernel),I (by decide+kernel),I (by decide+kernel),I (by decide+kernel),I (by decide+kernel),I (by decide+kernel),In rfl]
theorem L3 (a b:Int):Co XW a b=some (if a=b then 1 else 0):=by unfold Co;rw[I (by decide+kernel),I (by decide+kernel),I (by decide+kernel),I (by decide+kernel),I (by decide+kernel),I (by decide+kernel),I (by decide+kernel),I (by decide+kernel),I (by decide+kernel),I (by decide+kernel),In rfl]
def C5 (f:Nat->Int) (i:Nat) (v:Int):Nat->Int:=fun j=>if j=i then v else f j
theorem BZ (f:Nat->Int) (i:Nat) (v:Int):C5 f i v i=v:=by simp[C5]
theorem BN (f:Nat->Int) {i j:Nat} (v:Int) (h:j≠i):C5 f i v j=f j:=by simp[C5,h]
structure Du where
 AR:Nat->Int
 Gr:Nat->Int
 wr:Nat->Int
 vl:Nat->Int
 rd:Nat->Int
 lk:Nat->Int
 hd:Nat->Int
 start:Int
 count:Int
 B7:Nat->Int
 YK:Nat->Int
variable {m:Du}
inductive JM where
 | AR (i:Nat)
 | Gr (i:Nat)
 | wr (i:Nat)
 | vl (i:Nat)
 | rd (i:Nat)
 | lk (i:Nat)
 | hd (i:Nat)
 | start
 | count
 | B7 (i:Nat)
 | YK (i:Nat)
deriving DecidableEq
def JM.Pl (o:Nat):JM:=
 if o < 4 then .AR o else if o < 8 then .Gr (o - 4) else if o < 14 then .wr (o - 8) else if o < 20 then .vl (o - 14) else if o < 26 then .rd (o - 20)
 else if o < 32 then .lk (o - 26) else if o < 38 then .hd (o - 32) else if o=38 then .start else if o=39 then .count else if o < 48 then .B7 (o - 40) else .YK (o - 48)
def JM.enc:JM->Nat
 | .AR i=>i
 | .Gr i=>4+i
 | .wr i=>8+i
 | .vl i=>14+i
 | .rd i=>20+i
 | .lk i=>26+i
 | .hd i=>32+i
 | .start=>38
 | .count=>39
 | .B7 i=>40+i
 | .YK i=>48+i
theorem JM.lx (o:Nat):(JM.Pl o).enc=o:=by
 unfold JM.Pl
 repeat' split
 all_goals simp only[JM.enc]
 all_goals omega
theorem JM.zS {o:Nat}:JM.Pl p=JM.Pl o<->p=o:=⟨fun h=>by rw[<-lx p,h,lx],fun h=>by rw[h]⟩
def Du.bE (m:Du):JM->Int
 | .AR i=>m.AR i
 | .Gr i=>m.Gr i
 | .wr i=>m.wr i
 | .vl i=>m.vl i
 | .rd i=>m.rd i
 | .lk i=>m.lk i
 | .hd i=>m.hd i
 | .start=>m.start
 | .count=>m.count
 | .B7 i=>m.B7 i
 | .YK i=>m.YK i
def Du.gF (m:Du) (v:Int):JM->Du
 | .AR i=>{m with AR:=C5 m.AR i v}
 | .Gr i=>{m with Gr:=C5 m.Gr i v}
 | .wr i=>{m with wr:=C5 m.wr i v}
 | .vl i=>{m with vl:=C5 m.vl i v}
 | .rd i=>{m with rd:=C5 m.rd i v}
 | .lk i=>{m with lk:=C5 m.lk i v}
 | .hd i=>{m with hd:=C5 m.hd i v}
 | .start=>{m with start:=v}
 | .count=>{m with count:=v}
 | .B7 i=>{m with B7:=C5 m.B7 i v}
 | .YK i=>{m with YK:=C5 m.YK i v}
theorem Du.oS (m:Du) (f g:JM) (v:Int):(m.gF v f).bE g=if g=f then v else m.bE g:=by
 cases f <;>cases g <;>simp[Du.bE,Du.gF,C5]
def Du.get (m:Du) (o:Nat):Int:=m.bE (.Pl o)
def Du.set (m:Du) (o:Nat) (v:Int):Du:=m.gF v (.Pl o)
theorem Du.zF (m:Du) (o p:Nat) (v:Int):(m.set o v).get p=if p=o then v else m.get p:=by
 unfold Du.get Du.set;rw[Du.oS];simp only[JM.zS]
def EJ (R:Nat->Int) (a:Ag):Int:=if a.B0 then R a.v.toNat else a.v
def NQ (Ac a:Int):Option Nat:=if Ac<=a/\a < Ac+64 then some (a - Ac).toNat else none
structure XS where
 R:Nat->Int
 m:Du
def XF (Ac:Int):GI->XS->Option (XS×Option Nat)
 | .Sq d a,x=>some (⟨C5 x.R d.toNat (EJ x.R a),x.m⟩,none)
 | .op n d a b,x=>(Co n (EJ x.R a) (EJ x.R b)).map fun v=>(⟨C5 x.R d.toNat v,x.m⟩,none)
 | .load d a k,x=>(NQ Ac (wrap64 (EJ x.R a+k))).map fun o=>(⟨C5 x.R d.toNat (x.m.get o),x.m⟩,none)
 | .store a k b,x=>(NQ Ac (wrap64 (EJ x.R a+k))).map fun o=>(⟨x.R,x.m.set o (EJ x.R b)⟩,none)
 | .Gb t,x=>some (x,some t.toNat)
 | .jz a t,x=>some (x,if EJ x.R a=0 then some t.toNat else none)
 | _,_=>none
structure LT where
 pc:Nat
 x:XS
def r9 (Ac:Int) (Ab:List GI) (s:LT):Option LT:=match Ab[s.pc]? with
 | none=>none
 | some i=>(XF Ac i s.x).map fun r=>⟨r.2.getD (s.pc+1),r.1⟩
inductive Gh (Ac:Int) (Ab:List GI):Nat->LT->LT->Prop
 | nil (s:LT):Gh Ac Ab 0 s s
 | cons {n:Nat} {s t u:LT} (h:r9 Ac Ab s=some t) (k:Gh Ac Ab n t u):Gh Ac Ab (n+1) s u
theorem Gh.trans {m:Nat} {s t u:LT} (h:Gh Ac Ab n s t) (k:Gh Ac Ab m t u):Gh Ac Ab (n+m) s u:=by
 induction h with
 | nil s=>rw[Qaw];exact k
 | cons h _ ih=>rw[Nat.add_right_comm];exact .cons h (ih k)
def exl (Ac:Int):List GI->XS->Option (XS×Option Nat×Nat)
 | [],x=>some (x,none,0)
 | i::l,x=>match XF Ac i x with
  | none=>none
  | some (y,some t)=>some (y,some t,1)
  | some (y,none)=>(exl Ac l y).map fun r=>(r.1,r.2.1,r.2.2+1)
def D1 (Ab:List GI) (l:List GI) (p:Nat):Prop:=∀j x,l[j]?=some x->Ab[p+j]?=some x
theorem A9 {i:GI}:D1 Ab (i::l) p<->Ab[p]?=some i/\D1 Ab l (p+1):=by
 constructor
 ·intro h;exact⟨h 0 i rfl,fun j x hx=>by rw[show p+1+j=p+(j+1) by omega];exact h (j+1) x hx⟩
 ·rintro⟨h,k⟩ j x hx;cases j with
  | zero=>cases hx;exact h
  | succ j=>rw[show p+(j+1)=p+1+j by omega];exact k j x hx
theorem Bo {m:List GI}:D1 Ab (l++m) p<->D1 Ab l p/\D1 Ab m (p+l.length):=by
 induction l generalizing p with
 | nil=>simp[D1]
 | cons i l ih=>rw[WP,A9,A9,ih,IR,and_assoc,show p+1+l.length=p+(l.length+1) by omega]
inductive KK where
 | done
 | rest (s:Bt) (k:KK)
 | loop (b s:Bt) (k:KK)
 | Au (b s:Bt) (k:KK)
variable {k k0:KK}
def KK.Aj:KK->Nat
 | .done=>0
 | .rest _ k=>k.Aj
 | .loop _ _ k=>k.Aj+1
 | .Au _ _ k=>k.Aj
def KK.IS:KK->Bool
 | .done=>false
 | .rest _ k=>k.IS
 | .loop _ _ k=>k.IS
 | .Au .. =>true
def KK.dp:KK->Nat
 | .done=>0
 | .rest _ k=>k.dp+1
 | .loop _ _ k=>k.dp+1
 | .Au _ _ k=>k.dp+1
def B9:Bt->Nat
 | .nil=>0
 | .set _ _ _ _ r=>5+B9 r
 | .get _ _ _ _ r=>60+B9 r
 | .put _ _ _ _ r=>12+B9 r
 | .out _ r=>6+B9 r
 | .atomic b r=>400+B9 b+B9 r
 | .EA _ b r=>4+B9 b+B9 r
 | .loop n b r=>2+n.toNat*(6+B9 b)+B9 r
def Sp:KK->(Nat->Int)->Nat
 | .done,_=>1
 | .rest s k,R=>1+B9 s+Sp k R
 | .loop b s k,R=>6+((R k.Aj).toNat - 1)*(6+B9 b)+B9 s+Sp k R
 | .Au _ s k,R=>320+B9 s+Sp k R
def KZ:Bt->Nat
 | .set .. =>2
 | .get .. =>9
 | .put .. =>7
 | .out .. =>1
 | .atomic .. =>27
 | _=>0
def ob:Bt->Nat
 | .nil=>0
 | .set _ _ _ _ r=>ob r
 | .get _ _ _ _ r=>ob r
 | .put _ _ _ _ r=>ob r
 | .out _ r=>1+ob r
 | .atomic _ r=>ob r
 | .EA _ b r=>ob b+ob r
 | .loop n b r=>n.toNat*ob b+ob r
def cm:KK->(Nat->Int)->Nat
 | .done,_=>0
 | .rest s k,R=>ob s+cm k R
 | .loop b s k,R=>((R k.Aj).toNat - 1)*ob b+ob s+cm k R
 | .Au _ _ _,_=>0
def AB:Bt->Prop
 | .nil=>True
 | .set _ _ _ _ r=>AB r
 | .get _ _ _ _ r=>AB r
 | .put _ _ _ _ r=>AB r
 | .out _ r=>AB r
 | .atomic b r=>(AB b/\ob b<=8)/\AB r
 | .EA _ b r=>AB b/\AB r
 | .loop _ b r=>AB b/\AB r
def pO (cells:Int) (R:Nat->Int):KK->Prop
 | .done=>True
 | .rest s k=>(WF cells s k.dp k.IS/\AB s)/\pO cells R k
 | .loop b s k=>((1<=R k.Aj/\R k.Aj<=4)/\k.dp < 3)/\(WF cells b (k.dp+1) k.IS/\AB b)/\(WF cells s k.dp k.IS/\AB s)/\pO cells R k
 | .Au b s k=>(k.IS=false/\k.dp < 3)/\(WF cells b (k.dp+1) true/\AB b/\ob b<=8)/\(WF cells s k.dp false/\AB s)/\pO cells R k
theorem lz (k:KK):k.Aj<=k.dp:=by
 induction k with
 | done=>exact LE _
 | rest s k ih=>exact Qdu ih
 | loop b s k ih=>exact Nat.succ_le_succ ih
 | Au b s k ih=>exact Qdu ih
theorem aA (k:KK) (R R':Nat->Int) (h:∀d,d < k.Aj->R' d=R d):Sp k R'=Sp k R:=by
 induction k with
 | done=>rfl
 | rest s k ih=>simp only[Sp,ih h]
 | loop b s k ih=>simp only[Sp,ih (fun d hd=>h d (Qdv hd)),h k.Aj (Qa1 _)]
 | Au b s k ih=>simp only[Sp,ih h]
theorem aH (k:KK) (R R':Nat->Int) (h:∀d,d < k.Aj->R' d=R d):cm k R'=cm k R:=by
 induction k with
 | done=>rfl
 | rest s k ih=>simp only[cm,ih h]
 | loop b s k ih=>simp only[cm,ih (fun d hd=>h d (Qdv hd)),h k.Aj (Qa1 _)]
 | Au b s k ih=>rfl
theorem bZ (cells:Int) (k:KK) (R R':Nat->Int) (h:∀d,d < k.Aj->R' d=R d) (w:pO cells R k):pO cells R' k:=by
 induction k with
 | done=>trivial
 | rest s k ih=>exact⟨w.1,ih h w.2⟩
 | loop b s k ih=>exact⟨⟨by rw[h k.Aj (Qa1 _)];exact w.1.1,w.1.2⟩,w.2.1,w.2.2.1,ih (fun d hd=>h d (Qdv hd)) w.2.2.2⟩
 | Au b s k ih=>exact⟨w.1,w.2.1,w.2.2.1,ih h w.2.2.2⟩
section
variable (Ac:Int) (n:Nat) (Ab:List GI)
def aQ (d p Dw:Nat):List LI:=[.i (.load 1 (.n (Ac+(48+d))) 0),.i (.op I9 1 (.r 1) (.n 1)),.i (.store (.n (Ac+(48+d))) 0 (.r 1)),.i (.jz (.r 1) (p+5:Nat)),.i (.Gb Dw)]
def NP:Nat->KK->Nat->Prop
 | _,.done,p=>Ab[p]?=some .halt
 | ab,.rest s k,p=>D1 Ab (rz ab (Gx Ac n k.IS k.Aj p s)) p/\NP ab k (p+(Gx Ac n k.IS k.Aj p s).length)
 | ab,.loop b s k,p=>∃Dw,p=Dw+(Gx Ac n k.IS (k.Aj+1) Dw b).length/\D1 Ab (rz ab (Gx Ac n k.IS (k.Aj+1) Dw b)) Dw/\
  D1 Ab (rz ab (aQ Ac k.Aj p Dw)) p/\D1 Ab (rz ab (Gx Ac n k.IS k.Aj (p+5) s)) (p+5)/\NP ab k (p+5+(Gx Ac n k.IS k.Aj (p+5) s).length)
 | ab,.Au b s k,p=>k.IS=false/\∃z Dw pe:Nat,p=Dw+(JO Ac n Dw).length+(Gx Ac n true k.Aj (Dw+(JO Ac n Dw).length) b).length/\
  D1 Ab (rz ab (JO Ac n Dw++Gx Ac n true k.Aj (Dw+(JO Ac n Dw).length) b++ON Ac n (Cr b) p)) Dw/\
  ab=p+(ON Ac n (Cr b) p).length+1/\pe=ab+(FD Ac n Dw ab).length/\Ab[ab - 1]?=some (.Gb pe)/\D1 Ab (rz z (FD Ac n Dw ab)) ab/\
  D1 Ab (rz z (Gx Ac n false k.Aj pe s)) pe/\NP z k (pe+(Gx Ac n false k.Aj pe s).length)
end
def FZ (L:Nat->Int) (a:At):Int:=if a.AR then L a.v.toNat else a.v
def F2 (f:Nat->Option Int) (i:Nat) (v:Int):Nat->Option Int:=fun j=>if j=i then some v else f j
structure KS where
 s:Bt
 k:KK
 L:Nat->Int
 R:Nat->Int
 BW:Nat->Option Int
 o:List Int
variable {q r:KS}
def Xy (rd:Nat->Option Int) (q:KS):Option KS:=match q.s with
 | .nil=>match q.k with
  | .rest s k=>some {q with s:=s,k:=k}
  | .loop b s k=>if q.R k.Aj - 1=0 then some {q with s:=s,k:=k,R:=C5 q.R k.Aj (q.R k.Aj - 1)} else some {q with s:=b,R:=C5 q.R k.Aj (q.R k.Aj - 1)}
  | _=>none
 | .set v op a b r=>(if op.size=0 then some (FZ q.L a) else Co op (FZ q.L a) (FZ q.L b)).map fun x=>{q with s:=r,L:=C5 q.L v.toNat x}
 | .get v f s a r=>if FZ q.L a < 0\/s<=FZ q.L a then none else
   ((q.BW (f+FZ q.L a).toNat).or (rd (f+FZ q.L a).toNat)).map fun x=>{q with s:=r,L:=C5 q.L v.toNat x}
 | .put f s i a r=>if FZ q.L i < 0\/s<=FZ q.L i then none else some {q with s:=r,BW:=F2 q.BW (f+FZ q.L i).toNat (FZ q.L a)}
 | .out a r=>if q.k.IS=true then some {q with s:=r,o:=q.o++[FZ q.L a]} else none
 | .EA a b r=>some (if FZ q.L a=0 then {q with s:=r} else {q with s:=b,k:= .rest r q.k})
 | .loop m b r=>some {q with s:=b,k:= .loop b r q.k,R:=C5 q.R q.k.Aj m}
 | .atomic .. =>none
inductive Sh (rd:Nat->Option Int):KS->KS->Prop
 | nil (q:KS):Sh rd q q
 | cons {q r u:KS} (h:Xy rd q=some r) (k:Sh rd r u):Sh rd q u
theorem Sh.trans {u:KS} (h:Sh rd q r) (k:Sh rd r u):Sh rd q u:=by
 induction h with
 | nil q=>exact k
 | cons h _ ih=>exact .cons h (ih k)
theorem tH (hr:∀c x,rd c=some x->rd' c=some x) {q r:KS} (h:Xy rd q=some r):Xy rd' q=some r:=by
 unfold Xy at h⊢;split at h <;>try exact h
 split at h
 ·cases h
 ·rename_i h2;rw[I h2];simp only[Qam] at h⊢;obtain⟨x,hx,rfl⟩:=h;refine⟨x,?_,rfl⟩;cases hm:q.BW _ with
  | some y=>rw[hm] at hx;exact hx
  | none=>rw[hm] at hx;exact hr _ _ hx
theorem Sh.mono (hr:∀c x,rd c=some x->rd' c=some x) {q r:KS} (h:Sh rd q r):Sh rd' q r:=by
 induction h with
 | nil q=>exact .nil q
 | cons h _ ih=>exact .cons (tH hr h) ih
def Bs (Ac:Int):Prop:=32<=Ac/\Ac<=160
section
variable {Ac:Int} (hb:Bs Ac)
include hb
theorem Rv (o:Nat) (ho:o < 64) {a:Int} (h:a=Ac+o):NQ Ac (wrap64 a)=some o:=by
 obtain⟨h1,h2⟩:=hb;rw[Fu Y Y];unfold NQ;rw[In Y];congr 1;omega
theorem Aeh (o:Nat) (f:JM) (he:e=o) (ho:o < 64) (hf:JM.Pl o=f) (d:Int) (x:XS):XF Ac (.load d (.n (Ac+e)) 0) x=some (⟨C5 x.R d.toNat (x.m.bE f),x.m⟩,none):=by
 show(NQ Ac (wrap64 (Ac+e+0))).map _=_;exact naA
theorem Aeg (o:Nat) (f:JM) (he:e=o) (ho:o < 64) (hf:JM.Pl o=f) (b:Ag) (x:XS):XF Ac (.store (.n (Ac+e)) 0 b) x=some (⟨x.R,x.m.gF (EJ x.R b) f⟩,none):=by
 show(NQ Ac (wrap64 (Ac+e+0))).map _=_;exact naA
theorem Acn (o:Nat) (f:JM) (x:XS) (he:x.R i.toNat+e=o) (ho:o < 64) (hf:JM.Pl o=f) (d:Int):XF Ac (.load d (.r i) (Ac+e)) x=some (⟨C5 x.R d.toNat (x.m.bE f),x.m⟩,none):=by
 show(NQ Ac (wrap64 (x.R i.toNat+(Ac+e)))).map _=_;exact naA
theorem Acm (o:Nat) (f:JM) (x:XS) (he:x.R i.toNat+e=o) (ho:o < 64) (hf:JM.Pl o=f) (b:Ag):XF Ac (.store (.r i) (Ac+e) b) x=some (⟨x.R,x.m.gF (EJ x.R b) f⟩,none):=by
 show(NQ Ac (wrap64 (x.R i.toNat+(Ac+e)))).map _=_;exact naA
end
theorem Ns (h:c < 4):JM.Pl c= .AR c:=by unfold JM.Pl;rw[In h]
theorem eX (h:c < 4):JM.Pl (4+c)= .Gr c:=by unfold JM.Pl;rw[I Y,In Y];congr 1;omega
theorem Nr (h:c < 6):JM.Pl (8+c)= .wr c:=by unfold JM.Pl;rw[I Y,I Y,In Y];congr 1;omega
theorem jn (h:c < 6):JM.Pl (14+c)= .vl c:=by unfold JM.Pl;rw[I Y,I Y,I Y,In Y];congr 1;omega
theorem bN (h:c < 6):JM.Pl (20+c)= .rd c:=by unfold JM.Pl;rw[I Y,I Y,I Y,I Y,In Y];congr 1;omega
theorem To (h:c < 6):JM.Pl (26+c)= .lk c:=by unfold JM.Pl;rw[I Y,I Y,I Y,I Y,I Y,In Y];congr 1;omega
theorem vL (h:c < 6):JM.Pl (32+c)= .hd c:=by unfold JM.Pl;rw[I Y,I Y,I Y,I Y,I Y,I Y,In Y];congr 1;omega
theorem eW (h:c < 8):JM.Pl (40+c)= .B7 c:=by unfold JM.Pl;rw[I Y,I Y,I Y,I Y,I Y,I Y,I Y,I Y,I Y,In Y];congr 1;omega
theorem bM (c:Nat):JM.Pl (48+c)= .YK c:=by unfold JM.Pl;rw[I Y,I Y,I Y,I Y,I Y,I Y,I Y,I Y,I Y,I Y];congr 1;omega
theorem eS (R:Nat->Int) (k:Int):EJ R (.r k)=R k.toNat:=rfl
theorem D8 (R:Nat->Int) (k v:Int):EJ (C5 R k.toNat v) (.r k)=v:=BZ _ _ _
theorem ED (R:Nat->Int) (v:Int):EJ R (.n v)=v:=rfl
def Rn (Ac:Int) (Ab:List GI) (k:Nat) (s:LT) (Q:Nat->LT->Prop):Prop:=∃j t,Gh Ac Ab j s t/\Q (k+j) t
section
variable {Ac:Int} {Ab:List GI} {k p:Nat} {R:Nat->Int} {m:Du} {Q:Nat->LT->Prop}
theorem Rn.Bd {s:LT} (h:Q k s):Rn Ac Ab k s Q:=⟨0,s,.nil _,h⟩
theorem Rn.step {x y:XS} {i:GI} {t:Option Nat} (h:Ab[p]?=some i) (he:XF Ac i x=some (y,t)) (r:Rn Ac Ab (k+1) ⟨t.getD (p+1),y⟩ Q):Rn Ac Ab k ⟨p,x⟩ Q:=by
 obtain⟨j,u,hr,hq⟩:=r;exact⟨j+1,u,.cons (by unfold r9;rw[h];simp only[he,Qc0]) hr,by rwa[show k+(j+1)=k+1+j by omega]⟩
theorem Rn.Sq (h:Ab[p]?=some (.Sq d a)) (hv:EJ R a=v) (r:Rn Ac Ab (k+1) ⟨p+1,⟨C5 R d.toNat v,m⟩⟩ Q):Rn Ac Ab k ⟨p,⟨R,m⟩⟩ Q:=
 Rn.step (t:=none) h (by subst hv;rfl) r
theorem Rn.op {o:ByteArray} {b:Ag} {u w:Int} (h:Ab[p]?=some (.op o d a b)) (hu:EJ R a=u) (hw:EJ R b=w) (hv:Co o u w=some v) (r:Rn Ac Ab (k+1) ⟨p+1,⟨C5 R d.toNat v,m⟩⟩ Q):Rn Ac Ab k ⟨p,⟨R,m⟩⟩ Q:=
 Rn.step (t:=none) (y:=⟨C5 R d.toNat v,m⟩) h (by show(Co o (EJ R a) (EJ R b)).map _=_;rw[hu,hw,hv];rfl) r
theorem Rn.Gb (h:Ab[p]?=some (.Gb t)) (r:Rn Ac Ab (k+1) ⟨t.toNat,⟨R,m⟩⟩ Q):Rn Ac Ab k ⟨p,⟨R,m⟩⟩ Q:=Rn.step (t:=some t.toNat) h rfl r
theorem Rn.jz (h:Ab[p]?=some (.jz a t)) (hv:EJ R a=0) (r:Rn Ac Ab (k+1) ⟨t.toNat,⟨R,m⟩⟩ Q):Rn Ac Ab k ⟨p,⟨R,m⟩⟩ Q:=
 Rn.step (t:=some t.toNat) h (show some (_,if EJ R a=0 then _ else _)=_ by rw[In hv]) r
theorem Rn.tL (h:Ab[p]?=some (.jz a t)) (hv:EJ R a≠0) (r:Rn Ac Ab (k+1) ⟨p+1,⟨R,m⟩⟩ Q):Rn Ac Ab k ⟨p,⟨R,m⟩⟩ Q:=
 Rn.step (t:=none) h (show some (_,if EJ R a=0 then _ else _)=_ by rw[I hv]) r
variable (hb:Bs Ac)
include hb
theorem Rn.ld (o:Nat) (f:JM) (h:Ab[p]?=some (.load d (.n (Ac+e)) 0)) (hf:JM.Pl o=f) (hv:m.bE f=v) (r:Rn Ac Ab (k+1) ⟨p+1,⟨C5 R d.toNat v,m⟩⟩ Q) (he:e=o:=by omega) (ho:o < 64:=by omega):Rn Ac Ab k ⟨p,⟨R,m⟩⟩ Q:=
 Rn.step (t:=none) h (by subst hv;exact Aeh hb o f he ho hf d ⟨R,m⟩) r
theorem Rn.st {b:Ag} (o:Nat) (f:JM) (h:Ab[p]?=some (.store (.n (Ac+e)) 0 b)) (hf:JM.Pl o=f) (hv:EJ R b=v) (r:Rn Ac Ab (k+1) ⟨p+1,⟨R,m.gF v f⟩⟩ Q) (he:e=o:=by omega) (ho:o < 64:=by omega):Rn Ac Ab k ⟨p,⟨R,m⟩⟩ Q:=
 Rn.step (t:=none) h (by subst hv;exact Aeg hb o f he ho hf b ⟨R,m⟩) r
theorem Rn.ldR (o:Nat) (f:JM) (h:Ab[p]?=some (.load d (.r i) (Ac+e))) (hf:JM.Pl o=f) (hv:m.bE f=v) (he:R i.toNat+e=o) (ho:o < 64) (r:Rn Ac Ab (k+1) ⟨p+1,⟨C5 R d.toNat v,m⟩⟩ Q):Rn Ac Ab k ⟨p,⟨R,m⟩⟩ Q:=
 Rn.step (t:=none) h (by subst hv;exact Acn hb o f ⟨R,m⟩ he ho hf d) r
theorem Rn.stR {b:Ag} (o:Nat) (f:JM) (h:Ab[p]?=some (.store (.r i) (Ac+e) b)) (hf:JM.Pl o=f) (hv:EJ R b=v) (he:R i.toNat+e=o) (ho:o < 64) (r:Rn Ac Ab (k+1) ⟨p+1,⟨R,m.gF v f⟩⟩ Q):Rn Ac Ab k ⟨p,⟨R,m⟩⟩ Q:=
 Rn.step (t:=none) h (by subst hv;exact Acm hb o f ⟨R,m⟩ he ho hf b) r
def Rg (l:List Nat) (R R':Nat->Int):Prop:=∀i,i∉l->R' i=R i
omit hb in
theorem LO (a:At) (r:Int):(DX Ac a r).length<=1:=by unfold DX;split <;>simp
theorem Rn.val {a:At} {r:Int} (h:D1 Ab (rz ab (DX Ac a r)) p) (ha:FR a) (q:∀R',Rg [r.toNat] R R'->EJ R' (GS.BF a r)=FZ m.AR a->Rn Ac Ab (k+(DX Ac a r).length) ⟨p+(DX Ac a r).length,⟨R',m⟩⟩ Q):
  Rn Ac Ab k ⟨p,⟨R,m⟩⟩ Q:=by
 unfold DX at h q;unfold FR at ha;unfold GS.BF FZ at q;split at h <;>rename_i hl
 ·rw[In hl] at ha;simp only[In hl] at q;exact Rn.ld hb a.v.toNat (.AR a.v.toNat) (A9.1 h).1 (Ns Y) rfl (q _ (fun i hi=>BN _ _ (by simpa using hi)) (BZ _ _ _))
 ·simp only[I hl] at q;exact q R (fun _ _=>rfl) rfl
end
theorem qQ (a:At) (r:Int):(GS.BF a r).B0=true->(GS.BF a r).v=r:=by unfold GS.BF;split <;>simp[Ag.r,Ag.n]
theorem RY (R:Nat->Int) {d:Int} (v:Int) {a:At} {r:Int} (h:r.toNat≠d.toNat):EJ (C5 R d.toNat v) (GS.BF a r)=EJ R (GS.BF a r):=by
 unfold EJ;split
 ·rename_i hg;rw[qQ a r hg];exact BN _ _ h
 ·rfl
theorem Aco {l:List Nat} (h:Rg l R R') {a:At} {r:Int} (hr:r.toNat∉l):EJ R' (GS.BF a r)=EJ R (GS.BF a r):=by
 unfold EJ;split
 ·rename_i hg;rw[qQ a r hg];exact h _ hr
 ·rfl
theorem Rg.C5 {l:List Nat} (h:Rg l R R') {d:Nat} (v:Int) (hd:d∈l):Rg l R (C5 R' d v):=fun i hi=>by
 rw[BN _ _ (fun e=>hi (by rw[e];exact hd))];exact h i hi
theorem Rg.refl (l:List Nat) (R:Nat->Int):Rg l R R:=fun _ _=>rfl
theorem Rn.cell (hb:Bs Ac) {Ab:List GI} {ab:Nat} {f s:Int} {a:At} {k p:Nat} {R:Nat->Int} {m:Du} {Q:Nat->LT->Prop}
  (h:D1 Ab (rz ab (GV Ac p f s a)) p) (ha:FR a) (hf:0<=f/\1<=s/\f+s<=6)
  (q1:FZ m.AR a < 0\/s<=FZ m.AR a->∀j p' R',j<=7->Ab[p']?=some (.EF 2)->Q (k+j) ⟨p',⟨R',m⟩⟩)
  (q2:¬(FZ m.AR a < 0\/s<=FZ m.AR a)->∀j R',j<=7->R' 0=f+FZ m.AR a->Rn Ac Ab (k+j) ⟨p+(GV Ac p f s a).length,⟨R',m⟩⟩ Q):
  Rn Ac Ab k ⟨p,⟨R,m⟩⟩ Q:=by
 unfold GV at h q2;unfold rz at h;rw[Qaz,Bo,z9] at h;obtain⟨h1,h2⟩:=h;rw[V] at q2;refine Rn.val hb h1 ha fun R1 _ e1=> ?_
 have hl:=LO (Ac:=Ac) a 0;generalize (DX Ac a 0).length=n at*;unfold Sd at h2 q2;simp only[d8,Qch,LI.AW,A9] at h2;obtain⟨c0,c1,c2,c3,c4,c5,c6,c7,_⟩:=h2;generalize FZ m.AR a=v at*;refine Rn.op c0 e1 (ED _ _) (Ok _ _) ?_;by_cases hn:v < 0
 ·rw[In hn];refine Rn.tL c1 (by rw[D8];decide) (Rn.Bd ?_);rw[show k+n+1+1=k+(n+2) by omega];exact q1 (.inl hn) _ _ _ Y c2
 rw[I hn];refine Rn.jz c1 (D8 _ _ _) ?_;refine Rn.op c3 ((RY _ _ AC).trans e1) (ED _ _) (Ok _ _) ?_;refine Rn.op c4 (D8 _ _ _) (ED _ _) (L3 _ _) ?_;by_cases hs:v < s
 ·rw[In hs];refine Rn.jz c5 (D8 _ _ _) ?_;refine Rn.op (u:=v) c7 (by rw[RY _ _ AC,RY _ _ AC,RY _ _ AC];exact e1) (ED _ _) ((L4 _ _).trans (by rw[Fu Y Y])) ?_;rw[show k+n+1+1+1+1+1+1=k+(n+6) by omega];exact q2 Y (n+6) _ Y ((BZ _ 0 (v+f)).trans (Int.add_comm _ _))
 ·rw[I hs];refine Rn.tL c5 (by rw[D8];decide) (Rn.Bd ?_);rw[show k+n+1+1+1+1+1=k+(n+5) by omega];exact q1 (.inr Y) _ _ _ Y c6
section
variable {Ac:Int} {Ab:List GI} {k p:Nat} {R:Nat->Int} {m:Du} {Q:Nat->LT->Prop} (hb:Bs Ac)
include hb
theorem Rn.open (h:D1 Ab (rz ab (Jx Ac 2)) p) (hr:R 2=lv) (hl:0<=lv/\lv < 8000000000000000000) (hs:m.start=rv)
  (q1:(¬∃w,lv=2*w/\0<=w/\w<=rv)->∀j R',j<=8->Rn Ac Ab (k+j) ⟨ab,⟨R',m⟩⟩ Q) (q2:∀v,lv=2*v->0<=v->v<=rv->∀R',Rg [3,4] R R'->Rn Ac Ab (k+8) ⟨p+8,⟨R',m⟩⟩ Q):
  Rn Ac Ab k ⟨p,⟨R,m⟩⟩ Q:=by
 unfold Jx at h;unfold rz at h;simp only[d8,Qch,LI.AW,A9] at h;obtain⟨c0,c1,c2,c3,c4,c5,c6,c7,_⟩:=h;obtain⟨v,hv,uf⟩:∃v,0<=v/\(lv=2*v\/lv=2*v+1):=⟨lv / 2,Y,Y⟩;rcases uf with rfl | rfl
 ·refine Rn.op c0 (u:=2*v) hr (ED _ _) ((SQ _ _).trans (by rw[fE v hv Y])) ?_;refine Rn.op c1 (D8 _ _ _) (ED _ _) (L3 _ _) ?_;rw[In rfl];refine Rn.tL c2 (by rw[D8];decide) ?_;refine Rn.op c3 (u:=2*v) hr (ED _ _) ((nO _).trans (by rw[ry v hv Y])) ?_;refine Rn.ld hb 38 .start c4 rfl hs ?_;refine Rn.op c5 (u:=rv) (w:=v) (D8 _ _ _) rfl (Ok _ _) ?_;refine Rn.op c6 (D8 _ _ _) (ED _ _) (L3 _ _) ?_;by_cases AX:rv < v
  ·rw[In AX];exact Rn.jz c7 (D8 _ _ _) (q1 (by rintro⟨w,h1,_,h2⟩;omega) 8 _ (LE _))
  ·rw[I AX];refine Rn.tL c7 (by rw[D8];decide) (q2 v rfl hv Y _ ?_);exact(((((((Rg.refl _ _).C5 _ (d:=3) EQ).C5 _ (d:=3) EQ).C5 _ (d:=3) EQ).C5 _ (d:=4) EQ).C5 _ (d:=3) EQ).C5 _ (d:=3) EQ)
 ·refine Rn.op c0 (u:=2*v+1) hr (ED _ _) ((SQ _ _).trans (by rw[Aag v hv Y])) ?_;refine Rn.op c1 (D8 _ _ _) (ED _ _) (L3 _ _) ?_;exact Rn.jz c2 (D8 _ _ _) (q1 (by rintro⟨w,h1,_⟩;omega) 3 _ Y)
theorem Rn.JF (h:D1 Ab (rz ab (QJ Ac p)) p) (hc:c < 6) (hr:R 0=(c:Int)) (q1:m.wr c≠0->∀R',R' 1=m.vl c->Rn Ac Ab (k+4) ⟨p+18,⟨R',m⟩⟩ Q) (q2:m.wr c=0->∀R',R' 0=(c:Int)->Q (k+2) ⟨p+4,⟨R',m⟩⟩):
  Rn Ac Ab k ⟨p,⟨R,m⟩⟩ Q:=by
 unfold QJ at h;unfold rz at h;simp only[Qaz,PP,d8,WP,LI.AW,A9] at h;obtain⟨c0,c1,c2,c3,_⟩:=h;refine Rn.ldR hb (8+c) (.wr c) c0 (Nr hc) rfl (by show R 0+8=_;omega) Y ?_;by_cases hw:m.wr c=0
 ·refine Rn.jz c1 (by rw[D8];exact hw) (Rn.Bd (q2 hw _ ?_));exact(BN R _ (i:=1) (j:=0) AC).trans hr
 ·refine Rn.tL c1 (by rw[D8];exact hw) ?_;refine Rn.ldR hb (14+c) (.vl c) c2 (jn hc) rfl ?_ Y ?_
  ·show C5 R 1 _ 0+14=_;rw[BN _ _ AC];omega
  exact Rn.Gb c3 (q1 hw _ (BZ _ _ _))
theorem Rn.JE (h:D1 Ab (rz ab (QJ Ac p0)) p0) (hr:R 0=(c:Int)) (h2:R 2=lv) (hl:0<=lv/\lv < 8000000000000000000) (hs:m.start=rv)
  (q1:(¬∃w,lv=2*w/\0<=w/\w<=rv)->∀j R',j<=8->Rn Ac Ab (k+j) ⟨ab,⟨R',m⟩⟩ Q) (q2:∀v,lv=2*v->0<=v->v<=rv->∀R',R' 0=(c:Int)->R' 2=lv->Rn Ac Ab (k+8) ⟨p0+13,⟨R',m⟩⟩ Q):
  Rn Ac Ab k ⟨p0+5,⟨R,m⟩⟩ Q:=by
 unfold QJ rz at h;rw[Qaz,Qaz,PP,Bo,Bo] at h;exact Rn.open hb h.2.1 h2 hl hs q1 fun v e1 e2 e3 R' hg=>q2 v e1 e2 e3 R' ((hg 0 AC).trans hr) ((hg 2 AC).trans h2)
theorem Rn.JS {lw:Int} (h:D1 Ab (rz ab (QJ Ac p0)) p0) (hc:c < 6) (hr:R 0=(c:Int)) (h1:R 1=x) (h2:R 2=lv) (h3:R 3=lw)
  (q1:lw≠lv->∀R',Rn Ac Ab (k+2) ⟨ab,⟨R',m⟩⟩ Q) (q2:lw=lv->∀R',R' 1=x->Rn Ac Ab (k+3) ⟨p0+18,⟨R',{m with rd:=C5 m.rd c 1}⟩⟩ Q):
  Rn Ac Ab k ⟨p0+15,⟨R,m⟩⟩ Q:=by
 unfold QJ rz at h;rw[Qaz,Bo] at h;have h':=h.2;simp only[d8,LI.AW,A9] at h';obtain⟨_,_,c0,c1,c2,_⟩:=h';refine Rn.op c0 (u:=lw) (w:=lv) h3 h2 (L3 _ _) ?_;by_cases he:lw=lv
 ·rw[In he];refine Rn.tL c1 (by rw[D8];decide) ?_;refine Rn.stR hb (20+c) (.rd c) c2 (bN hc) (ED _ _) ?_ Y (q2 he _ ((BN _ _ AC).trans h1));show C5 R 3 _ 0+20=_;rw[BN _ _ AC];omega
 ·rw[I he];exact Rn.jz c1 (D8 _ _ _) (q1 he _)
end
theorem Ej (hL:∀c p,(f c p).length=L):∀n p,(El f n p).length=L*n
 | 0,p=>rfl
 | n+1,p=>by rw[El,V,Ej hL n p,hL,Nat.mul_succ]
theorem Jn (hL:∀c p,(f c p).length=L) {Ab:List GI} {ab:Nat} {n p:Nat} (h:D1 Ab (rz ab (El f n p)) p) {c:Nat} (hc:c < n):D1 Ab (rz ab (f c (p+L*c))) (p+L*c):=by
 induction n with
 | zero=>omega
 | succ n ih=>
  rw[El,CA,Bo] at h;by_cases he:c=n
  ·subst he;have:=h.2;rw[CX,Ej hL] at this;exact this
  ·exact ih h.1 Y
theorem Rn.LW (hL:∀c p,(f c p).length=L) {ab n p:Nat} (h:D1 Ab (rz ab (El f n p)) p) (Z97:Nat->(Nat->Int)->Du->Prop)
  (hs:∀c,c < n->∀pc k R m,D1 Ab (rz ab (f c pc)) pc->Z97 c R m->∀Q,(∀R' m',Z97 (c+1) R' m'->Rn Ac Ab (k+L) ⟨pc+L,⟨R',m'⟩⟩ Q)->Rn Ac Ab k ⟨pc,⟨R,m⟩⟩ Q)
  {k:Nat} {R:Nat->Int} {m:Du} {Q:Nat->LT->Prop} (h0:Z97 0 R m) (q:∀R' m',Z97 n R' m'->Rn Ac Ab (k+L*n) ⟨p+L*n,⟨R',m'⟩⟩ Q):Rn Ac Ab k ⟨p,⟨R,m⟩⟩ Q:=by
 have key:∀i,i<=n->∀R m,Z97 (n - i) R m->Rn Ac Ab (k+L*(n - i)) ⟨p+L*(n - i),⟨R,m⟩⟩ Q:=by
  intro i;induction i with
  | zero=>intro _ R m hI;exact q R m hI
  | succ i ih=>
   intro hi R m hI;refine hs (n - (i+1)) Y _ _ R m (Jn hL h Y) hI Q fun R' m' hI'=> ?_
   rw[show n - (i+1)+1=n - i by omega] at hI';have:=ih Y R' m' hI';have e:L*(n - i)=L*(n - (i+1))+L:=by rw[show n - i=n - (i+1)+1 by omega,Nat.mul_succ]
   rw[e] at this;simpa only[d7] using this
 have:=key n (LE _) R m (by rw[Qbt];exact h0);rw[Qbt] at this;simpa using this
def eZ (f g:Nat->Int) (c:Nat):Nat->Int:=fun i=>if i < c then g i else f i
theorem vN (f g:Nat->Int):eZ f g 0=f:=by funext i;simp[eZ]
theorem W6 (f g:Nat->Int) (c:Nat):C5 (eZ f g c) c (g c)=eZ f g (c+1):=by
 funext i;unfold C5 eZ;by_cases h:i=c
 ·subst h;simp
 ·rw[I h];by_cases h2:i < c
  ·rw[In h2,In Y]
  ·rw[I h2,I Y]
theorem Tp (f g:Nat->Int) {c i:Nat} (h:i < c):eZ f g c i=g i:=by simp[eZ,h]
section
variable {Ac:Int} {Ab:List GI} {k p:Nat} {R:Nat->Int} {m:Du} {Q:Nat->LT->Prop} (hb:Bs Ac)
include hb
theorem Rn.gG (h:D1 Ab (rz ab (El (NB Ac) 4 p)) p) (q:∀R',Rn Ac Ab (k+8) ⟨p+8,⟨R',{m with Gr:=eZ m.Gr m.AR 4}⟩⟩ Q):Rn Ac Ab k ⟨p,⟨R,m⟩⟩ Q:=by
 refine Rn.LW (L:=2) (fun _ _=>rfl) h (fun c _ m'=>m'={m with Gr:=eZ m.Gr m.AR c}) ?_ (by rw[vN]) (fun R' m' hm=>by rw[hm];exact q R');rintro c hc pc k R m' hl rfl Q q;unfold NB rz at hl;simp only[d8,LI.AW,A9] at hl;obtain⟨c0,c1,_⟩:=hl;refine Rn.ld hb c (.AR c) c0 (Ns hc) rfl ?_;refine Rn.st hb (4+c) (.Gr c) c1 (eX hc) (D8 _ _ _) (q _ _ ?_);show _=_;rw[<-W6];rfl
theorem Rn.AN (h:D1 Ab (rz ab (El (On Ac) 4 p)) p) (q:∀R',Rn Ac Ab (k+8) ⟨p+8,⟨R',{m with AR:=eZ m.AR m.Gr 4}⟩⟩ Q):Rn Ac Ab k ⟨p,⟨R,m⟩⟩ Q:=by
 refine Rn.LW (L:=2) (fun _ _=>rfl) h (fun c _ m'=>m'={m with AR:=eZ m.AR m.Gr c}) ?_ (by rw[vN]) (fun R' m' hm=>by rw[hm];exact q R');rintro c hc pc k R m' hl rfl Q q;unfold On rz at hl;simp only[d8,LI.AW,A9] at hl;obtain⟨c0,c1,_⟩:=hl;refine Rn.ld hb (4+c) (.Gr c) c0 (eX hc) rfl ?_;refine Rn.st hb c (.AR c) c1 (Ns hc) (D8 _ _ _) (q _ _ ?_);show _=_;rw[<-W6];rfl
theorem Rn.Mh (hn:n<=6) (h:D1 Ab (rz ab (El (JT Ac) n p)) p) (q:∀R',Rn Ac Ab (k+3*n) ⟨p+3*n,⟨R',{m with wr:=eZ m.wr (fun _=>0) n,rd:=eZ m.rd (fun _=>0) n,lk:=eZ m.lk (fun _=>0) n}⟩⟩ Q):Rn Ac Ab k ⟨p,⟨R,m⟩⟩ Q:=by
 refine Rn.LW (L:=3) (fun _ _=>rfl) h (fun c _ m'=>m'={m with wr:=eZ m.wr (fun _=>0) c,rd:=eZ m.rd (fun _=>0) c,lk:=eZ m.lk (fun _=>0) c}) ?_ (by simp only[vN]) (fun R' m' hm=>by rw[hm];exact q R');rintro c hc pc k R m' hl rfl Q q;unfold JT rz at hl;simp only[d8,LI.AW,A9] at hl;obtain⟨c0,c1,c2,_⟩:=hl;refine Rn.st hb (8+c) (.wr c) c0 (Nr Y) (ED _ _) ?_;refine Rn.st hb (20+c) (.rd c) c1 (bN Y) (ED _ _) ?_;refine Rn.st hb (26+c) (.lk c) c2 (To Y) (ED _ _) (q _ _ ?_);simp only[<-W6];rfl
end
structure Bc where
 K0:Nat->Int
 S0:Int
structure BI (n:Nat) (B:Bc) (m:Du) (BW rd Bp:Nat->Option Int) (o:List Int):Prop where
 Gr:∀i,i < 4->m.Gr i=B.K0 i
 start:m.start=B.S0
 qM:∀c,c < n->BW c=none->m.wr c=0
 j6:∀c v,c < n->BW c=some v->m.wr c=1/\m.vl c=v
 wZ:∀c,c < n->m.rd c=if (rd c).isSome then 1 else 0
 xd:∀c,c < n->m.lk c=if (Bp c).isSome then 1 else 0
 bC:∀c v,c < n->Bp c=some v->m.hd c=v
 qq:m.count=o.length
 B7:∀i x,o[i]?=some x->m.B7 i=x
structure Mt (n:Nat) (cells:Int) (B:Bc) (rd Bp:Nat->Option Int) (q:KS) (m:Du):Prop where
 L:∀i,i < 4->m.AR i=q.L i
 R:∀d,d < q.k.Aj->m.YK d=q.R d
 wf:pO cells q.R (.rest q.s q.k)
 bi:q.k.IS=true->BI n B m q.BW rd Bp q.o/\q.o.length+cm (.rest q.s q.k) q.R<=8
def Eo (q:KS):Option Int:=match q.s with
 | .set _ op a b _=>if op.size≠0/\Co op (FZ q.L a) (FZ q.L b)=none then some 1 else none
 | .get _ _ s a _=>if FZ q.L a < 0\/s<=FZ q.L a then some 2 else none
 | .put _ s i _ _=>if FZ q.L i < 0\/s<=FZ q.L i then some 2 else none
 | _=>none
def AcQ (i:GI) (R:Nat->Int) (t:Int):Prop:=(i= .EF 2/\t=2)\/(∃o d a b,i= .op o d a b/\Co o (EJ R a) (EJ R b)=none/\t=1)
section
variable (Ac:Int) (n:Nat) (Ab:List GI)
structure wY (ab:Nat) (b s:Bt) (k:KK) (lt:LT):Prop where
 ld:Ab[lt.pc]?=some (.load 1 (.n 16) 0)
 st:Ab[lt.pc+1]?=some (.store (.n (Ac+38)) 0 (.r 1))
 NX:NP Ac n Ab ab (.rest b (.Au b s k)) (lt.pc+2)
 cl:∀c,c < n->lt.x.m.wr c=0/\lt.x.m.rd c=0/\lt.x.m.lk c=0
 qq:lt.x.m.count=0
 kp:∀i,i < 4->lt.x.m.Gr i=lt.x.m.AR i
structure Aa1 (ab c p0:Nat) (v:Int) (r:Bt) (k:KK):Prop where
 get:D1 Ab (rz ab (QJ Ac p0)) p0
 st:Ab[p0+18]?=some (.store (.n (Ac+v)) 0 (.r 1))
 NX:NP Ac n Ab ab (.rest r k) (p0+19)
 lt:c < n
inductive b8 (cells:Int) (B:Bc) (rd Bp:Nat->Option Int) (ab:Nat):KS->LT->Prop
 | halt {q:KS} {lt:LT} (hs:q.s= .nil) (hk:q.k= .done) (hc:Ab[lt.pc]?=some .halt):b8 cells B rd Bp ab q lt
 | out {q:KS} {lt:LT} {a:At} {r:Bt} {g:Ag} (hk:q.k.IS=false) (hs:q.s= .out a r) (hc:Ab[lt.pc]?=some (.out g)) (hg:EJ lt.x.R g=FZ q.L a) (hp:NP Ac n Ab ab (.rest r q.k) (lt.pc+1)) (hm:Mt n cells B rd Bp q lt.x.m):b8 cells B rd Bp ab q lt
 | EF {q:KS} {lt:LT} {t:Int} {i:GI} (ht:Eo q=some t) (hc:Ab[lt.pc]?=some i) (hi:AcQ i lt.x.R t):b8 cells B rd Bp ab q lt
 | Pm {q:KS} {lt:LT} {b r:Bt} {ab':Nat} (hs:q.s= .atomic b r) (hk:q.k.IS=false) (hc:wY Ac n Ab ab' b r q.k lt) (hL:∀i,i < 4->lt.x.m.AR i=q.L i) (hR:∀d,d < q.k.Aj->lt.x.m.YK d=q.R d) (hw:pO cells q.R (.rest q.s q.k)):b8 cells B rd Bp ab q lt
 | get {q:KS} {lt:LT} {v f s:Int} {a:At} {r:Bt} {c p0:Nat} (hs:q.s= .get v f s a r) (hk:q.k.IS=true) (ha:0<=FZ q.L a/\FZ q.L a < s) (hc:(c:Int)=f+FZ q.L a) (hn:q.BW c=none) (hg:Aa1 Ac n Ab ab c p0 v r q.k) (Ve:lt.pc=p0+4) (h0:lt.x.R 0=c) (hm:Mt n cells B rd Bp q lt.x.m):b8 cells B rd Bp ab q lt
 | FB {q:KS} {lt:LT} {b s:Bt} {k:KK} (hs:q.s= .nil) (hk:q.k= .Au b s k) (hp:NP Ac n Ab ab (.Au b s k) lt.pc) (hm:Mt n cells B rd Bp q lt.x.m):b8 cells B rd Bp ab q lt
end
theorem QO {L L':Nat->Int} {a:At} (ha:FR a) (h:∀i,i < 4->L i=L' i):FZ L a=FZ L' a:=by
 unfold FR at ha;unfold FZ;split <;>rename_i hl
 ·rw[In hl] at ha;exact h _ Y
 ·rfl
theorem BI.AR {B:Bc} (h:BI n B m BW rd Bp o) (l:Nat->Int) (r:Nat->Int):BI n B {m with AR:=l,YK:=r} BW rd Bp o:=
 ⟨h.Gr,h.start,h.qM,h.j6,h.wZ,h.xd,h.bC,h.qq,h.B7⟩
theorem BI.put {B:Bc} (h:BI n B m BW rd Bp o) (c:Nat) (v:Int):BI n B {m with vl:=C5 m.vl c v,wr:=C5 m.wr c 1} (F2 BW c v) rd Bp o where
 Gr:=h.Gr
 start:=h.start
 qM:=fun d hd hm=>by
  unfold F2 at hm;split at hm
  ·cases hm
  ·rename_i Bi;exact(BN _ _ Bi).trans (h.qM d hd hm)
 j6:=fun d w hd hm=>by
  unfold F2 at hm;split at hm
  ·rename_i he;subst he;cases hm;exact⟨BZ _ _ _,BZ _ _ _⟩
  ·rename_i Bi;have:=h.j6 d w hd hm;exact⟨(BN _ _ Bi).trans this.1,(BN _ _ Bi).trans this.2⟩
 wZ:=h.wZ
 xd:=h.xd
 bC:=h.bC
 qq:=h.qq
 B7:=h.B7
theorem BI.out {B:Bc} (h:BI n B m BW rd Bp o) (v:Int):BI n B {m with B7:=C5 m.B7 o.length v,count:=o.length+1} BW rd Bp (o++[v]) where
 Gr:=h.Gr
 start:=h.start
 qM:=h.qM
 j6:=h.j6
 wZ:=h.wZ
 xd:=h.xd
 bC:=h.bC
 qq:=EQ
 B7:=fun i x hx=>by
  by_cases hi:i=o.length
  ·subst hi;rw[Qag (LE _),Qbt] at hx;cases hx;exact BZ _ _ _
  ·have AX:i < o.length:=by
    have:=(d9.1 hx).1;rw[V] at this;simp only[IR,m7] at this;omega
   rw[m9 AX] at hx;exact(BN _ _ hi).trans (h.B7 i x hx)
theorem BI.Mh (h:∀c,c < n->m.wr c=0/\m.rd c=0/\m.lk c=0) (hc:m.count=0):BI n ⟨m.Gr,m.start⟩ m (fun _=>none) (fun _=>none) (fun _=>none) [] where
 Gr:=fun _ _=>rfl
 start:=rfl
 qM:=fun c hc _=>(h c hc).1
 j6:=fun _ _ _ h=>by cases h
 wZ:=fun c hc=>(h c hc).2.1
 xd:=fun c hc=>(h c hc).2.2
 bC:=fun _ _ _ h=>by cases h
 qq:=hc
 B7:=fun i x hx=>by simp at hx
section
variable {Ac:Int} {n:Nat} {Ab:List GI} {cells:Int} {B:Bc} {rd Bp:Nat->Option Int} {ab:Nat}
theorem Rn.Dw (hb:Bs Ac) (hn:n<=6) {b s:Bt} {k:KK} {Dw j:Nat} {R:Nat->Int} {m:Du} {Q:Nat->LT->Prop} (h:D1 Ab (rz ab (JO Ac n Dw)) Dw) (hp:NP Ac n Ab ab (.rest b (.Au b s k)) (Dw+(JO Ac n Dw).length)) (hk:∀i,i < 4->m.Gr i=m.AR i)
  (q:∀lt',wY Ac n Ab ab b s k lt'->lt'.x.m.AR=m.AR->lt'.x.m.YK=m.YK->Q (j+3*n+1) lt'):Rn Ac Ab j ⟨Dw,⟨R,m⟩⟩ Q:=by
 have hl:(JO Ac n Dw).length=3*n+3:=by unfold JO;rw[V,Ej (f:=JT Ac) (L:=3) (fun _ _=>rfl)];rfl
 rw[hl] at hp;unfold JO at h;rw[CA,Bo,CX,Ej (f:=JT Ac) (L:=3) (fun _ _=>rfl)] at h;obtain⟨h1,h2⟩:=h;unfold rz at h2;simp only[d8,LI.AW,A9] at h2;obtain⟨c0,c1,c2,_⟩:=h2;refine Rn.Mh hb hn h1 fun R'=> ?_
 refine Rn.st hb 39 .count c0 rfl (ED _ _) (Rn.Bd (q _ ⟨c1,c2,?_,?_,rfl,hk⟩ rfl rfl))
 ·rw[show Dw+3*n+1+2=Dw+(3*n+3) by omega];exact hp
 ·exact fun c hc=>⟨Tp m.wr (fun _=>0) hc,Tp m.rd (fun _=>0) hc,Tp m.lk (fun _=>0) hc⟩
end
section
section
variable (Ac:Int) (n:Nat) (Ab:List GI) (cells:Int) (B:Bc) (rd Bp:Nat->Option Int) (ab:Nat)
def EH (q:KS):Nat:=Sp (.rest q.s q.k) q.R
def N1 (q:KS) (j:Nat) (lt:LT):Prop:=(∃q',Xy (fun _=>none) q=some q'/\NP Ac n Ab ab (.rest q'.s q'.k) lt.pc/\Mt n cells B rd Bp q' lt.x.m/\j+1+EH q'<=EH q)\/(j<=KZ q.s/\b8 Ac n Ab cells B rd Bp ab q lt)
end
variable {Ac:Int} {n:Nat} {Ab:List GI} {cells:Int} {B:Bc} {rd Bp:Nat->Option Int} {ab:Nat}
theorem Mt.ya {v:Nat} {x:Int} {r:Bt} (h:Mt n cells B rd Bp q m) (hw:WF cells r q.k.dp q.k.IS/\AB r) (ho:ob r<=ob q.s):Mt n cells B rd Bp {q with s:=r,L:=C5 q.L v x} {m with AR:=C5 m.AR v x} where
 L:=fun i hi=>by
  by_cases he:i=v
  ·subst he;show C5 _ _ _ _=C5 _ _ _ _;rw[BZ,BZ]
  ·show C5 _ _ _ _=C5 _ _ _ _;rw[BN _ _ he,BN _ _ he];exact h.L i hi
 R:=h.R
 wf:=⟨hw,h.wf.2⟩
 bi:=fun hb=>⟨(h.bi hb).1.AR (C5 m.AR v x) m.YK,by have:=(h.bi hb).2;simp only[cm] at this⊢;omega⟩
theorem Abt (hb:Bs Ac) {q:KS} {lt:LT} {v:Int} {op:ByteArray} {a b:At} {r:Bt} (hq:q.s= .set v op a b r) (hp:NP Ac n Ab ab (.rest q.s q.k) lt.pc) (hm:Mt n cells B rd Bp q lt.x.m):Rn Ac Ab 0 lt (N1 Ac n Ab cells B rd Bp ab q):=by
 obtain⟨⟨⟨Pz,aX,Ot,XA,Ud⟩,hA⟩,hk⟩:=(by have:=hm.wf;rw[hq] at this;exact this);obtain⟨hl,Ib⟩:=(by rw[hq] at hp;exact hp);rw[Gx,CA,Bo,CX] at hl;rw[Gx,V,<-d7] at Ib;have Ox:NP Ac n Ab ab (.rest r q.k) (lt.pc+(VQ Ac v op a b).length):=⟨hl.2,Ib⟩;have hs:=hl.1;obtain⟨p,R,m⟩:=lt;have ea:FZ m.AR a=FZ q.L a:=QO Ot hm.L;have eb:FZ m.AR b=FZ q.L b:=QO XA hm.L;have DO:∀x,EH {q with s:=r,L:=C5 q.L v.toNat x}+5=EH q:=fun x=>by
  exact nal
 have hv:=LO (Ac:=Ac) a 1;have uf:=LO (Ac:=Ac) b 2;by_cases ho:op.size=0
 ·unfold VQ at hs Ox;rw[In ho] at hs Ox;rw[CA,Bo,CX] at hs;refine Rn.val hb hs.1 Ot fun R1 _ e1=> ?_
  refine Rn.st hb v.toNat (.AR v.toNat) (A9.1 hs.2).1 (Ns Y) e1 (Rn.Bd (.inl ⟨{q with s:=r,L:=C5 q.L v.toNat (FZ q.L a)},?_,?_,?_,?_⟩))
  ·unfold Xy;rw[hq];show Option.map _ (if op.size=0 then _ else _)=_;rw[In ho];rfl
  ·rw[V,<-d7] at Ox;exact Ox
  ·rw[ea];exact hm.ya ⟨Ud,hA⟩ (by rw[hq];exact LE _)
  ·have:=DO (FZ q.L a);omega
 ·unfold VQ at hs Ox;rw[I ho] at hs Ox;rw[CA,CA,Bo,Bo,V,CX,CX] at hs;refine Rn.val hb hs.1.1 Ot fun R1 _ e1=> ?_
  refine Rn.val hb hs.1.2 XA fun R2 g2 e2=> ?_
  have e1':EJ R2 (GS.BF a 1)=FZ m.AR a:=(Aco g2 AC).trans e1;obtain⟨c0,c1,_⟩:Ab[p+(DX Ac a 1).length+(DX Ac b 2).length]?=some (.op op 1 (GS.BF a 1) (GS.BF b 2))/\Ab[p+(DX Ac a 1).length+(DX Ac b 2).length+1]?=some (.store (.n (Ac+v)) 0 (.r 1))/\True:=by
   have:=hs.2;unfold rz at this;simp only[d8,LI.AW,A9,<-d7] at this;exact⟨this.1,this.2.1,trivial⟩
  cases hx:Co op (FZ q.L a) (FZ q.L b) with
  | none=>exact Rn.Bd (.inr ⟨by rw[hq];simp only[KZ];omega,.EF (t:=1) (by unfold Eo;rw[hq];simp only[hx];rw[In ⟨ho,trivial⟩]) c0 (.inr ⟨_,_,_,_,rfl,by rw[e1',e2,ea,eb];exact hx,rfl⟩)⟩)
  | some x=>
   refine Rn.op c0 e1' e2 (by rw[ea,eb];exact hx) ?_;refine Rn.st hb v.toNat (.AR v.toNat) c1 (Ns Y) (D8 _ _ _) (Rn.Bd (.inl ⟨{q with s:=r,L:=C5 q.L v.toNat x},?_,?_,hm.ya ⟨Ud,hA⟩ (by rw[hq];exact LE _),?_⟩))
   ·unfold Xy;rw[hq];show Option.map _ (if op.size=0 then _ else _)=_;rw[I ho,hx];rfl
   ·simp only[V,<-d7] at Ox;exact Ox
   ·have:=DO x;omega
theorem fo {f s:Int} {cells:Int} (hf:0<=f/\1<=s/\f+s<=cells) (hi:¬(i < 0\/s<=i)) (hn:n=cells.toNat):∃c:Nat,(c:Int)=f+i/\c=(f+i).toNat/\c < n:=⟨(f+i).toNat,Y,rfl,Y⟩
theorem Aby (hb:Bs Ac) (hn:n=cells.toNat) (h6:cells<=6) {q:KS} {lt:LT} {v f s:Int} {a:At} {r:Bt} (hq:q.s= .get v f s a r) (hp:NP Ac n Ab ab (.rest q.s q.k) lt.pc) (hm:Mt n cells B rd Bp q lt.x.m):Rn Ac Ab 0 lt (N1 Ac n Ab cells B rd Bp ab q):=by
 obtain⟨⟨⟨Pz,aX,Ot,XA,Ud⟩,hA⟩,hk⟩:=(by have:=hm.wf;rw[hq] at this;exact this);obtain⟨hl,Ib⟩:=(by rw[hq] at hp;exact hp);rw[Gx] at hl Ib;simp only[CA,Bo,CX,V] at hl Ib;obtain⟨⟨⟨h1,h2⟩,h3⟩,h4⟩:=hl;obtain⟨p,R,m⟩:=lt;have ea:FZ m.AR a=FZ q.L a:=QO Ot hm.L;refine Rn.cell hb h1 Ot Y (fun ho j p' R' hj hc=> .inr ⟨by rw[hq];simp only[KZ];omega,.EF (t:=2) ?_ hc (.inl ⟨rfl,rfl⟩)⟩) fun ho j R' hj hr=> ?_
 ·unfold Eo;rw[hq];show(if _ then _ else _)=_;rw[<-ea,In ho]
 obtain⟨c,hc,UG,Db⟩:=fo aX ho hn;have hg:(QJ Ac (p+(GV Ac p f s a).length)).length=18:=rfl;rw[hg] at h3 h4 Ib;have AD:=(A9.1 h3).1;have Ox:NP Ac n Ab ab (.rest r q.k) (p+(GV Ac p f s a).length+19):=⟨h4,by rw[<-d7] at Ib;exact Ib⟩;have Km:=hm.bi XA;refine Rn.JF hb (c:=c) h2 Y (hr.trans hc.symm) (fun kJ R2 h1=> ?_) fun kJ R2 h0=> .inr ⟨by rw[hq];simp only[KZ];omega,?_⟩
 ·cases oE:q.BW c with
  | none=>exact UV (Km.1.qM c Db oE) kJ
  | some x=>
   have hx:=(Km.1.j6 c x Db oE).2;refine Rn.st hb v.toNat (.AR v.toNat) (v:=x) AD (Ns Y) (by rw[eS];exact h1.trans hx) (Rn.Bd (.inl ⟨{q with s:=r,L:=C5 q.L v.toNat x},?_,Ox,hm.ya ⟨Ud,hA⟩ (by rw[hq];exact LE _),?_⟩))
   ·unfold Xy;rw[hq];show(if _ then _ else _)=_;rw[<-ea,I ho,<-UG,oE];rfl
   ·exact nal
 ·have oE:q.BW c=none:=by
   cases oE:q.BW c with
   | none=>rfl
   | some x=>have:=(Km.1.j6 c x Db oE).1;rw[kJ] at this;cases this
  exact .get (c:=c) hq XA (by rw[<-ea];omega) (by rw[<-ea];exact hc) oE ⟨h2,AD,Ox,Db⟩ rfl h0 hm
theorem Abu (hb:Bs Ac) (hn:n=cells.toNat) (h6:cells<=6) {q:KS} {lt:LT} {f s:Int} {i a:At} {r:Bt} (hq:q.s= .put f s i a r) (hp:NP Ac n Ab ab (.rest q.s q.k) lt.pc) (hm:Mt n cells B rd Bp q lt.x.m):Rn Ac Ab 0 lt (N1 Ac n Ab cells B rd Bp ab q):=by
 obtain⟨⟨⟨aX,Ot,ue,XA,Ud⟩,hA⟩,hk⟩:=(by have:=hm.wf;rw[hq] at this;exact this);obtain⟨hl,Ib⟩:=(by rw[hq] at hp;exact hp);rw[Gx] at hl Ib;simp only[CA,Bo,CX,V] at hl Ib;obtain⟨⟨⟨h1,h2⟩,h3⟩,h4⟩:=hl;obtain⟨p,R,m⟩:=lt;simp only[<-d7] at h4 Ib;have ei:FZ m.AR i=FZ q.L i:=QO Ot hm.L;have ea:FZ m.AR a=FZ q.L a:=QO ue hm.L;refine Rn.cell hb h1 Ot Y (fun ho j p' R' hj hc=> .inr ⟨by rw[hq];simp only[KZ];omega,.EF (t:=2) ?_ hc (.inl ⟨rfl,rfl⟩)⟩) fun ho j R' hj hr=> ?_
 ·unfold Eo;rw[hq];show(if _ then _ else _)=_;rw[<-ei,In ho]
 obtain⟨c,hc,UG,Db⟩:=fo aX ho hn;have hv:=LO (Ac:=Ac) a 1;refine Rn.val hb h2 ue fun R1 g1 e1=> ?_
 have h0:R1 0=c:=(g1 0 AC).trans (hr.trans hc.symm);unfold rz at h3;simp only[d8,LI.AW,A9,<-d7] at h3;obtain⟨c0,c1,_⟩:=h3;refine Rn.stR hb (14+c) (.vl c) c0 (jn Y) e1 (by show R1 0+14=_;omega) Y ?_;refine Rn.stR hb (8+c) (.wr c) c1 (Nr Y) (ED _ _) (by show R1 0+8=_;omega) Y (Rn.Bd (.inl ⟨{q with s:=r,BW:=F2 q.BW c (FZ q.L a)},?_,⟨h4,?_⟩,⟨hm.L,hm.R,⟨⟨Ud,hA⟩,hk⟩,fun hb=>⟨?_,?_⟩⟩,?_⟩))
 ·unfold Xy;rw[hq];show(if _ then _ else _)=_;rw[<-ei,I ho,<-UG]
 ·exact Ib
 ·rw[ea];exact(hm.bi XA).1.put c _
 ·have:=(hm.bi XA).2;rw[hq] at this;simpa only[cm,ob] using this
 ·exact nal
theorem Abv (hb:Bs Ac) {q:KS} {lt:LT} {a:At} {r:Bt} (hq:q.s= .out a r) (hp:NP Ac n Ab ab (.rest q.s q.k) lt.pc) (hm:Mt n cells B rd Bp q lt.x.m):Rn Ac Ab 0 lt (N1 Ac n Ab cells B rd Bp ab q):=by
 obtain⟨⟨⟨ue,Ud⟩,hA⟩,hk⟩:=(by have:=hm.wf;rw[hq] at this;exact this);obtain⟨hl,Ib⟩:=(by rw[hq] at hp;exact hp);rw[Gx] at hl Ib;unfold aE at hl Ib;simp only[CA,Bo,CX,V] at hl Ib;obtain⟨⟨h1,h2⟩,h4⟩:=hl;obtain⟨p,R,m⟩:=lt;simp only[<-d7] at h4 Ib;have ea:FZ m.AR a=FZ q.L a:=QO ue hm.L;have hv:=LO (Ac:=Ac) a 1;refine Rn.val hb h1 ue fun R1 g1 e1=> ?_
 by_cases hi:q.k.IS=true
 ·rw[In hi] at h2 h4 Ib;have Km:=hm.bi hi;have ee:q.o.length+1+cm (.rest r q.k) q.R<=8:=by have:=Km.2;rw[hq] at this;simp only[cm,ob] at this⊢;omega
  unfold rz at h2;simp only[d8,LI.AW,A9,<-d7] at h2;obtain⟨c0,c1,c2,c3,_⟩:=h2;refine Rn.ld hb 39 .count (v:=q.o.length) c0 rfl Km.1.qq ?_;refine Rn.stR hb (40+q.o.length) (.B7 q.o.length) c1 (eW Y) ((RY R1 _ AC).trans e1) ?_ Y ?_
  ·show C5 R1 2 _ 2+40=_;rw[BZ];omega
  refine Rn.op c2 (u:=q.o.length) (D8 _ _ _) (ED _ _) ((L4 _ _).trans (by rw[Fu Y Y])) ?_;refine Rn.st hb 39 .count c3 rfl (D8 _ _ _) (Rn.Bd (.inl ⟨{q with s:=r,o:=q.o++[FZ q.L a]},?_,⟨h4,Ib⟩,⟨hm.L,hm.R,⟨⟨Ud,hA⟩,hk⟩,fun _=>⟨?_,?_⟩⟩,?_⟩))
  ·unfold Xy;rw[hq];exact In hi
  ·rw[ea];exact Km.1.out _
  ·show(q.o++[FZ q.L a]).length+_<=8;rw[V];exact ee
  ·exact nal
 ·have XZ:q.k.IS=false:=by simpa using hi
  rw[I hi] at h2 h4 Ib;exact Rn.Bd (.inr ⟨by rw[hq];simp only[KZ];omega,.out XZ hq (A9.1 h2).1 (e1.trans ea) ⟨h4,Ib⟩ hm⟩)
theorem Abx (hb:Bs Ac) {q:KS} {lt:LT} {a:At} {b r:Bt} (hq:q.s= .EA a b r) (hp:NP Ac n Ab ab (.rest q.s q.k) lt.pc) (hm:Mt n cells B rd Bp q lt.x.m):Rn Ac Ab 0 lt (N1 Ac n Ab cells B rd Bp ab q):=by
 obtain⟨⟨⟨ue,hd,P0,Ud⟩,hA1,hA2⟩,hk⟩:=(by have:=hm.wf;rw[hq] at this;exact this);obtain⟨hl,Ib⟩:=(by rw[hq] at hp;exact hp);rw[Gx] at hl Ib;simp only[CA,Bo,CX,V,IR] at hl Ib;obtain⟨⟨h1,h2⟩,h4⟩:=hl;rw[rz,d8] at h2;obtain⟨h2,h3⟩:=A9.1 h2;obtain⟨p,R,m⟩:=lt;have ea:FZ m.AR a=FZ q.L a:=QO ue hm.L;have hv:=LO (Ac:=Ac) a 1;refine Rn.val hb h1 ue fun R1 g1 e1=> ?_
 generalize hlen:(Gx Ac n q.k.IS q.k.Aj (p+(DX Ac a 1).length+1) b).length=lb at*;have e2:p+((DX Ac a 1).length+(lb+1))=p+(DX Ac a 1).length+1+lb:=Y
 rw[e2] at h4;have oA:NP Ac n Ab ab q.k (p+(DX Ac a 1).length+1+lb+(Gx Ac n q.k.IS q.k.Aj (p+(DX Ac a 1).length+1+lb) r).length):=by
  rw[<-e2,d7];exact Ib
 by_cases h0:FZ q.L a=0
 ·refine Rn.jz h2 (by rw[e1,ea];exact h0) (Rn.Bd (.inl ⟨{q with s:=r},?_,⟨h4,oA⟩,⟨hm.L,hm.R,⟨⟨Ud,hA2⟩,hk⟩,fun hb=>⟨(hm.bi hb).1,?_⟩⟩,?_⟩))
  ·unfold Xy;rw[hq];show some (if _ then _ else _)=_;rw[In h0]
  ·have:=(hm.bi hb).2;rw[hq] at this;simp only[cm,ob] at this⊢;omega
  ·exact nal
 ·refine Rn.tL h2 (by rw[e1,ea];exact h0) (Rn.Bd (.inl ⟨{q with s:=b,k:= .rest r q.k},?_,⟨h3,?_⟩,⟨hm.L,hm.R,⟨⟨P0,hA1⟩,⟨Ud,hA2⟩,hk⟩,fun hb=>⟨(hm.bi hb).1,?_⟩⟩,?_⟩))
  ·unfold Xy;rw[hq];show some (if _ then _ else _)=_;rw[I h0]
  ·show NP Ac n Ab ab (.rest r q.k) (_+(Gx Ac n q.k.IS q.k.Aj (p+(DX Ac a 1).length+1) b).length);rw[hlen];exact⟨h4,oA⟩
  ·have:=(hm.bi hb).2;rw[hq] at this;simp only[cm,ob] at this⊢;omega
  ·exact nal
end
section
variable {Ac:Int} {n:Nat} {Ab:List GI} {cells:Int} {B:Bc} {rd Bp:Nat->Option Int} {ab:Nat}
theorem yu (hb:Bs Ac) {q:KS} {lt:LT} {m:Int} {b r:Bt} (hq:q.s= .loop m b r) (hp:NP Ac n Ab ab (.rest q.s q.k) lt.pc) (hm:Mt n cells B rd Bp q lt.x.m):Rn Ac Ab 0 lt (N1 Ac n Ab cells B rd Bp ab q):=by
 obtain⟨⟨⟨hmn,hd,P0,Ud⟩,hA1,hA2⟩,hk⟩:=(by have:=hm.wf;rw[hq] at this;exact this);obtain⟨hl,Ib⟩:=(by rw[hq] at hp;exact hp);have hdp:=lz q.k;rw[Gx] at hl Ib;simp only[CA,Bo,CX,V,IR,m7] at hl Ib;obtain⟨⟨h1,h2⟩,h4⟩:=hl;rw[rz,d8] at h1;obtain⟨h1,h3⟩:=A9.1 h1;obtain⟨p,R,mm⟩:=lt;have e1:∀lb,p+(lb+1)=p+1+lb:=Y
 have e2:∀lb,p+(lb+1+(0+1+1+1+1+1))=p+1+lb+5:=Y
 rw[e1 (Gx Ac n q.k.IS (q.k.Aj+1) (p+1) b).length] at h2;rw[e2] at h4;rw[<-d7,e2] at Ib;have hR:∀d,d < q.k.Aj->C5 q.R q.k.Aj m d=q.R d:=fun d hd=>BN _ _ (Qbf hd)
 refine Rn.st hb (48+q.k.Aj) (.YK q.k.Aj) h1 (bM _) (ED _ _) (Rn.Bd (.inl ⟨{q with s:=b,k:= .loop b r q.k,R:=C5 q.R q.k.Aj m},?_,⟨h3,p+1,rfl,h3,h2,h4,Ib⟩,⟨hm.L,?_,⟨⟨P0,hA1⟩,⟨⟨?_,?_⟩,hd⟩,⟨P0,hA1⟩,⟨Ud,hA2⟩,bZ _ _ _ _ hR hk⟩,fun hb=>⟨((hm.bi hb).1.AR _ _),?_⟩⟩,?_⟩))
 ·unfold Xy;rw[hq]
 ·intro d hd;show C5 _ _ _ _=C5 _ _ _ _;by_cases he:d=q.k.Aj
  ·rw[he,BZ,BZ]
  ·rw[BN _ _ he,BN _ _ he];exact hm.R d (by have:d < q.k.Aj+1:=hd;omega)
 ·show 1<=C5 _ _ _ _;rw[BZ];exact hmn.1
 ·show C5 _ _ _ _<=4;rw[BZ];exact hmn.2
 ·have:=(hm.bi hb).2;rw[hq] at this;simp only[cm,ob] at this⊢;rw[aH _ _ _ hR,BZ];have e:m.toNat*ob b=ob b+(m.toNat - 1)*ob b:=by
   exact naI
  omega
 ·unfold EH;rw[hq];simp only[Sp,B9];rw[aA _ _ _ hR,BZ];have e:m.toNat*(6+B9 b)=(6+B9 b)+(m.toNat - 1)*(6+B9 b):=by
   exact naI
  omega
theorem nQ {d Dw:Nat} (h:D1 Ab (rz ab (aQ Ac d p Dw)) p):Ab[p]?=some (.load 1 (.n (Ac+(48+d))) 0)/\Ab[p+1]?=some (.op I9 1 (.r 1) (.n 1))/\Ab[p+2]?=some (.store (.n (Ac+(48+d))) 0 (.r 1))/\Ab[p+3]?=some (.jz (.r 1) (p+5:Nat))/\Ab[p+4]?=some (.Gb Dw):=by
 unfold aQ rz at h;simp only[d8,LI.AW,A9] at h;exact⟨h.1,h.2.1,h.2.2.1,h.2.2.2.1,h.2.2.2.2.1⟩
theorem Abw (hb:Bs Ac) {q:KS} {lt:LT} (hq:q.s= .nil) (hp:NP Ac n Ab ab (.rest q.s q.k) lt.pc) (hm:Mt n cells B rd Bp q lt.x.m):Rn Ac Ab 0 lt (N1 Ac n Ab cells B rd Bp ab q):=by
 obtain⟨_,hk⟩:=hm.wf;obtain⟨_,Ib⟩:=(by rw[hq] at hp;exact hp);rw[Gx] at Ib;have oA:NP Ac n Ab ab q.k lt.pc:=Ib;clear Ib;cases Q1:q.k with
 | done=>rw[Q1] at oA;exact Rn.Bd (.inr ⟨d6 _,.halt hq Q1 oA⟩)
 | Au b s k=>rw[Q1] at oA;exact Rn.Bd (.inr ⟨d6 _,.FB hq Q1 oA hm⟩)
 | rest s k=>
  rw[Q1] at oA hk;refine Rn.Bd (.inl ⟨{q with s:=s,k:=k},?_,oA,⟨hm.L,fun d hd=>hm.R d (by rw[Q1];exact hd),hk,fun hb=> ?_⟩,?_⟩)
  ·unfold Xy;rw[hq,Q1]
  ·have:=hm.bi (by rw[Q1];exact hb);rw[hq,Q1] at this;simpa only[cm,ob,Qaw] using this
  ·unfold EH;rw[hq,Q1];simp only[Sp,B9];omega
 | loop b s k=>
  rw[Q1] at oA hk;obtain⟨⟨hr,hd⟩,P0,hws,hk⟩:=hk;obtain⟨Dw,fO,h1,h2,h3,h4⟩:=oA;have hdp:=lz k;have hrR:=hm.R k.Aj (by rw[Q1];exact Qa1 _);obtain⟨c0,c1,c2,c3,c4⟩:=nQ h2;obtain⟨p,R,m⟩:=lt;generalize yV:q.R k.Aj=w at*;have hR:∀d,d < k.Aj->C5 q.R k.Aj (w - 1) d=q.R d:=fun d hd=>BN _ _ (Qbf hd)
  have hMR:∀d,d < k.Aj+1->C5 m.YK k.Aj (w - 1) d=C5 q.R k.Aj (w - 1) d:=fun d hd=>by
   by_cases he:d=k.Aj
   ·rw[he,BZ,BZ]
   ·rw[BN _ _ he,BN _ _ he];exact hm.R d (by rw[Q1];exact hd)
  refine Rn.ld hb (48+k.Aj) (.YK k.Aj) (v:=w) c0 (bM _) hrR ?_;refine Rn.op c1 (u:=w) (D8 _ _ _) (ED _ _) ((Y2 _ _).trans (by rw[Fu Y Y])) ?_;refine Rn.st hb (48+k.Aj) (.YK k.Aj) c2 (bM _) (D8 _ _ _) ?_;by_cases h0:w - 1=0
  ·refine Rn.jz c3 (by rw[D8];exact h0) (Rn.Bd (.inl ⟨{q with s:=s,k:=k,R:=C5 q.R k.Aj (w - 1)},?_,⟨h3,h4⟩,⟨hm.L,fun d hd=>hMR d (by have:d < k.Aj:=hd;omega),⟨hws,bZ _ _ _ _ hR hk⟩,fun hb=> ?_⟩,?_⟩))
   ·unfold Xy;rw[hq,Q1];show(if q.R k.Aj - 1=0 then _ else _)=_;rw[yV,In h0]
   ·have:=hm.bi (by rw[Q1];exact hb);rw[hq,Q1] at this;refine⟨this.1.AR _ _,?_⟩;have h:=this.2;simp only[cm,ob,yV] at h⊢;rw[aH _ _ _ hR];omega
   ·unfold EH;rw[hq,Q1];simp only[Sp,B9,yV];rw[aA _ _ _ hR];omega
  ·refine Rn.tL c3 (by rw[D8];exact h0) (Rn.Gb c4 (Rn.Bd (.inl ⟨{q with s:=b,R:=C5 q.R k.Aj (w - 1)},?_,?_,⟨hm.L,?_,?_,fun hb=> ?_⟩,?_⟩)))
   ·unfold Xy;rw[hq,Q1];show(if q.R k.Aj - 1=0 then _ else _)=_;rw[yV,I h0]
   ·show NP Ac n Ab ab (.rest b q.k) Dw;rw[Q1];have Aff:p=Dw+_:=fO;subst Aff;exact⟨h1,Dw,rfl,h1,h2,h3,h4⟩
   ·show∀d,d < q.k.Aj->_;rw[Q1];exact hMR
   ·show pO cells (C5 q.R k.Aj (w - 1)) (.rest b q.k);rw[Q1];exact⟨P0,⟨⟨by rw[BZ];omega,by rw[BZ];omega⟩,hd⟩,P0,hws,bZ _ _ _ _ hR hk⟩
   ·have:=hm.bi hb;rw[hq,Q1] at this;refine⟨this.1.AR _ _,?_⟩;have h:=this.2;show _+cm (.rest b q.k) _<=8;rw[Q1];simp only[cm,ob,yV,BZ] at h⊢;rw[aH _ _ _ hR];have e:(w.toNat - 1)*ob b=ob b+((w - 1).toNat - 1)*ob b:=by
     exact naK
    omega
   ·show _+Sp (.rest b q.k) _<=_;unfold EH;rw[hq,Q1];simp only[Sp,B9,yV,BZ];rw[aA _ _ _ hR];have e:(w.toNat - 1)*(6+B9 b)=(6+B9 b)+((w - 1).toNat - 1)*(6+B9 b):=by
     exact naK
    omega
theorem Adh (x:Int) (l:List GI):rz x (l.map LI.i)=l:=by
 unfold rz;rw[Qdo];exact List.map_id'' (fun _=>rfl) l
theorem ni (hb:Bs Ac) (hn:n<=6) {q:KS} {lt:LT} {b r:Bt} (hq:q.s= .atomic b r) (hp:NP Ac n Ab ab (.rest q.s q.k) lt.pc) (hm:Mt n cells B rd Bp q lt.x.m):Rn Ac Ab 0 lt (N1 Ac n Ab cells B rd Bp ab q):=by
 obtain⟨⟨⟨hi,hd,P0,Ud⟩,hA1,hA2⟩,hk⟩:=(by have:=hm.wf;rw[hq] at this;exact this);obtain⟨hl,Ib⟩:=(by rw[hq] at hp;exact hp);rw[Gx] at hl Ib;obtain⟨p,R,m⟩:=lt;have e8:(El (NB Ac) 4 p).length=8:=Ej (L:=2) (fun _ _=>rfl) 4 p;simp only[CA,Bo,CX,V,IR,z9,e8] at hl Ib;rw[hi] at hl Ib;generalize hT:JO Ac n (p+8)=T at hl Ib;generalize hC:Gx Ac n true q.k.Aj (p+8+T.length) b=C at hl Ib;generalize hE:ON Ac n (Cr b) (p+8+T.length+C.length)=E at hl Ib;obtain⟨ab',Su⟩:∃x,x=p+8+T.length+C.length+E.length+1:=⟨_,rfl⟩;have eab:p+8+(T.length+C.length+E.length)+1=ab':=Y
 rw[eab] at hl Ib;generalize hK:FD Ac n (p+8) ab'=K at hl Ib;obtain⟨pe,fP⟩:∃x,x=ab'+K.length:=⟨_,rfl⟩;have epe:p+(8+(T.length+C.length+E.length)+(K.length+1))=pe:=Y
 rw[epe] at hl;rw[<-d7,epe] at Ib;obtain⟨⟨⟨h1,h2⟩,h3⟩,h4⟩:=hl;rw[Adh] at h2;rw[rz,d8,show p+(8+(T.length+C.length+E.length))=ab' - 1 by omega] at h3;obtain⟨h3,h5⟩:=A9.1 h3;rw[show ab' - 1+1=ab' by omega] at h5;refine Rn.gG hb h1 fun R'=> ?_
 have WS:=h2;rw[Bo,Bo,CX] at WS;refine Rn.Dw (b:=b) (s:=r) (k:=q.k) (ab:=ab') hb hn (Dw:=p+8) (by rw[hT];exact WS.1.1) ?_ (fun i hi=>Tp m.Gr m.AR hi) ?_
 ·rw[hT];refine⟨by rw[show(KK.Au b r q.k).IS=true from rfl,show(KK.Au b r q.k).Aj=q.k.Aj from rfl,hC];exact WS.1.2,hi,ab,p+8,pe,by rw[hT];rfl,?_⟩;rw[show(KK.Au b r q.k).IS=true from rfl,show(KK.Au b r q.k).Aj=q.k.Aj from rfl,hT,hC,hE];refine⟨by rw[CA,CA];exact h2,Su,by rw[hK];exact fP,by rw[fP];exact h3,by rw[hK];exact h5,h4,Ib⟩
 ·intro lt' hc hl hr;refine .inr ⟨by rw[hq];simp only[KZ];omega,.Pm hq hi hc (fun i hi=>by rw[hl];exact hm.L i hi) (fun d hd=>by rw[hr];exact hm.R d hd) hm.wf⟩
theorem Ac9 (hb:Bs Ac) (hn:n=cells.toNat) (h6:cells<=6) {q:KS} {lt:LT} (hp:NP Ac n Ab ab (.rest q.s q.k) lt.pc) (hm:Mt n cells B rd Bp q lt.x.m):Rn Ac Ab 0 lt (N1 Ac n Ab cells B rd Bp ab q):=by
 cases hq:q.s with
 | nil=>exact Abw hb hq hp hm
 | set v op a b r=>exact Abt hb hq hp hm
 | get v f s a r=>exact Aby hb hn h6 hq hp hm
 | put f s i a r=>exact Abu hb hn h6 hq hp hm
 | out a r=>exact Abv hb hq hp hm
 | EA a b r=>exact Abx hb hq hp hm
 | loop m b r=>exact yu hb hq hp hm
 | atomic b r=>exact ni hb Y hq hp hm
theorem YU (hb:Bs Ac) (hn:n=cells.toNat) (h6:cells<=6):∀(N:Nat) {q:KS} {lt:LT},EH q<=N->NP Ac n Ab ab (.rest q.s q.k) lt.pc->Mt n cells B rd Bp q lt.x.m->
  ∃j lt' q',Gh Ac Ab j lt lt'/\Sh (fun _=>none) q q'/\b8 Ac n Ab cells B rd Bp ab q' lt'/\j+EH q'<=EH q+KZ q'.s:=by
 intro N;induction N with
 | zero=>intro q lt h;unfold EH at h;simp only[Sp] at h;omega
 | succ N ih=>
  intro q lt h hp hm;obtain⟨j,lt',hr,hN⟩:=Ac9 hb hn h6 hp hm;rw[Qaw] at hN;rcases hN with⟨q',hk,Ze,ep,hle⟩ | ⟨hj,hs⟩
  ·obtain⟨j2,lt2,q2,IK,Ss,Uf,Ab3⟩:=ih Y Ze ep;exact⟨j+j2,lt2,q2,hr.trans IK,.cons hk Ss,Uf,Y⟩
  ·exact⟨j,lt',q,hr,.nil q,hs,Y⟩
end
theorem Rn.skip {Z96:Nat} (hL:∀c p,(f c p).length=L) {ab n p:Nat} (h:D1 Ab (rz ab (El f n p)) p) (fl:Nat->Bool) {m:Du}
  (hs:∀c,c < n->fl c=false->∀pc k R,D1 Ab (rz ab (f c pc)) pc->∀Q,(∀j R',j<=Z96->Rg [1] R R'->Rn Ac Ab (k+j) ⟨pc+L,⟨R',m⟩⟩ Q)->Rn Ac Ab k ⟨pc,⟨R,m⟩⟩ Q)
  {Q:Nat->LT->Prop} {R0:Nat->Int} {k0:Nat}
  (c:Nat) (hc:c<=n) (q1:∀c' j,c<=c'->c' < n->fl c'=true->(∀d,c<=d->d < c'->fl d=false)->j<=Z96*(c' - c)->∀R',Rg [1] R0 R'->D1 Ab (rz ab (f c' (p+L*c'))) (p+L*c')->Rn Ac Ab (k0+j) ⟨p+L*c',⟨R',m⟩⟩ Q)
  (q2:∀j,(∀d,c<=d->d < n->fl d=false)->j<=Z96*(n - c)->∀R',Rg [1] R0 R'->Rn Ac Ab (k0+j) ⟨p+L*n,⟨R',m⟩⟩ Q):Rn Ac Ab k0 ⟨p+L*c,⟨R0,m⟩⟩ Q:=by
 have key:∀i,i<=n - c->(∀d,c<=d->d < n - i->fl d=false)->∀j R,j<=Z96*(n - c - i)->Rg [1] R0 R->Rn Ac Ab (k0+j) ⟨p+L*(n - i),⟨R,m⟩⟩ Q:=by
  intro i;induction i with
  | zero=>intro _ hd j R hj hR;exact q2 j hd hj R hR
  | succ i ih=>
   intro hi hd j R hj hR;have hl:=Jn hL h (c:=n - (i+1)) Y;cases hf:fl (n - (i+1)) with
   | true=>exact q1 _ j Y Y hf hd (by rw[show n - (i+1) - c=n - c - (i+1) by omega];exact hj) R hR hl
   | false=>
    refine hs _ Y hf _ _ R hl Q fun j' R' uR hR'=> ?_
    have e:n - (i+1)+1=n - i:=Y
    rw[d7,d7,<-Nat.mul_succ,Nat.succ_eq_add_one,e];refine ih Y (fun d h1 h2=> ?_) (j+j') R' ?_ (fun x hx=>(hR' x hx).trans (hR x hx))
    ·by_cases he:d=n - (i+1)
     ·rw[he];exact hf
     ·exact hd d h1 Y
    ·have e2:n - c - i=n - c - (i+1)+1:=Y
     rw[e2,Nat.mul_succ];omega
 have:=key (n - c) (LE _) (fun d h1 h2=>Y) 0 R0 (d6 _) (Rg.refl _ _);rwa[Qaj,show n - (n - c)=c by omega] at this
theorem Ki (Ac:Int) (c p:Nat):(Li Ac c p).length=16:=rfl
theorem L7 (Ac:Int) (c p:Nat):(ND Ac c p).length=14:=rfl
theorem Rt (Ac:Int) (c p:Nat):(V0 Ac c p).length=4:=rfl
theorem Pf (Ac:Int) (c p:Nat):(OG Ac c p).length=3:=rfl
theorem Tq (Ac:Int) (c p:Nat):(NJ Ac c p).length=4:=rfl
structure CP (Ac:Int) (n:Nat) (Ab:List GI) (ab p:Nat):Prop where
 UA:D1 Ab (rz ab (El (Li Ac) n p)) p
 b0:Ab[p+16*n]?=some (.DL 5 (.n 16) 0 (.n 1))
 b1:Ab[p+16*n+1]?=some (.op Ja 5 (.r 5) (.n 1))
 b2:Ab[p+16*n+2]?=some (.op Qy 5 (.r 5) (.n 1))
 nT:D1 Ab (rz ab (El (ND Ac) n (p+16*n+3))) (p+16*n+3)
 put:D1 Ab (rz ab (El (V0 Ac) n (p+30*n+3))) (p+30*n+3)
 free:D1 Ab (rz ab (El (OG Ac) n (p+34*n+3))) (p+34*n+3)
theorem Ge (Ac:Int) (n p:Nat):(FX Ac n p).length=37*n+3:=by
 unfold FX;simp only[V,Ej (Ki Ac),Ej (L7 Ac),Ej (Rt Ac),Ej (Pf Ac),show Ya.length=3 from rfl];omega
theorem jr (h:D1 Ab (rz ab (FX Ac n p)) p):CP Ac n Ab ab p:=by
 unfold FX at h;simp only[CA,Bo,CX,V,Ej (Ki Ac),Ej (L7 Ac),Ej (Rt Ac),Ej (Pf Ac),show Ya.length=3 from rfl] at h;obtain⟨⟨⟨⟨h1,h2⟩,h3⟩,h4⟩,h5⟩:=h;unfold Ya rz at h2;simp only[d8,LI.AW,A9] at h2;refine⟨h1,h2.1,h2.2.1,h2.2.2.1,?_,?_,?_⟩
 ·rw[show p+16*n+3=p+(16*n+3) by omega];exact h3
 ·rw[show p+30*n+3=p+(16*n+3+14*n) by omega];exact h4
 ·rw[show p+34*n+3=p+(16*n+3+14*n+4*n) by omega];exact h5
section
variable {Ac:Int} {Ab:List GI} {ab n p k:Nat} {m:Du} {R:Nat->Int} {Q:Nat->LT->Prop} (hb:Bs Ac) (hn:n<=6)
include hb
theorem Rn.UK {pc T:Nat} (F:JM) (h0:Ab[pc]?=some (.load 1 (.n (Ac+((T:Int)+c))) 0)) (h1:Ab[pc+1]?=some (.jz (.r 1) t)) (hT:T+c < 64) (hf:JM.Pl (T+c)=F) (hv:m.bE F=v)
  (q:∀R',Rg [1] R R'->(v=0->Rn Ac Ab (k+2) ⟨t.toNat,⟨R',m⟩⟩ Q)/\(v≠0->Rn Ac Ab (k+2) ⟨pc+2,⟨R',m⟩⟩ Q)):Rn Ac Ab k ⟨pc,⟨R,m⟩⟩ Q:=by
 have hg:=q (C5 R 1 v) ((Rg.refl _ _).C5 _ EQ);refine Rn.ld hb (T+c) F h0 hf hv ?_ Y hT;by_cases h:v=0
 ·exact Rn.jz h1 (by rw[D8];exact h) (hg.1 h)
 ·exact Rn.tL h1 (by rw[D8];exact h) (hg.2 h)
include hn
variable {B:Bc} {BW rd Bp:Nat->Option Int} {o:List Int} (hm:BI n B m BW rd Bp o)
include hm
omit hb hn in
theorem BI.wrF (hc:c < n):(m.wr c=0<->(BW c).isSome=false):=by
 cases h:BW c with
 | none=>simp[hm.qM c hc h]
 | some v=>simp[(hm.j6 c v hc h).1]
theorem Rn.GA (h:CP Ac n Ab ab p) (c:Nat) (hc:c<=n)
  (q1:∀c' j R',c<=c'->c' < n->(BW c').isSome=true->(∀d,c<=d->d < c'->(BW d).isSome=false)->j<=2*(c' - c)+2->Q (k+j) ⟨p+16*c'+2,⟨R',m⟩⟩)
  (q2:∀j R',(∀d,c<=d->d < n->(BW d).isSome=false)->j<=2*(n - c)->Q (k+j) ⟨p+16*n,⟨R',m⟩⟩):Rn Ac Ab k ⟨p+16*c,⟨R,m⟩⟩ Q:=by
 refine Rn.skip (Z96:=2) (Ki Ac) h.UA (fun c=>(BW c).isSome) ?_ c hc ?_ (fun j hd hj R' _=>Rn.Bd (q2 j R' hd Y))
 ·intro c hc hf pc k R hl Q q;unfold Li rz at hl;simp only[Qaz,d8,WP,LI.AW,A9] at hl;exact nae
 ·intro c' j h1 h2 hf hd hj R' _ hl;unfold Li rz at hl;simp only[Qaz,d8,WP,LI.AW,A9] at hl;refine Rn.UK hb (T:=8) (.wr c') hl.1 hl.2.1 Y (Nr Y) rfl fun R' hR=>⟨fun hv=> ?_,fun _=>Rn.Bd ?_⟩
  ·exact naB
  ·rw[d7];exact q1 c' (j+2) R' h1 h2 hf hd Y
omit hn hm in
theorem Rn.Adl (h:CP Ac n Ab ab p) (hc:c < n) {lv rv:Int} (h2:R 2=lv) (hl:0<=lv/\lv < 8000000000000000000) (hs:m.start=rv)
  (q1:(¬∃w,lv=2*w/\0<=w/\w<=rv)->∀j R',j<=8->Rn Ac Ab (k+j) ⟨ab,⟨R',m⟩⟩ Q) (q2:∀v R',lv=2*v->0<=v->v<=rv->R' 2=lv->R' 3=lv+1->Q (k+9) ⟨p+16*c+12,⟨R',m⟩⟩):Rn Ac Ab k ⟨p+16*c+3,⟨R,m⟩⟩ Q:=by
 have Mu:=Jn (Ki Ac) h.UA hc;unfold Li at Mu;rw[CA,CA,Bo,Bo,CX] at Mu;have hx:=Mu.2;unfold rz at hx;simp only[V,d8,LI.AW,A9] at hx;refine Rn.open hb Mu.1.2 h2 hl hs q1 fun v e1 e2 e3 R' hg=> ?_
 subst e1;have WS:R' 2=2*v:=(hg 2 AC).trans h2;refine Rn.op hx.1 (u:=2*v) WS (ED _ _) ((dH _ _).trans (by rw[ym v e2 Y])) (Rn.Bd ?_);exact q2 v _ rfl e2 e3 ((BN _ _ AC).trans WS) (BZ _ _ _)
omit hm in
theorem Rn.Adk (h:CP Ac n Ab ab p) (hc:c < n) {lv:Int} (h2:R 2=lv)
  (q1:R 3=0->Rn Ac Ab (k+1) ⟨ab,⟨R,m⟩⟩ Q) (q2:R 3≠0->Rn Ac Ab (k+3) ⟨p+16*(c+1),⟨R,{m with lk:=C5 m.lk c 1,hd:=C5 m.hd c lv}⟩⟩ Q):Rn Ac Ab k ⟨p+16*c+13,⟨R,m⟩⟩ Q:=by
 have Mu:=Jn (Ki Ac) h.UA hc;unfold Li at Mu;rw[CA,CA,Bo,Bo,CX] at Mu;have hx:=Mu.2;unfold rz at hx;simp only[V,d8,LI.AW,A9] at hx;obtain⟨_,_,c2,c3,c4,_⟩:=hx;by_cases h0:R 3=0
 ·exact Rn.jz c2 h0 (q1 h0)
 ·refine Rn.tL c2 h0 ?_;refine Rn.st hb (26+c) (.lk c) c3 (To Y) (ED _ _) ?_;exact Rn.st hb (32+c) (.hd c) c4 (vL Y) h2 (q2 h0)
omit hb hn hm in
theorem Rn.Acx (h:CP Ac n Ab ab p) {old:Int} (h5:R 5=old) (h0:0<=old/\old < 4000000000000000000 - 1) (q:∀R',R' 5=2*(old+1)->Rn Ac Ab (k+2) ⟨p+16*n+3,⟨R',m⟩⟩ Q):Rn Ac Ab k ⟨p+16*n+1,⟨R,m⟩⟩ Q:=by
 refine Rn.op h.b1 (u:=old) h5 (ED _ _) ((L4 _ _).trans (by rw[Fu Y Y])) ?_;exact Rn.op h.b2 (u:=old+1) (D8 _ _ _) (ED _ _) ((nP _).trans (by rw[x8 _ Y Y])) (q _ (BZ _ _ _))
omit hb hn in
theorem BI.rdF (hc:c < n):(m.rd c=0<->(rd c).isSome=false):=by
 rw[hm.wZ c hc];cases (rd c) <;>simp
omit hb hn in
theorem BI.lkF (hc:c < n):(m.lk c=0<->(Bp c).isSome=false):=by
 rw[hm.xd c hc];cases (Bp c) <;>simp
theorem Rn.Adi (h:CP Ac n Ab ab p) (c:Nat) (hc:c<=n)
  (q1:∀c' j R',c<=c'->c' < n->((rd c').isSome && !(Bp c').isSome)=true->(∀d,c<=d->d < c'->((rd d).isSome && !(Bp d).isSome)=false)->j<=5*(c' - c)+4->R' 5=R 5->Q (k+j) ⟨p+16*n+3+14*c'+5,⟨R',m⟩⟩)
  (q2:∀j R',(∀d,c<=d->d < n->((rd d).isSome && !(Bp d).isSome)=false)->j<=5*(n - c)->R' 5=R 5->Rn Ac Ab (k+j) ⟨p+30*n+3,⟨R',m⟩⟩ Q):Rn Ac Ab k ⟨p+16*n+3+14*c,⟨R,m⟩⟩ Q:=by
 refine Rn.skip (Z96:=5) (L7 Ac) h.nT (fun c=>(rd c).isSome && !(Bp c).isSome) ?_ c hc ?_ (fun j hd hj R' hR=> ?_)
 ·intro c hc hf pc k R hl Q q;unfold ND rz at hl;simp only[Qaz,d8,WP,LI.AW,A9] at hl;obtain⟨c0,c1,c2,c3,c4,_⟩:=hl;refine Rn.UK hb (T:=20) (.rd c) c0 c1 Y (bN Y) rfl fun R' hR=>⟨fun _=>q 2 R' Y hR,fun hv=> ?_⟩
  have Wy:m.rd c≠0:=hv;refine Rn.UK hb (T:=26) (.lk c) c2 c3 Y (To Y) rfl fun R'' hR'=>⟨fun hk=> ?_,fun _=>Rn.Gb c4 (q 5 R'' Y fun x hx=>(hR' x hx).trans (hR x hx))⟩
  have h2:=(BI.lkF hm hc).1 hk;rw[h2] at hf;exact UV ((BI.rdF hm hc).2 (by simpa using hf)) Wy
 ·intro c' j h1 h2 hf hd hj R' hR hl;unfold ND rz at hl;simp only[Qaz,d8,WP,LI.AW,A9] at hl;obtain⟨c0,c1,c2,c3,c4,_⟩:=hl;have P5:(rd c').isSome=true:=by cases hx:(rd c').isSome <;>simp_all
  have WN:(Bp c').isSome=false:=by cases hx:(Bp c').isSome <;>simp_all
  refine Rn.UK hb (T:=20) (.rd c') c0 c1 Y (bN Y) rfl fun R1 hR1=>⟨fun hv=> ?_,fun _=> ?_⟩
  ·have:=(BI.rdF hm h2).1 hv;rw[P5] at this;cases this
  refine Rn.UK hb (T:=26) (.lk c') c2 c3 Y (To Y) rfl fun R2 hR2=>⟨fun _=>Rn.Bd ?_,fun hk=>UV ((BI.lkF hm h2).2 WN) hk⟩
  rw[d7,d7];exact q1 c' (j+(2+2)) R2 h1 h2 hf hd Y ((hR2 5 AC).trans ((hR1 5 AC).trans (hR 5 AC)))
 ·have:=q2 j R' hd Y (hR 5 AC);rwa[show p+30*n+3=p+16*n+3+14*n by omega] at this
omit hn hm in
theorem Rn.Adj (h:CP Ac n Ab ab p) (hc:c < n) {lv rv:Int} (h2:R 2=lv) (hl:0<=lv/\lv < 8000000000000000000) (hs:m.start=rv)
  (q1:(¬∃w,lv=2*w/\0<=w/\w<=rv)->∀j R',j<=8->Rn Ac Ab (k+j) ⟨ab,⟨R',m⟩⟩ Q) (q2:∀v R',lv=2*v->0<=v->v<=rv->R' 5=R 5->Rn Ac Ab (k+8) ⟨p+16*n+3+14*(c+1),⟨R',m⟩⟩ Q):Rn Ac Ab k ⟨p+16*n+3+14*c+6,⟨R,m⟩⟩ Q:=by
 have Mu:=Jn (L7 Ac) h.nT hc;unfold ND at Mu;rw[CA,Bo,CX] at Mu;exact Rn.open hb Mu.2 h2 hl hs q1 fun v e1 e2 e3 R' hg=>q2 v R' e1 e2 e3 (hg 5 AC)
theorem Rn.AeW (h:CP Ac n Ab ab p) (c:Nat) (hc:c<=n)
  (q1:∀c' j R' v,c<=c'->c' < n->BW c'=some v->(∀d,c<=d->d < c'->(BW d).isSome=false)->j<=2*(c' - c)+3->R' 5=R 5->R' 2=v->Q (k+j) ⟨p+30*n+3+4*c'+3,⟨R',m⟩⟩)
  (q2:∀j R',(∀d,c<=d->d < n->(BW d).isSome=false)->j<=2*(n - c)->R' 5=R 5->Rn Ac Ab (k+j) ⟨p+34*n+3,⟨R',m⟩⟩ Q):Rn Ac Ab k ⟨p+30*n+3+4*c,⟨R,m⟩⟩ Q:=by
 refine Rn.skip (Z96:=2) (Rt Ac) h.put (fun c=>(BW c).isSome) ?_ c hc ?_ (fun j hd hj R' hR=> ?_)
 ·intro c hc hf pc k R hl Q q;unfold V0 rz at hl;simp only[d8,LI.AW,A9] at hl;exact nae
 ·intro c' j h1 h2 hf hd hj R' hR hl;unfold V0 rz at hl;simp only[d8,LI.AW,A9] at hl;obtain⟨v,hv⟩:=Qbh.1 hf;refine Rn.UK hb (T:=8) (.wr c') hl.1 hl.2.1 Y (Nr Y) rfl fun R1 hR1=>⟨fun hv=> ?_,fun _=> ?_⟩
  ·exact naB
  refine Rn.ld hb (14+c') (.vl c') hl.2.2.1 (jn Y) (hm.j6 c' v h2 hv).2 (Rn.Bd ?_);rw[d7,d7];exact q1 c' (j+(2+1)) _ v h1 h2 hv hd Y ((BN _ _ AC).trans ((hR1 5 AC).trans (hR 5 AC))) (BZ _ _ _)
 ·have:=q2 j R' hd Y (hR 5 AC);rwa[show p+34*n+3=p+30*n+3+4*n by omega] at this
theorem Rn.Aed (h:CP Ac n Ab ab p) (c:Nat) (hc:c<=n)
  (q1:∀c' j R',c<=c'->c' < n->(BW c').isSome=true->(∀d,c<=d->d < c'->(BW d).isSome=false)->j<=2*(c' - c)+2->R' 5=R 5->Q (k+j) ⟨p+34*n+3+3*c'+2,⟨R',m⟩⟩)
  (q2:∀j R',(∀d,c<=d->d < n->(BW d).isSome=false)->j<=2*(n - c)->Rn Ac Ab (k+j) ⟨p+37*n+3,⟨R',m⟩⟩ Q):Rn Ac Ab k ⟨p+34*n+3+3*c,⟨R,m⟩⟩ Q:=by
 refine Rn.skip (Z96:=2) (Pf Ac) h.free (fun c=>(BW c).isSome) ?_ c hc ?_ (fun j hd hj R' hR=> ?_)
 ·intro c hc hf pc k R hl Q q;unfold OG rz at hl;simp only[d8,LI.AW,A9] at hl;exact nae
 ·intro c' j h1 h2 hf hd hj R' hR hl;unfold OG rz at hl;simp only[d8,LI.AW,A9] at hl;refine Rn.UK hb (T:=8) (.wr c') hl.1 hl.2.1 Y (Nr Y) rfl fun R1 hR1=>⟨fun hv=> ?_,fun _=>Rn.Bd ?_⟩
  ·exact naB
  rw[d7];exact q1 c' (j+2) R1 h1 h2 hf hd Y ((hR1 5 AC).trans (hR 5 AC))
 ·have:=q2 j R' hd Y;rwa[show p+37*n+3=p+34*n+3+3*n by omega] at this
theorem Rn.Lr (h:D1 Ab (rz ab (El (NJ Ac) n p)) p) (c:Nat) (hc:c<=n)
  (q1:∀c' j R' v,c<=c'->c' < n->Bp c'=some v->(∀d,c<=d->d < c'->(Bp d).isSome=false)->j<=2*(c' - c)+3->R' 2=v->Q (k+j) ⟨p+4*c'+3,⟨R',m⟩⟩)
  (q2:∀j R',(∀d,c<=d->d < n->(Bp d).isSome=false)->j<=2*(n - c)->Rn Ac Ab (k+j) ⟨p+4*n,⟨R',m⟩⟩ Q):Rn Ac Ab k ⟨p+4*c,⟨R,m⟩⟩ Q:=by
 refine Rn.skip (Z96:=2) (Tq Ac) h (fun c=>(Bp c).isSome) ?_ c hc ?_ (fun j hd hj R' hR=>q2 j R' hd Y)
 ·intro c hc hf pc k R hl Q q;unfold NJ rz at hl;simp only[d8,LI.AW,A9] at hl;exact Rn.UK hb (T:=26) (.lk c) hl.1 hl.2.1 Y (To Y) rfl fun R' hR=>⟨fun _=>q 2 R' (LE _) hR,fun hv=>UV ((BI.lkF hm hc).2 hf) hv⟩
 ·intro c' j h1 h2 hf hd hj R' hR hl;unfold NJ rz at hl;simp only[d8,LI.AW,A9] at hl;obtain⟨v,hv⟩:=Qbh.1 hf;refine Rn.UK hb (T:=26) (.lk c') hl.1 hl.2.1 Y (To Y) rfl fun R1 hR1=>⟨fun hv=> ?_,fun _=> ?_⟩
  ·have:=(BI.lkF hm h2).1 hv;rw[hf] at this;cases this
  refine Rn.ld hb (32+c') (.hd c') hl.2.2.1 (vL Y) (hm.bC c' v h2 hv) (Rn.Bd ?_);rw[d7,d7];exact q1 c' (j+(2+1)) _ v h1 h2 hv hd Y (BZ _ _ _)
omit hn in
theorem Rn.AcS (h:D1 Ab (rz ab (Ku Ac p)) p) (i:Nat) (hi:i<=o.length) (h8:o.length<=8) (h1:R 1=i) (q1:∀x R',o[i]?=some x->R' 1=(i:Int)->R' 2=x->Q (k+4) ⟨p+5,⟨R',m⟩⟩) (q2:i=o.length->∀R',Rn Ac Ab (k+3) ⟨p+8,⟨R',m⟩⟩ Q):
  Rn Ac Ab k ⟨p+1,⟨R,m⟩⟩ Q:=by
 unfold Ku rz at h;simp only[d8,LI.AW,A9] at h;obtain⟨_,c1,c2,c3,c4,_⟩:=h;refine Rn.ld hb 39 .count (v:=o.length) c1 rfl hm.qq ?_;refine Rn.op c2 (u:=i) (w:=o.length) ((BN R (o.length:Int) (i:=2) (j:=1) AC).trans h1) (D8 _ _ _) (Ok _ _) ?_;by_cases AX:i < o.length
 ·rw[In Y];refine Rn.tL c3 (by rw[D8];decide) ?_;have hx:=Id AX;have kW:C5 (C5 R 2 (o.length:Int)) 2 1 1=i:=(BN _ _ AC).trans ((BN _ _ AC).trans h1);refine Rn.ldR hb (40+i) (.B7 i) c4 (eW Y) (hm.B7 i _ hx) (by show C5 (C5 R 2 (o.length:Int)) 2 1 1+40=_;rw[kW];omega) Y (Rn.Bd ?_);exact q1 _ _ hx ((BN _ _ AC).trans kW) (BZ _ _ _)
 ·rw[I Y];exact Rn.jz c3 (D8 _ _ _) (q2 Y _)
omit hb hn hm in
theorem Rn.Aav (h:D1 Ab (rz ab (Ku Ac p)) p) (q:∀R',R' 1=0->Rn Ac Ab (k+1) ⟨p+1,⟨R',m⟩⟩ Q):Rn Ac Ab k ⟨p,⟨R,m⟩⟩ Q:=by
 unfold Ku rz at h;simp only[d8,LI.AW,A9] at h;exact Rn.Sq h.1 (ED _ _) (q _ (BZ _ _ _))
omit hb hn hm in
theorem Rn.AcT {i:Nat} (h:D1 Ab (rz ab (Ku Ac p)) p) (h1:R 1=i) (hi:i<=8) (q:∀R',R' 1=((i+1:Nat):Int)->Rn Ac Ab (k+2) ⟨p+1,⟨R',m⟩⟩ Q):Rn Ac Ab k ⟨p+6,⟨R,m⟩⟩ Q:=by
 unfold Ku rz at h;simp only[d8,LI.AW,A9] at h;obtain⟨_,_,_,_,_,_,c6,c7,_⟩:=h;refine Rn.op c6 (u:=i) h1 (ED _ _) ((L4 _ _).trans (by rw[Fu Y Y])) ?_;exact Rn.Gb c7 (q _ ((BZ _ _ _).trans Y))
end
inductive Ph where
 | node
 | Pm
 | JF (c:Nat)
 | JE (c:Nat) (lv:Int)
 | JS (c:Nat) (lv x:Int)
 | SS (c:Nat)
 | QY (c:Nat) (lv:Int)
 | xa
 | lo (c:Nat)
 | pu (c:Nat)
 | fr (c:Nat)
 | te (i:Nat)
 | ba (c:Nat)
structure Gt where
 ph:Ph
 q0:KS
 q:KS
 rd:Nat->Option Int
 Bp:Nat->Option Int
 rv:Int
 wv:Int
def GP:Nat->Option Int:=fun _=>none
def Gt.B (g:Gt):Bc:=⟨g.q0.L,g.rv⟩
def N6 (q:KS):KS:=match q.s with
 | .atomic b s=>⟨b,.Au b s q.k,q.L,q.R,GP,[]⟩
 | _=>q
def Fl (q0 q:KS):KS:=match q0.s with
 | .atomic _ s=>⟨s,q0.k,q.L,q.R,GP,[]⟩
 | _=>q0
def EV (q:KS):Gt:=⟨match q.s with | .atomic .. => .Pm | _=> .node,q,q,GP,GP,0,0⟩
structure Cx where
 Ac:Int
 n:Nat
 Ab:List GI
 cells:Int
structure Ny (x:Cx):Prop where
 hb:Bs x.Ac
 hn:x.n=x.cells.toNat
 h6:x.cells<=6
theorem Ny.n6 {x:Cx} (h:Ny x):x.n<=6:=by have:=h.hn;have:=h.h6;omega
def KK.Ml:KK->Option (Bt×Bt×KK)
 | .done=>none
 | .rest _ k=>k.Ml
 | .loop _ _ k=>k.Ml
 | .Au b s k=>some (b,s,k)
theorem Xb (h:k.Ml=some (b,s,k0)):k0.Aj<=k.Aj:=by
 induction k with
 | done=>cases h
 | rest s k ih=>exact ih h
 | loop b s k ih=>exact Qdu (ih h)
 | Au b s k=>cases h;exact LE _
theorem Vm (h:k.Ml=some (b,s,k0)):k.IS=true:=by
 induction k with
 | done=>cases h
 | rest s k ih=>exact ih h
 | loop b s k ih=>exact ih h
 | Au b s k=>rfl
structure UY (x:Cx) (g:Gt) (b s:Bt):Prop where
 wj:g.q0.s= .atomic b s
 nb:g.q0.k.IS=false
 wf:pO x.cells g.q0.R (.rest g.q0.s g.q0.k)
 bo:g.q.k.Ml=some (b,s,g.q0.k)
 rp:∀d,d < g.q0.k.Aj->g.q.R d=g.q0.R d
structure wV (x:Cx) (g:Gt) (m:Du) (b s:Bt) (ab c p0:Nat) (v:Int) (r:Bt):Prop where
 Au:UY x g b s
 mt:Mt x.n x.cells g.B g.rd g.Bp g.q m
 Bp:g.Bp=GP
 stm:∃f z a,g.q.s= .get v f z a r/\0<=FZ g.q.L a/\FZ g.q.L a < z/\(c:Int)=f+FZ g.q.L a
 BW:g.q.BW c=none
 NX:Aa1 x.Ac x.n x.Ab ab c p0 v r g.q.k
structure JI (x:Cx) (g:Gt) (m:Du) (b s:Bt) (ab p:Nat):Prop where
 Au:UY x g b s
 mt:Mt x.n x.cells g.B g.rd g.Bp g.q m
 s0:g.q.s= .nil
 k0:g.q.k= .Au b s g.q0.k
 NX:NP x.Ac x.n x.Ab ab (.Au b s g.q0.k) p
def SR (g:Gt) (n c:Nat):Prop:=∀d,d < n->(g.Bp d).isSome=(decide (d < c) && (g.q.BW d).isSome)
def F3 (n p:Nat) (b:Bt):Nat:=p+if Cr b then 37*n+3 else 0
def Sw (x:Cx) (g:Gt) (lt:LT):Prop:=match g.ph with
 | .node=>(∃ab B rd Bp,b8 x.Ac x.n x.Ab x.cells B rd Bp ab g.q lt)/\(g.q.k.IS=true->Eo g.q≠none/\∃b s,UY x g b s)/\(g.q.k.IS=false->g.q0=g.q/\∀b s,g.q.s≠ .atomic b s)/\g.Bp=GP
 | .Pm=>∃b s ab,g.q0.s= .atomic b s/\g.q0.k.IS=false/\pO x.cells g.q0.R (.rest g.q0.s g.q0.k)/\wY x.Ac x.n x.Ab ab b s g.q0.k lt/\(∀i,i < 4->lt.x.m.AR i=g.q0.L i)/\(∀d,d < g.q0.k.Aj->lt.x.m.YK d=g.q0.R d)/\g.Bp=GP/\g.rd=GP
 | .JF c=>∃b s ab p0 v r,wV x g lt.x.m b s ab c p0 v r/\lt.pc=p0+4/\lt.x.R 0=c
 | .JE c lv=>(∃b s ab p0 v r,wV x g lt.x.m b s ab c p0 v r/\lt.pc=p0+13/\lt.x.R 0=c/\lt.x.R 2=lv)/\∃w,lv=2*w/\0<=w/\w<=g.rv
 | .JS c lv y=>(∃b s ab p0 v r,wV x g lt.x.m b s ab c p0 v r/\lt.pc=p0+14/\lt.x.R 0=c/\lt.x.R 2=lv/\lt.x.R 1=y)/\∃w,lv=2*w/\0<=w/\w<=g.rv
 | .SS c=>c < x.n/\(g.q.BW c).isSome=true/\SR g x.n c/\∃b s ab p,JI x g lt.x.m b s ab p/\Cr b=true/\lt.pc=p+16*c+2
 | .QY c lv=>c < x.n/\(g.q.BW c).isSome=true/\SR g x.n c/\(∃w,lv=2*w/\0<=w/\w<=g.rv)/\∃b s ab p,JI x g lt.x.m b s ab p/\Cr b=true/\lt.pc=p+16*c+12/\lt.x.R 2=lv/\lt.x.R 3=lv+1
 | .xa=>SR g x.n x.n/\∃b s ab p,JI x g lt.x.m b s ab p/\Cr b=true/\lt.pc=p+16*x.n
 | .lo c=>c < x.n/\(g.rd c).isSome=true/\(g.Bp c).isSome=false/\SR g x.n x.n/\∃b s ab p,JI x g lt.x.m b s ab p/\Cr b=true/\lt.pc=p+16*x.n+3+14*c+5/\lt.x.R 5=2*g.wv
 | .pu c=>c < x.n/\(g.q.BW c).isSome=true/\SR g x.n x.n/\∃b s ab p,JI x g lt.x.m b s ab p/\Cr b=true/\lt.pc=p+30*x.n+3+4*c+3/\lt.x.R 5=2*g.wv/\g.q.BW c=some (lt.x.R 2)
 | .fr c=>c < x.n/\(g.q.BW c).isSome=true/\SR g x.n x.n/\∃b s ab p,JI x g lt.x.m b s ab p/\Cr b=true/\lt.pc=p+34*x.n+3+3*c+2/\lt.x.R 5=2*g.wv
 | .te i=>∃b s ab p,JI x g lt.x.m b s ab p/\lt.pc=F3 x.n p b+5/\lt.x.R 1=i/\g.q.o[i]?=some (lt.x.R 2)
 | .ba c=>c < x.n/\g.Bp c=some (lt.x.R 2)/\∃(b s:Bt) (ab z Dw:Nat),UY x g b s/\Mt x.n x.cells g.B g.rd g.Bp g.q lt.x.m/\D1 x.Ab (rz z (FD x.Ac x.n Dw ab)) ab/\D1 x.Ab (rz ab (JO x.Ac x.n Dw)) Dw/\
   NP x.Ac x.n x.Ab ab (.rest b (.Au b s g.q0.k)) (Dw+(JO x.Ac x.n Dw).length)/\lt.pc=ab+4*c+3
def KB (x:Cx) (g:Gt):Nat:=
 let X:=EH (Fl g.q0 g.q)
 let T:=X+5+7*g.q.o.length
 let F:=T+3*x.n+2
 let P:=F+4*x.n+3
 let A:=P+14*x.n+7
 match g.ph with
 | .node=>EH g.q - KZ g.q.s
 | .Pm=>EH g.q0 - 27
 | .JF _=>EH g.q - 9
 | .JE .. =>EH g.q - 18
 | .JS .. =>EH g.q - 19
 | .SS c=>A+16*(x.n - c)
 | .QY c _=>A+16*(x.n - c) - 10
 | .xa=>A
 | .lo c=>P+14*(x.n - c)
 | .pu c=>F+4*(x.n - c)
 | .fr c=>T+3*(x.n - c)
 | .te i=>X+7*(g.q.o.length - i)
 | .ba c=>EH g.q0+4*(x.n - c)
theorem yM (h:Xy rd q=some r):r.k.IS=q.k.IS:=by
 unfold Xy at h;split at h
 ·split at h
  ·rename_i hk;cases h;rw[hk];rfl
  ·rename_i hk;split at h
   ·cases h;rw[hk];rfl
   ·cases h;rfl
  ·cases h
 ·simp only[Qam] at h;obtain⟨_,_,rfl⟩:=h;rfl
 ·split at h
  ·cases h
  ·simp only[Qam] at h;obtain⟨_,_,rfl⟩:=h;rfl
 ·split at h
  ·cases h
  ·cases h;rfl
 ·split at h
  ·cases h;rfl
  ·cases h
 ·cases h;split <;>rfl
 ·cases h;rfl
 ·cases h
theorem Sh.IS (h:Sh rd q r):r.k.IS=q.k.IS:=by
 induction h with
 | nil q=>rfl
 | cons h _ ih=>exact ih.trans (yM h)
theorem yN (hb:q.k.Ml=some (b,s,k0)) (h:Xy rd q=some r):r.k.Ml=some (b,s,k0)/\∀d,d < k0.Aj->r.R d=q.R d:=by
 unfold Xy at h;split at h
 ·split at h
  ·rename_i hk;cases h;rw[hk] at hb;exact⟨hb,fun _ _=>rfl⟩
  ·rename_i b' s' k' hk;rw[hk] at hb;have hR:∀(v:Int) (d:Nat),d < k0.Aj->C5 q.R k'.Aj v d=q.R d:=fun v d h=>BN _ _ (Qbf (Qaq h (Xb (k:=k') hb)))
   split at h
   ·cases h;exact⟨hb,hR _⟩
   ·cases h;exact⟨by show q.k.Ml=_;rw[hk];exact hb,hR _⟩
  ·cases h
 ·exact naD
 ·split at h
  ·cases h
  ·exact naD
 ·split at h
  ·cases h
  ·cases h;exact⟨hb,fun _ _=>rfl⟩
 ·split at h
  ·cases h;exact⟨hb,fun _ _=>rfl⟩
  ·cases h
 ·cases h;exact⟨by split <;>exact hb,fun _ _=>by split <;>rfl⟩
 ·cases h;exact⟨hb,fun d h=>BN _ _ (Qbf (Qaq h (Xb hb)))⟩
 ·cases h
theorem Sh.Au (h:Sh rd q r) {b s:Bt} {k0:KK} (hb:q.k.Ml=some (b,s,k0)):r.k.Ml=some (b,s,k0)/\∀d,d < k0.Aj->r.R d=q.R d:=by
 induction h with
 | nil q=>exact⟨hb,fun _ _=>rfl⟩
 | cons h _ ih=>
  obtain⟨h1,h2⟩:=yN hb h;obtain⟨h3,h4⟩:=ih h1;exact⟨h3,fun d hd=>(h4 d hd).trans (h2 d hd)⟩
theorem ax:∀{k:KK} {p:Nat},NP Ac n Ab ab k p->k.Ml=some (b,s,k0)->∃p',NP Ac n Ab ab (.Au b s k0) p'
 | .done,_,_,h=>by cases h
 | .rest s k,p,hp,h=>ax (k:=k) hp.2 h
 | .loop _ _ k,p,⟨_,_,_,_,_,hp⟩,h=>ax (k:=k) hp h
 | .Au _ _ _,p,hp,h=>by cases h;exact⟨p,hp⟩
section
def Aem (g:Gt):Gt:=⟨.Pm,g.q0,g.q0,GP,GP,0,0⟩
inductive Ls (g:Gt) (i:Nat):Gt->Prop
 | te (h:i < g.q.o.length):Ls g i {g with ph:= .te i}
 | out (q':KS) (h:i=g.q.o.length) (k:Sh GP (Fl g.q0 g.q) q'):Ls g i (EV q')
inductive Mq (n:Nat) (g:Gt) (c:Nat):Gt->Prop
 | fr (c':Nat) (h1:c<=c') (h2:c' < n) (h3:(g.q.BW c').isSome=true) (h4:∀d,c<=d->d < c'->(g.q.BW d).isSome=false):Mq n g c {g with ph:= .fr c'}
 | stop (g':Gt) (h:∀d,c<=d->d < n->(g.q.BW d).isSome=false) (k:Ls g 0 g'):Mq n g c g'
inductive Tw (n:Nat) (g:Gt) (c:Nat):Gt->Prop
 | pu (c':Nat) (h1:c<=c') (h2:c' < n) (h3:(g.q.BW c').isSome=true) (h4:∀d,c<=d->d < c'->(g.q.BW d).isSome=false):Tw n g c {g with ph:= .pu c'}
 | stop (g':Gt) (h:∀d,c<=d->d < n->(g.q.BW d).isSome=false) (k:Mq n g 0 g'):Tw n g c g'
inductive Lt (n:Nat) (g:Gt) (c:Nat):Gt->Prop
 | lo (c':Nat) (h1:c<=c') (h2:c' < n) (h3:((g.rd c').isSome && !(g.Bp c').isSome)=true) (h4:∀d,c<=d->d < c'->((g.rd d).isSome && !(g.Bp d).isSome)=false):Lt n g c {g with ph:= .lo c'}
 | stop (g':Gt) (h:∀d,c<=d->d < n->((g.rd d).isSome && !(g.Bp d).isSome)=false) (k:Tw n g 0 g'):Lt n g c g'
inductive Mp (n:Nat) (g:Gt) (c:Nat):Gt->Prop
 | lk (c':Nat) (h1:c<=c') (h2:c' < n) (h3:(g.q.BW c').isSome=true) (h4:∀d,c<=d->d < c'->(g.q.BW d).isSome=false):Mp n g c {g with ph:= .SS c'}
 | xa (h:∀d,c<=d->d < n->(g.q.BW d).isSome=false):Mp n g c {g with ph:= .xa}
inductive GB (n:Nat) (g:Gt) (c:Nat):Gt->Prop
 | ba (c':Nat) (h1:c<=c') (h2:c' < n) (h3:(g.Bp c').isSome=true) (h4:∀d,c<=d->d < c'->(g.Bp d).isSome=false):GB n g c {g with ph:= .ba c'}
 | Pm (h:∀d,c<=d->d < n->(g.Bp d).isSome=false):GB n g c (Aem g)
inductive jK (n:Nat) (b:Bt) (g:Gt):Gt->Prop
 | EF (q':KS) (k:Sh GP g.q q') (h:Eo q'≠none):jK n b g {g with ph:= .node,q:=q'}
 | get (q':KS) (c:Nat) (k:Sh GP g.q q'):jK n b g {g with ph:= .JF c,q:=q'}
 | UA (q' g':_) (k:Sh GP g.q q') (hs:q'.s= .nil/\∃b s k,q'.k= .Au b s k) (hp:Cr b=true) (h:Mp n {g with q:=q'} 0 g'):jK n b g g'
 | GD (q' g':_) (k:Sh GP g.q q') (hs:q'.s= .nil/\∃b s k,q'.k= .Au b s k) (hp:Cr b=false) (h:Ls {g with q:=q'} 0 g'):jK n b g g'
def Lq (x:Cx) (P:Nat->Gt->Prop):Nat->LT->Prop:=fun j lt=>∃g',Sw x g' lt/\P j g'
theorem Rn.Ac0 {k j:Nat} {s t:LT} {Q:Nat->LT->Prop} (h:Gh Ac Ab j s t) (r:Rn Ac Ab (k+j) t Q):Rn Ac Ab k s Q:=by
 obtain⟨i,u,h2,h3⟩:=r;exact⟨j+i,u,h.trans h2,by rwa[<-d7]⟩
theorem V2 (q:KS):KZ q.s<=EH q:=by
 unfold EH;cases q.s <;>simp only[KZ,Sp,B9] <;>omega
variable {x:Cx} {P:Nat->Gt->Prop} {k:Nat}
theorem Rn.outside (hx:Ny x) {q:KS} {lt:LT} {ab:Nat} {B:Bc} {rd Bp:Nat->Option Int} (hp:NP x.Ac x.n x.Ab ab (.rest q.s q.k) lt.pc) (hi:q.k.IS=false) (hm:Mt x.n x.cells B rd Bp q lt.x.m)
  (h:∀q' j,Sh GP q q'->j+KB x (EV q')<=EH q->P (k+j) (EV q')):Rn x.Ac x.Ab k lt (Lq x P):=by
 obtain⟨j,lt',q',hr,hk,hs,hle⟩:=YU hx.hb hx.hn hx.h6 (EH q) (LE _) hp hm;refine Rn.Ac0 hr (Rn.Bd ?_);have XZ:q'.k.IS=false:=hk.IS.trans hi;have key:(∀b s,q'.s≠ .atomic b s)->Lq x P (k+j) lt':=fun Bi=>by
  have e:EV q'=⟨.node,q',q',GP,GP,0,0⟩:=by
   unfold EV;split
   ·rename_i b s he;exact UV he (Bi b s)
   ·rfl
  refine⟨EV q',?_,h q' j hk ?_⟩
  ·rw[e];exact⟨⟨_,_,_,_,hs⟩,fun hb=>UV (XZ.symm.trans hb) AC,fun _=>⟨rfl,Bi⟩,rfl⟩
  ·rw[e];show j+(EH q' - KZ q'.s)<=EH q;have:=V2 q';omega
 cases hs with
 | halt hs hk hc=>exact key (by rw[hs];exact fun _ _ h=>by cases h)
 | out _ hs _ _ _ _=>exact key (by rw[hs];exact fun _ _ h=>by cases h)
 | EF ht _ _=>exact key fun b s he=>by unfold Eo at ht;rw[he] at ht;cases ht
 | get _ hk _ _ _ _ _ _ _=>rw[XZ] at hk;cases hk
 | FB _ hk _ _=>rw[hk] at XZ;cases XZ
 | Pm hs LH hc hL hR hw=>
  rename_i b r ab';have e:EV q'=⟨.Pm,q',q',GP,GP,0,0⟩:=by unfold EV;rw[hs]
  refine⟨EV q',?_,h q' j hk ?_⟩
  ·rw[e];exact⟨b,r,ab',hs,XZ,hw,hc,hL,hR,rfl,rfl⟩
  ·rw[e];show j+(EH q' - 27)<=EH q;have:=V2 q';rw[hs] at hle this;simp only[KZ] at hle this;omega
theorem wD {g:Gt} (hc:JI x g m b s ab p):Fl g.q0 g.q=⟨s,g.q0.k,g.q.L,g.q.R,GP,[]⟩:=by unfold Fl;rw[hc.Au.wj]
theorem Rn.after (hx:Ny x) {g:Gt} {m:Du} {b s:Bt} {ab p pe:Nat} {R:Nat->Int} {z:Nat} (hc:JI x g m b s ab p) (h1:D1 x.Ab (rz z (Gx x.Ac x.n false g.q0.k.Aj pe s)) pe) (h2:NP x.Ac x.n x.Ab z g.q0.k (pe+(Gx x.Ac x.n false g.q0.k.Aj pe s).length))
  (h:∀q' j,Sh GP (Fl g.q0 g.q) q'->j+KB x (EV q')<=EH (Fl g.q0 g.q)->P (k+j) (EV q')):Rn x.Ac x.Ab k ⟨pe,⟨R,m⟩⟩ (Lq x P):=by
 have e:=wD hc;have hw:=hc.mt.wf;rw[hc.s0,hc.k0] at hw;obtain⟨_,_,_,Ot,XA⟩:=hw;refine Rn.outside (q:=Fl g.q0 g.q) (ab:=z) (B:=g.B) (rd:=GP) (Bp:=GP) hx ?_ ?_ ?_ h
 ·rw[e];exact⟨by rw[hc.Au.nb];exact h1,by rw[hc.Au.nb];exact h2⟩
 ·rw[e];exact hc.Au.nb
 ·rw[e];refine⟨hc.mt.L,fun d hd=>hc.mt.R d (by rw[hc.k0];exact hd),⟨by rw[hc.Au.nb];exact Ot,XA⟩,fun hb=> ?_⟩;have:g.q0.k.IS=true:=hb;rw[hc.Au.nb] at this;cases this
theorem Rn.Z3 (hx:Ny x) {g:Gt} {m:Du} {b s:Bt} {ab p i:Nat} {R:Nat->Int} (hc:JI x g m b s ab p) (hi:i<=g.q.o.length) (h1:R 1=i)
  (h:∀j g',Ls g i g'->j+KB x g'<=EH (Fl g.q0 g.q)+4+7*(g.q.o.length - i)->P (k+j) g'):Rn x.Ac x.Ab k ⟨F3 x.n p b+1,⟨R,m⟩⟩ (Lq x P):=by
 obtain⟨Vf,z,Dw,pe,e1,e2,e3,e4,e5,e6,e7,e8⟩:=hc.NX;have Km:=hc.mt.bi (by rw[hc.k0];rfl);have ht:D1 x.Ab (rz ab (Ku x.Ac (F3 x.n p b))) (F3 x.n p b):=by
  exact nag
 have hel:ab=F3 x.n p b+8+1:=by
  rw[e3];unfold ON F3;rw[V];split
  ·rw[Ge];show _+(_+8)+1=_;omega
  ·show _+(0+8)+1=_;omega
 refine Rn.AcS hx.hb Km.1 ht i hi (by have:=Km.2;omega) h1 (fun y R' ho kW WS=> ?_) fun he R'=> ?_
 ·have AX:=(d9.1 ho).1;exact⟨{g with ph:= .te i},⟨b,s,ab,p,⟨⟨hc.Au.wj,hc.Au.nb,hc.Au.wf,hc.Au.bo,hc.Au.rp⟩,hc.mt,hc.s0,hc.k0,hc.NX⟩,rfl,kW,by show g.q.o[i]?=some (R' 2);rw[WS];exact ho⟩,h 4 _ (.te AX) (by show 4+(EH (Fl g.q0 g.q)+7*(g.q.o.length - i))<=_;omega)⟩
 ·have e5':x.Ab[F3 x.n p b+8]?=some (.Gb pe):=by rw[show F3 x.n p b+8=ab - 1 by omega];exact e5
  refine Rn.Gb e5' (Rn.after hx hc e7 e8 fun q' j hk hle=> ?_);rw[d7,d7];exact h (3+(1+j)) _ (.out q' he hk) Y
end
end Go.Proofs.YtpdfifdlhpmofaaGreatDoor
