/- Part 4 of the proof. -/
import Derived.Test.YtpdfifdlhpmofaaGreatDoorC03
set_option linter.unusedVariables false
set_option linter.unusedSimpArgs false
set_option maxHeartbeats 0
set_option maxRecDepth 99999
namespace Go.Proofs.YtpdfifdlhpmofaaGreatDoor
open Go.RowKit Tryz
open Value renaming slice->m9,string->qA,bool->qB,tuple->qC,agg->qD,pointer->qE
open Ending renaming returned->qF
open Obj renaming cells->qG
open Option renaming none->Z,some->U
open Bool renaming true->V,false->I
open Go.Lib renaming hid->D
open List renaming length->J
variable {p:Prop}
theorem maD (h:p:=by
 intro d p c os is_ n m hw h hd h3 hi hm;obtain⟨o,i1,i2,i3⟩:=ih d (p+1) c os is_ n m hw.2.2.2.2 h hd h3 hi hm;refine⟨o,i1,i2,?_⟩<;>grind [Ca,Nd.of,Ez.step]):p:=h
theorem maJ (h:p:=by
 obtain⟨i1,i2⟩:=ih d (p+1) _ BY os is_ n m hw.2.2.2.2 (h.same hs.1 hs.2) hd h3;exact⟨⟨h.cb,by simp[Nd.of],i1⟩,i2⟩):p:=h
theorem maQ (h:p:=by
 have Hpb:=D Mn;clear Mn;go_wp2_with fail
 go_round
 case rel=>(try rw[inc]);exact⟨k+1,r,rfl,Y,uB.out▸H5.out,by rw[Z6.out];simp[BU,Hpb.out],Y⟩
 case measure=>(try rw[inc]);simp[intOf];omega):p:=h
theorem ma6 (h:p:=by
 by_cases h1:Cg (bs a)<;>by_cases h2:Dt (bs b)<;>by_cases h3:0<=Be Dc c<;>by_cases h4:Dt (bs d)<;>simp[h1,h2,h3,h4,D5,Ct,Dn,Cu,MN,EU,O1,FA,Kb,RW]):p:=h
theorem mbf (h:p:=by
 go_wp2_with fail;refine(EY _ xb r _ Ae H).mono ?_;rintro e w1 ⟨⟨fb,rfl,hb⟩,hm⟩;go_wp2;exact⟨rfl,⟨fb,rfl,hb⟩,hm.nil⟩):p:=h
theorem mbh (h:p:=by
 rintro e w1 ⟨rfl,c,Aw⟩;go_wp2_with fail
 go_end0
 exact⟨rfl,c,(Ai.quiet H (((Az.refl _ _).alloc _).alloc _)).trans Aw⟩):p:=h
theorem mbj (h:p:=by
 obtain⟨q,m1,m2,m3,m4,m5⟩:=hm;exact⟨vy.2,q,_,m1,m2,m3,m4,m5,.inl ⟨_,⟨λd p=>rfl,rfl,by simp[Nd.of]⟩,rfl⟩⟩):p:=h
theorem mbq (h:p:=by
 simp only[Ez.mk.injEq,true_and,and_true];constructor<;>omega):p:=h
theorem mbs (h:p:=by
 rw[tN,<-Hge.out];show _=[_,_,_];simp only[MG.Ay,GS.Ba,DR,Ju,QI,QY]):p:=h
theorem mbx (h:p:=by
 exact⟨x,_,_,rfl,h,rfl,rfl,rfl,.inr ⟨_,rfl,rfl⟩⟩):p:=h
theorem mbz (h:p:=by
 have:(i-48+1)*P<=(j-48)*P:=Qq _ Y;rw[m8] at this;omega):p:=h
theorem mbA (h:p:=by
 have:(j-48+1)*P<=(i-48)*P:=Qq _ Y;rw[m8] at this;omega):p:=h
theorem mbM (h:p:=by
 unfold Fk at h;split at h
 .cases h
 .rename_i hw;have:=Fi h;subst this;exact LJ hw):p:=h
variable {s k:By} {α:Type} {x y:qH} {r q R:RS} {ts:List Bj} {t:Bj} {l:Ws} {m b v:Int} {w w' w1:World} {a:ByteArray} {c:Ez} {n mb:Nat} {os is_:List Int} {L L':List Ob} {F E:List (Nat×Obj)} {o:Obj} {vs us ws:List Value} {ls ms:List Ii} {sl:Value}
theorem cP (h:Cg s=V):0<J s:=by
 grind [Cg]
theorem UR (h:Cg s=V):number s=Z:=by
 have hp:=cP h;cases s<;>grind [low,Cg,UInt8.le_iff_toNat_le,number,ED]
def DK (s:ByteArray):Wd:=if Cg (bs s) then ⟨s,0⟩ else ⟨⟨#[]⟩,(number (bs s)).getD 0⟩
theorem Ct (a:ByteArray) (r:Ws):ES (a::r)=if Dt (bs a) then U (DK a,r) else Z:=by
 grind [ES,DK,Dt]
theorem D5:ES []=Z:=rfl
theorem EU (a:ByteArray) (r:Ws):cN (a::r)=if Cg (bs a) then U (a,r) else Z:=rfl
theorem MN:cN []=Z:=rfl
theorem O1:atF []=U (.zero,[]):=rfl
theorem FA (a:ByteArray) (r:Ws):atF (a::r)=if bs a=kAt then ES r else U (.zero,a::r):=rfl
theorem Aak {s:ByteArray} (h:Cg (bs s)=V):¬s.size=0:=by
 have:=cP h;rw[Br] at this;omega
theorem Kb (m:Int) (a:ByteArray) (r:Ws):Il m (a::r)=if GC (bs a) m then U ((number (bs a)).getD 0,r) else Z:=by
 grind [Il,Ct,Dt,DK,GC,UR,ByteArray.size]
theorem RW (m:Int):Il m []=Z:=rfl
theorem Iy (a:ByteArray) (l:Ws):wd (a::l) 0=a:=rfl
theorem Ka (a:ByteArray) (l:Ws) (k:Nat):wd (a::l) (k+1)=wd l k:=by simp[wd]
theorem Dn (x:α):GM x []=U x:=rfl
theorem Cu (x:α) (a:ByteArray) (l:Ws):GM x (a::l)=Z:=rfl
theorem Yb (l:Ws):l=[]\/(∃a,l=[a])\/(∃a b,l=[a,b])\/(∃a b c,l=[a,b,c])\/(∃a b c d,l=[a,b,c,d])\/∃a b c d e r,l=a::b::c::d::e::r:=by
 rcases l with _|⟨a,_|⟨b,_|⟨c,_|⟨d,_|⟨e,r⟩⟩⟩⟩⟩<;>grind
theorem cE (w:ByteArray) (l:Ws) (hw:bs w=Fw):Kd l=if Bv (w::l) then
  U (.set (wd l 0) (DK (wd l 1)) (if J l=4 then wd B4 (Be Dc (wd l 2)).toNat else ⟨#[]⟩) (if J l=4 then DK (wd l 3) else .zero)) else Z:=by
 rcases Yb l with rfl|⟨a,rfl⟩|⟨a,b,rfl⟩|⟨a,b,c,rfl⟩|⟨a,b,c,d,rfl⟩|⟨a,b,c,d,e,r,rfl⟩<;>
  simp[Bv,Fv,Iy,Ka,hw,Fw,AR,AE,EK,A8,Kd,Ct,D5,EU,MN,vF,Dn,Cu]
 grind [D5];grind [Ct]
 .by_cases h1:Cg (bs a)<;>by_cases h2:Dt (bs b)<;>by_cases h3:0<=Be Dc c<;>simp[h1,h2,h3,D5,Ct,Dn,Cu,MN,EU,O1,FA,Kb,RW]
 .exact ma6
 .exact ma6
theorem cG (w:ByteArray) (l:Ws) (hw:bs w=DQ):LY l=if Bv (w::l) then
  U (.get (wd l 0) (wd l 1) (if J l=4 then DK (wd l 3) else .zero)) else Z:=by
 rcases Yb l with rfl|⟨a,rfl⟩|⟨a,b,rfl⟩|⟨a,b,c,rfl⟩|⟨a,b,c,d,rfl⟩|⟨a,b,c,d,e,r,rfl⟩<;>
  simp[Bv,Fv,Iy,Ka,hw,DQ,Fw,AR,AE,EK,A8,LY,Ct,D5,EU,MN,O1,FA,Dn,Cu]
 grind [MN];grind [Dn,EU,O1];grind [D5,Cu,EU,FA];grind [Ct,Dn,Cu,EU,FA];grind [Ct,Cu,EU,FA]
theorem cF (w:ByteArray) (l:Ws) (hw:bs w=EF):LW l=if Bv (w::l) then
  U (.put (wd l 0) (DK (wd l 1)) (if J l=4 then DK (wd l 3) else .zero)) else Z:=by
 rcases Yb l with rfl|⟨a,rfl⟩|⟨a,b,rfl⟩|⟨a,b,c,rfl⟩|⟨a,b,c,d,rfl⟩|⟨a,b,c,d,e,r,rfl⟩<;>
  simp[Bv,Fv,Iy,Ka,hw,EF,DQ,Fw,AR,AE,EK,A8,LW,Ct,D5,EU,MN,O1,FA,Dn,Cu]
 grind [D5];grind [Ct,Dn,O1];grind [D5,Ct,Cu,FA];grind [Ct,Dn,Cu,FA];grind [Ct,Cu,FA]
theorem Tw (f:Wd->Vw) (w:ByteArray) (l:Ws) (hw:bs w=Iz\/bs w=Uj):Fk f l=if Bv (w::l) then U (f (DK (wd l 0))) else Z:=by
 rcases hw with hw|hw<;>rcases l with _|⟨a,_|⟨b,r⟩⟩<;>
  simp[Bv,Fv,Iy,Ka,hw,Iz,Uj,EF,DQ,Fw,AR,AE,EK,A8,Fk,Ct,D5,Dn,Cu]
 all_goals by_cases h1:Dt (bs a)<;>simp[h1,D5,Dn,Cu]
theorem YJ (w:ByteArray) (l:Ws) (hw:bs w=EW):Lk l=if Bv (w::l) then U (.loop ((number (bs (wd l 0))).getD 0)) else Z:=by
 rcases l with _|⟨a,_|⟨b,r⟩⟩<;>
  simp[Bv,Fv,Iy,Ka,hw,EW,Iz,Uj,EF,DQ,Fw,AR,AE,EK,A8,Lk,Kb,RW,Dn,Cu]
 all_goals by_cases h1:GC (bs a) 4<;>simp[h1,D5,Dn,Cu]
theorem ep (w:ByteArray) (l:Ws) (hw:bs w=A8):GM Vw.atomic l=if Bv (w::l) then U .atomic else Z:=by
 rcases l with _|⟨a,r⟩<;>simp[Bv,Fv,Iy,hw,AR,AE,EK,A8,Dn,Cu]
theorem vt (w:ByteArray) (l:Ws) (h1:¬bs w=AR) (h2:¬bs w=AE) (h3:¬bs w=EK) (h:Bv (w::l)=I):IF w l=Z:=by
 grind [IF,cE,cG,cF,Tw,ep,YJ]
theorem Ze (w:ByteArray) (l:Ws) (h1:¬bs w=AR) (h2:¬bs w=AE) (h3:¬bs w=EK) (h:Bv (w::l)=V):
  bs w=Fw\/bs w=DQ\/bs w=EF\/bs w=Iz\/bs w=A8\/bs w=Uj\/bs w=EW:=by
 grind [Bv,Fv,Iy]
theorem iW (x:qH) (w:ByteArray) (r:Ws):x.row (w::r)=if bs w=AR then x.Ec r
  else if bs w=AE then
   if r≠[] then .error 2 else if x.Ad≠[] then .error 3
   else .ok {x with Aa:=x.Aa++[.nil],AA:=[],Ah:=0,Ad:=[]}
  else if bs w=EK then
   if r≠[] then .error 2 else match x.Ad.getLast? with
    |none=> .error 3
    |some f=> .ok ({x with Ad:=x.Ad.dropLast}.add f.done)
  else x.Bd w r:=rfl
theorem xJ (x:qH) (w:ByteArray) (l:Ws) (h:Bv (w::l)=I):x.row (w::l)=.error 2:=by
 rw[iW];by_cases h1:bs w=AR
 .rw[Jb h1];unfold qH.Ec;rcases l with _|⟨a,_|⟨b,_|⟨c,r⟩⟩⟩<;>simp[Bv,Fv,Iy,Ka,h1,AR] at h<;>simp[MN,EU,Kb]
  .simp[h]
  grind;grind
 grind [Bv,Fv,Iy,qH.Bd,vt]
theorem o7:ByteArray.size ⟨#[]⟩=0:=rfl
theorem Ol (h:r.AA=x.AA) {s:ByteArray} (hs:Dt (bs s)=V):
  x.Cz (DK s)=if (r.Cz s).2 then .ok (r.Cz s).1 else .error 4:=by
 grind [qH.Cz,RS.Cz,DK,UR,Aak,Dt,o7]
theorem eA (x:qH):x.Cz .zero=.ok .zero:=rfl
def eG (r q:RS):Prop:=q.Ax=r.Ax/\q.first=r.first/\q.size=r.size/\q.AA=r.AA/\q.Ad=r.Ad/\q.Ah=r.Ah/\q.p.Aa=r.p.Aa/\q.p.cells=r.p.cells
theorem Ms.same (h:Ms x r) (k:eG r q):Ms x q:=by
 obtain⟨k1,k2,k3,k4,k5,k6,k7,k8⟩:=k<;>grind [Ms]
def AdK (r:RS) (nd:Nd) (s:ByteArray) (w:Ws) (res:Except Int (Int×Int×At)):Prop:=match res with
 |.error c=>c=4/\(r.cell nd s w).2.2=I
 |.ok (f,z,a)=>(r.cell nd s w).2.2=V/\(r.cell nd s w).2.1={nd with first:=f,size:=z,AN:=a}/\eG r (r.cell nd s w).1
theorem Ade (h:Ms x r) (nd:Nd) (hz:nd.AN=.zero) (s:ByteArray) (w:Ws) (FE:J w=5->Dt (bs (wd w 4))=V):
  AdK r nd s w (x.cell s (if J w=5 then DK (wd w 4) else .zero)):=by
 unfold AdK qH.cell RS.cell;rw[h.cO];cases hf:x.Wj s with
 |none=>
  rw[Wi hf];simp
 |some sv=>
  obtain⟨i,h1,h2⟩:=Wh hf;rw[h2];have hi:¬((i:Int)<0):=Y
  have e1:r.first.getD i 0=sv.first:=by rw[h.first];grind
  have e2:r.size.getD i 0=sv.size:=by rw[h.size];grind
  simp only[hi,J1,JW,e1,e2];by_cases h5:J w=5
  .simp only[h5,Qh];rw[Ol (r:=r.GN sv.first) h.AA AC];by_cases ha:((r.GN sv.first).Cz (wd w 4)).2
   .simp only[ha,Qh];exact⟨trivial,trivial,⟨rfl,rfl,rfl,rfl,rfl,rfl,rfl,rfl⟩⟩
   grind
  .simp only[h5,J1,eA];exact⟨trivial,by rw[<-hz],⟨rfl,rfl,rfl,rfl,rfl,rfl,rfl,rfl⟩⟩
theorem Y9 (h:Ms x r) (nd:Nd) (n:ByteArray):
  match x.Df n with
  |.error c=>r.Ml nd n=.error c
  |.ok (v,y)=>∃q,r.Ml nd n=.ok (q,{nd with v:=v})/\Ms y q/\y.Aa=x.Aa/\y.Ad=x.Ad/\y.Ah=x.Ah:=by
 unfold qH.Df RS.Ml;rw[h.cO,h.AA];cases hf:x.Wj n with
 |some sv=>
  grind [Wh]
 |none=>
  rw[Wi hf];simp only[Qt,Qb,J1,show¬(0:Int)<= -1 by omega];by_cases hp:0<=Be x.AA n;grind
  .simp only[hp,J1];by_cases h4:J x.AA=4;grind
   .simp only[h4,J1];grind [Ms]
def AmZ (f:Bj->Bj) (nd:Nd):Prop:=(∀d p,Ca (f .nil) d p=[nd])/\Di (f .nil)=1/\¬(nd.kind=122\/nd.kind=108\/nd.kind=40)
theorem Vs (h:x.Aa=ts++[t]) (s:Bj->Bj):
  ∃t',(x.add s).Aa=ts++[t']/\Ca t' 0 0++Gz (x.add s).Ad 0 (Di t')=(Ca t 0 0++Gz x.Ad 0 (Di t))++Ca (s .nil) (J x.Ad) (Di t+NQ x.Ad)/\
   NL (x.add s).Ad (Di t')=NL x.Ad (Di t)/\(x.add s).Ad.map Fr.kind=x.Ad.map Fr.kind/\(x.add s).cells=x.cells/\(x.add s).Ax=x.Ax/\(x.add s).AA=x.AA/\(x.add s).Ah=x.Ah:=by
 rcases Jv x.Ad with h0|⟨fs,f,h0⟩;grind [qH.add,Gz,lP,NQ,NL]
 .rw[Jy] at h0;unfold qH.add;rw[h0];refine⟨t,?_,?_,?_,?_,?_,?_,?_,?_⟩
  .simp[h]
  .simp only[Qj,NE,QJ,PP,Wg,Gz,Jo,lP,Ji,Jx,Abj,NQ,GT,JN];grind
  grind [YP,NL]
  .simp
  .simp
  .simp
  .simp
  .simp
theorem Mx {ts:List (List Nd)} {l m:List Nd} (h:r.p.Aa=ts++[l]):(r.BA m).p.Aa=ts++[m]:=by
 grind [RS.BA]
theorem DB {ts:List (List Nd)} {l:List Nd} (h:r.p.Aa=ts++[l]):r.Dv=l:=by
 grind [RS.Dv]
theorem ur {s:Bj->Bj} (h:x.Aa=ts++[t]):(x.add s).Ad.length=J x.Ad:=by
 obtain⟨_,_,_,_,h4,_⟩:=Vs h s;have:=JM List.length h4;simpa using this
theorem uq (h:Ms x r) {ts:List Bj} {t:Bj} (ht:x.Aa=ts++[t]) (s:Bj->Bj) (l:List Nd)
  (hl:l=Ca (s .nil) (J x.Ad) (Di t+NQ x.Ad)):Ms (x.add s) (r.BA (r.Dv++l)):=by
 obtain⟨t',a1,a2,a3,a4,a5,a6,a7,a8⟩:=Vs ht s;rcases h.Aa with⟨h0,_⟩|⟨ts',u,b1,b2,b3⟩
 .rw[ht] at h0;simp at h0
 .rw[ht] at b1;obtain⟨rfl,hu⟩:=QH b1 rfl;cases hu;refine⟨h.cells.trans a5.symm,h.cO.trans (by rw[a6]),h.first.trans (by rw[a6]),h.size.trans (by rw[a6]),h.AA.trans a7.symm,h.Ah.trans a8.symm,by rw[ur ht];exact h.depth,.inr ⟨ts,t',a1,?_,?_⟩⟩;grind [Mx,DB]
  .rw[a3];exact b3
theorem yc (h:Ms x r) {ts:List Bj} {t:Bj} (ht:x.Aa=ts++[t]) (k:KQ) (h3:J x.Ad<3):
  Ms (x.DU k) ({r with Ad:=r.Ad++[J r.Dv]}.BA (r.Dv++[DN k (J x.Ad)])):=by
 rcases h.Aa with⟨h0,_⟩|⟨ts',u,b1,b2,b3⟩
 .rw[ht] at h0;simp at h0
 .refine⟨h.cells,h.cO,h.first,h.size,h.AA,h.Ah,by grind [qH.DU],.inr ⟨ts',u,b1,?_,?_⟩⟩;grind [Mx,DB,qH.DU,Wg,Gz,Ca]
  .show r.Ad++[J r.Dv]=_;grind [qH.DU,DB,YP,NL,CX,Vl]
theorem tP (A:List α) (a:α) (B:List α) (z:α):(A++a::B).getD (J A) z=a:=EQ
theorem pq (fs:List Fr) (A:List Nd) (d p:Nat) (hp:J A=p) (B:List Nd):
  ((NL fs p).any λk=>((A++Gz fs d p++B).getD k (.of 0)).kind==40)=fs.any λf=>f.kind.Cn:=by
 induction fs generalizing A d p with
 |nil=>rfl
 |cons f fs ih=>
  simp only[NL,List.any_cons,Gz];have e:A++DN f.kind d::(Ca f.body (d+1) (p+1)++Gz fs (d+1) (p+1+Di f.body))++B=(A++DN f.kind d::Ca f.body (d+1) (p+1))++Gz fs (d+1) (p+1+Di f.body)++B:=EQ
  congr 1
  .subst hp;rw[Ji,Jx,tP];cases f.kind<;>rfl
  .rw[e];exact ih _ _ _ (by grind [CX])
theorem po (h:Ms x r):r.BB=x.BB:=by
 unfold RS.BB qH.BB;rcases h.Aa with⟨_,h1,_,h3⟩|⟨ts,t,b1,b2,b3⟩;grind
 .rw[b3,DB b2];have:=pq x.Ad (Ca t 0 0) 0 (Di t) (CX _ _ _) [];rw[Jo] at this;exact this
theorem NM (h:Ms x r):J r.Ad=J x.Ad:=by
 grind [ki,Ms]
theorem Mu (h:Ms x r):r.p.Aa=[]<->x.Aa=[]:=by
 rcases h.Aa with⟨h0,h1,h2,h3⟩|⟨ts,t,b1,b2,b3⟩;grind
 .rw[b1,b2];simp
def Lg (x:qH) (r:RS) (w:Ws) (res:Except Int qH):Prop:=match res with
 |.error c=>r.node w=.error c
 |.ok y=>∃y0 q nd,r.node w=.ok (q,nd)/\Ms y0 q/\y0.Aa=x.Aa/\y0.Ad=x.Ad/\y0.Ah=x.Ah/\
   ((∃f,AmZ f nd/\y=y0.add f)\/∃k,nd=DN k 0/\y=y0.DU k)
theorem AbF {w:ByteArray} (hw:bs w=Fw) (h:Bv (w::l)=V):Dt (bs (wd l 1))=V/\(J l=4->Dt (bs (wd l 3))=V):=by
 grind [Bv,Fv,Iy,Ka,Fw,AR,AE,EK,A8]
theorem AbH {w:ByteArray} (hw:bs w=DQ) (h:Bv (w::l)=V):J l=4->Dt (bs (wd l 3))=V:=by
 grind [Bv,Fv,Iy,Ka,DQ,AR]
theorem AbG {w:ByteArray} (hw:bs w=EF) (h:Bv (w::l)=V):Dt (bs (wd l 1))=V/\(J l=4->Dt (bs (wd l 3))=V):=by
 grind [Bv,Fv,Iy,Ka,EF,DQ,AR,AE,EK,A8]
theorem df {w:ByteArray} (hw:bs w=Iz\/bs w=Uj) (h:Bv (w::l)=V):Dt (bs (wd l 0))=V:=by
 rcases hw with hw|hw<;>simp[Bv,Fv,Iy,Ka,hw,Iz,Uj,EF,DQ,Fw,AR,AE,EK,A8] at h<;>exact h.2
theorem Abd (x:qH) (r:RS) (h:Ms x r) (w:ByteArray) (l:Ws) (hw:bs w=Fw) (hl:Bv (w::l)=V):
  Lg x r (w::l) (x.finish (.set (wd l 0) (DK (wd l 1)) (if J l=4 then wd B4 (Be Dc (wd l 2)).toNat else ⟨#[]⟩) (if J l=4 then DK (wd l 3) else .zero))):=by
 obtain⟨h1,h3⟩:=AbF hw hl;unfold Lg qH.finish RS.node;simp only[Iy,hw,Qh,Ka,Jg];have ha:=Ol (x:=x) (r:=r) h.AA h1;rw[ha];by_cases hA:(r.Cz (wd l 1)).2
 .simp only[hA,Qh];by_cases h4:J l=4
  .have h5:J l+1=5:=Y
   simp only[Jb h4,Jb h5];have hb:=Ol (x:=x) (r:=r) h.AA (h3 h4);rw[hb];by_cases hB:(r.Cz (wd l 3)).2
   .simp only[hB,Qh,Ql];have hm:=Y9 h {Nd.of 115 with a:=(r.Cz (wd l 1)).1,op:=wd B4 (Be Dc (wd l 2)).toNat,b:=(r.Cz (wd l 3)).1} (wd l 0);cases hx:x.Df (wd l 0) with
    |error c=>rw[hx] at hm;exact hm
    |ok vy=>
     rw[hx] at hm;exact mbj
   grind
  .have h5:¬J l+1=5:=Y
   simp only[In h4,In h5,eA];have hm:=Y9 h {Nd.of 115 with a:=(r.Cz (wd l 1)).1} (wd l 0);cases hx:x.Df (wd l 0) with
   |error c=>rw[hx] at hm;grind
   |ok vy=>
    rw[hx] at hm;obtain⟨q,m1,m2,m3,m4,m5⟩:=hm;exact⟨vy.2,q,_,by rw[Jb trivial];exact m1,m2,m3,m4,m5,.inl ⟨_,⟨λd p=>rfl,rfl,by simp[Nd.of]⟩,rfl⟩⟩
 grind
theorem P7:¬DQ=Fw/\¬EF=Fw/\¬EF=DQ/\¬Iz=Fw/\¬Iz=DQ/\¬Iz=EF/\¬Uj=Fw/\¬Uj=DQ/\¬Uj=EF/\¬Uj=Iz/\¬EW=Fw/\¬EW=DQ/\¬EW=EF/\¬EW=Iz/\¬EW=Uj/\
  ¬A8=Fw/\¬A8=DQ/\¬A8=EF/\¬A8=Iz/\¬A8=Uj/\¬A8=EW:=Do
theorem dU (h:Ms x r) (k:Nat) (s:ByteArray) (w:ByteArray) (l:Ws) (FE:J l=4->Dt (bs (wd l 3))=V):
  AdK r (.of k) s (w::l) (x.cell s (if J l=4 then DK (wd l 3) else .zero)):=by
 have:=Ade h (.of k) rfl s (w::l) (by intro h5;exact FE AC);grind [Ka]
theorem Abg (x:qH) (r:RS) (h:Ms x r) (w:ByteArray) (l:Ws) (hw:bs w=DQ) (hl:Bv (w::l)=V):
  Lg x r (w::l) (x.finish (.get (wd l 0) (wd l 1) (if J l=4 then DK (wd l 3) else .zero))):=by
 have h3:=AbH hw hl;have hk:=P7;have hc:=dU h 103 (wd l 1) w l h3;unfold Lg qH.finish RS.node;simp only[Iy,hw,Ka,hk,J1,Qh];cases hx:x.cell (wd l 1) (if J l=4 then DK (wd l 3) else .zero) with
 |error c=>
  rw[hx] at hc;obtain⟨rfl,hc⟩:=hc<;>grind
 |ok v=>
  obtain⟨f,z,a⟩:=v;rw[hx] at hc;obtain⟨ay,Wf,xx⟩:=hc;simp only[ay,Qh,Wf];have hm:=Y9 (h.same xx) {Nd.of 103 with first:=f,size:=z,AN:=a} (wd l 0);cases hy:x.Df (wd l 0) with
  |error c=>rw[hy] at hm;exact hm
  |ok vy=>
   rw[hy] at hm;exact mbj
theorem eG.FX (h:eG r q):eG r q.FX:=h
theorem yh (h:eG r q) (s:ByteArray):q.Cz s=r.Cz s:=by unfold RS.Cz;rw[h.2.2.2.1]
theorem Abe (x:qH) (r:RS) (h:Ms x r) (w:ByteArray) (l:Ws) (hw:bs w=EF) (hl:Bv (w::l)=V):
  Lg x r (w::l) (x.finish (.put (wd l 0) (DK (wd l 1)) (if J l=4 then DK (wd l 3) else .zero))):=by
 obtain⟨h1,h3⟩:=AbG hw hl;have hk:=P7;have hc:=dU h 112 (wd l 0) w l h3;have ha:=Ol (x:=x) (r:=r) h.AA h1;unfold Lg qH.finish RS.node;simp only[Iy,hw,Ka,hk,J1,Qh];cases hx:x.cell (wd l 0) (if J l=4 then DK (wd l 3) else .zero) with
 |error c=>
  rw[hx] at hc;obtain⟨rfl,hc⟩:=hc<;>grind
 |ok v=>
  obtain⟨f,z,a⟩:=v;rw[hx] at hc;obtain⟨ay,Wf,xx⟩:=hc;simp only[ay,Ql,Wf,ha,yh xx];by_cases hA:(r.Cz (wd l 1)).2
  .simp only[hA,Qh];exact⟨x,_,_,rfl,h.same xx.FX,rfl,rfl,rfl,.inl ⟨_,⟨λd p=>rfl,rfl,by simp[Nd.of]⟩,rfl⟩⟩
  grind
theorem Abf (x:qH) (r:RS) (h:Ms x r) (w:ByteArray) (l:Ws) (hw:bs w=Iz) (hl:Bv (w::l)=V):
  Lg x r (w::l) (x.finish (.out (DK (wd l 0)))):=by
 have h1:=df AC hl;have hk:=P7;have ha:=Ol (x:=x) (r:=r) h.AA h1;unfold Lg qH.finish RS.node;simp only[Iy,hw,Ka,hk,J1,Qh,ha];by_cases hA:(r.Cz (wd l 0)).2
 .simp only[hA,Qh];exact⟨x,_,_,rfl,h,rfl,rfl,rfl,.inl ⟨_,⟨λd p=>rfl,rfl,by simp[Nd.of]⟩,rfl⟩⟩
 grind
theorem Aex (x:qH) (r:RS) (h:Ms x r) (w:ByteArray) (l:Ws) (hw:bs w=Uj) (hl:Bv (w::l)=V):
  Lg x r (w::l) (x.finish (.Es (DK (wd l 0)))):=by
 have h1:=df AC hl;have hk:=P7;have ha:=Ol (x:=x) (r:=r) h.AA h1;unfold Lg qH.finish RS.node;simp only[Iy,hw,Ka,hk,J1,Qh,ha];by_cases hA:(r.Cz (wd l 0)).2
 .simp only[hA,Qh];exact mbx
 grind
theorem vI (x:qH) (r:RS) (h:Ms x r) (w:ByteArray) (l:Ws) (hw:bs w=EW):
  Lg x r (w::l) (x.finish (.loop ((number (bs (wd l 0))).getD 0))):=by
 have hk:=P7;unfold Lg qH.finish RS.node;simp only[Iy,hw,Ka,hk,J1,Qh];exact mbx
theorem kA (x:qH) (r:RS) (h:Ms x r) (w:ByteArray) (l:Ws) (hw:bs w=A8):
  Lg x r (w::l) (x.finish .atomic):=by
 have hk:=P7;unfold Lg qH.finish RS.node;simp only[Iy,hw,hk,J1,Qh];exact mbx
theorem Ac0 (f:Fr) (d p:Nat):
  let k:=(DN f.kind d).kind
  let l:=DN f.kind d::Ca f.body (d+1) (p+1)
  let m:=if k=40 then [Nd.of 41] else if k=108 then [{Nd.of 98 with CL:=(p:Int)+1,Af:=(DN f.kind d).Af}] else []
  (l++m).set 0 {DN f.kind d with CL:=((p+(l++m).length:Nat):Int)}=Ca (f.done .nil) d p:=by
 grind [DN,Nd.of,Fr.done,Ca,CX]
theorem Ag4 (A B:List α) (x:α):(A++B).set (J A) x=A++B.set 0 x:=by
 grind
theorem Afv (h:Ms x r):match x.Ad.getLast? with
  |none=>r.Px=.error 3
  |some f=>∃q,r.Px=.ok q/\Ms ({x with Ad:=x.Ad.dropLast}.add f.done) q:=by
 rcases Jv x.Ad with h0|⟨fs,f,h0⟩;grind [NM,RS.Px]
 .rw[Jy] at h0;rw[h0];simp only[Qj,NE,QJ,PP];rcases h.Aa with⟨_,h1,_⟩|⟨ts,t,b1,b2,b3⟩;grind [Ms]
  .rw[h0] at b3 b2;rw[YP] at b3;simp only[NL] at b3;rw[Wg] at b2;simp only[Gz,Jo,JH] at b2;have IP:=DB b2;unfold RS.Px;rw[b3,IP];simp only[Qj,NE,QJ,PP];generalize hA:Ca t 0 0++Gz fs 0 (Di t)=A;have hAl:J A=Di t+NQ fs:=by rw[<-hA,GT,CX,Vl]
   have e1:Ca t 0 0++(Gz fs 0 (Di t)++DN f.kind (J fs)::Ca f.body (J fs+1) (Di t+NQ fs+1))=A++DN f.kind (J fs)::Ca f.body (J fs+1) (Di t+NQ fs+1):=by rw[<-hA,Ji]
   rw[e1,<-hAl];simp only[tP];have hy:Ms {x with Ad:=fs} {r with Ad:=NL fs (Di t),p:={r.p with Aa:=ts.map (Ca · 0 0)++[A]}}:=
    ⟨h.cells,h.cO,h.first,h.size,h.AA,h.Ah,by have:=h.depth;rw[h0] at this;grind,AC⟩
   have hz:=uq (ts:=ts) (t:=t) hy b1 f.done _ rfl;refine⟨_,rfl,?_⟩;have O9:(RS.Dv {r with Ad:=NL fs (Di t),p:={r.p with Aa:=ts.map (Ca · 0 0)++[A]}})=A:=DB rfl;rw[O9] at hz;have hf:=Ac0 f (J fs) (Di t+NQ fs);simp only[] at hf;have Ace:∀m:List Nd,((A++DN f.kind (J fs)::Ca f.body (J fs+1) (J A+1))++m).set (J A) {DN f.kind (J fs) with CL:=(((A++DN f.kind (J fs)::Ca f.body (J fs+1) (J A+1))++m).length:Int)}=
     A++((DN f.kind (J fs)::Ca f.body (J fs+1) (J A+1))++m).set 0 {DN f.kind (J fs) with CL:=((J A+((DN f.kind (J fs)::Ca f.body (J fs+1) (J A+1))++m).length:Nat):Int)}:=by
    intro m;rw[Ji,Ag4,GT]
   have key:∀L:List Nd,L=A++Ca (f.done .nil) (J fs) (Di t+NQ fs)->Ms ({x with Ad:=fs}.add f.done) (RS.BA {r with Ad:=NL fs (Di t)} L):=by
    grind [RS.BA]
   grind
theorem Abc (x:qH) (r:RS) (h:Ms x r) (w:ByteArray) (l:Ws) (hw:bs w=Fw\/bs w=DQ\/bs w=EF\/bs w=Iz\/bs w=A8\/bs w=Uj\/bs w=EW) (hl:Bv (w::l)=V):
  ∃s,IF w l=U s/\(s.Cn=V<->(bs w=DQ\/bs w=EF))/\Lg x r (w::l) (x.finish s):=by
 have hk:=P7;unfold IF;rcases hw with hw|hw|hw|hw|hw|hw|hw<;>simp only[hw,hk,Qh,J1];grind [cE,Vw.Cn,Abd x r h w l hw hl];grind [cG,Vw.Cn,Abg x r h w l hw hl];grind [cF,Vw.Cn,Abe x r h w l hw hl];grind [Tw,Vw.Cn,Abf x r h w l hw hl];grind [ep,Vw.Cn,kA x r h w l hw];grind [Tw,Vw.Cn,Aex x r h w l hw hl];grind [YJ,Vw.Cn,vI x r h w l hw]
def Vz (a:Except Int qH) (b:Except Int RS):Prop:=match a,b with
 |.error c,.error d=>c=d
 |.ok y,.ok q=>Ms y q
 |_,_=>False
theorem vd (h:Ms x r) (w:ByteArray) (l:Ws) (hw:bs w=AR) (hl:Bv (w::l)=V):Vz (x.Ec l) (r.Ec (w::l)):=by
 have key:∃n size,x.Ec l=(if x.Aa≠[] then .error 3 else if (x.Wj n).isSome then .error 4 else .ok {x with Ax:=x.Ax++[⟨n,x.cells,size⟩],cells:=x.cells+size})/\
   n=wd l 0/\size=if 2<(w::l).length then (number (bs (wd (w::l) 2))).getD 0 else 1:=by
  rcases l with _|⟨a,_|⟨b,_|⟨c,q⟩⟩⟩<;>simp[Bv,Fv,Iy,Ka,hw,AR] at hl
  .exact⟨a,1,by grind [qH.Ec,EU],rfl,EQ⟩
  grind [qH.Ec,EU,Kb,Ka,Iy]
 obtain⟨n,size,e,hn,hs⟩:=key;rw[e];unfold RS.Ec;rw[<-hs,Ka,<-hn];by_cases ht:x.Aa=[]
 .have Kw:=(Mu h).2 ht;simp only[ht,Kw,ne_eq,not_true_eq_false,J1];rw[h.cO];cases hf:x.Wj n with
  |some sv=>
   grind [Wh,Vz]
  |none=>
   rw[Wi hf];simp only[Qt,Qb,J1,show¬(0:Int)<= -1 by omega];obtain⟨h1,h2,h3,h4,h5,h6,h7,h8⟩:=h;refine⟨by simp[h1],EQ,by simp[h3,h1],by simp[h4],h5,h6,h7,?_⟩<;>grind
 grind [Mu,Vz]
theorem nE (h:Ms x r):Vz (if x.Ad≠[] then .error 3 else .ok {x with Aa:=x.Aa++[.nil],AA:=[],Ah:=0,Ad:=[]})
  (if r.Ad≠[] then .error 3 else .ok {r with p:={r.p with Aa:=r.p.Aa++[[]],Ap:=r.p.Ap++[List.replicate r.p.cells.toNat I],BX:=r.p.BX++[I]},AA:=[],Ah:=0}):=by
 grind [NM,NL,Ca,Gz,Vz,Ms]
theorem Y2 (h:¬x.Aa=[]):x.EV=J x.Ad+1:=by unfold qH.EV;rw[In h]
theorem yv (h:¬x.Aa=[]) (s:Bj->Bj):(x.add s).EV=J x.Ad+1:=by
 rcases Jv x.Aa with h0|⟨ts,t,h0⟩;grind
 .rw[Jy] at h0;obtain⟨t',a1,_⟩:=Vs h0 s;rw[Y2 (by rw[a1];simp),ur h0]
theorem Wv (h:¬x.Aa=[]) (s:Bj->Bj):(x.add s).Ah=x.Ah:=by
 rcases Jv x.Aa with h0|⟨ts,t,h0⟩;grind
 .rw[Jy] at h0;grind [Vs h0 s]
theorem aL (l:List Nd) (n:Int):RS.BA {r with Ah:=n} l={r.BA l with Ah:=n}:=rfl
theorem aI (h:Ms x r) (w:ByteArray) (l:Ws) (hw:bs w=Fw\/bs w=DQ\/bs w=EF\/bs w=Iz\/bs w=A8\/bs w=Uj\/bs w=EW) (hl:Bv (w::l)=V):
  Vz (x.Bd w l) (if r.p.Aa=[]\/(r.BB=I/\(bs w=DQ\/bs w=EF))\/(r.BB=V/\bs w=A8) then .error 3
    else match r.node (w::l) with
      |.error c=> .error c
      |.ok (r,x)=>
        if 14<r.Ah+1 then .error 5
        else if x.kind=122\/x.kind=108\/x.kind=40 then
          if J r.Ad=3 then .error 5
          else .ok ({r with Ah:=r.Ah+1,Ad:=r.Ad++[J r.Dv]}.BA (r.Dv++[{x with Af:=J r.Ad}]))
        else .ok ({r with Ah:=r.Ah+1}.BA (r.Dv++[x]))):=by
 obtain⟨s,hs,hb,hn⟩:=Abc x r h w l hw hl;unfold qH.Bd;rw[hs];simp only[];have hc:(x.Aa=[]\/(s.Cn=V/\x.BB=I)\/(bs w=A8/\x.BB=V))<->(r.p.Aa=[]\/(r.BB=I/\(bs w=DQ\/bs w=EF))\/(r.BB=V/\bs w=A8)):=by
  rw[Mu h,po h,hb];grind
 by_cases bj:x.Aa=[]\/(s.Cn=V/\x.BB=I)\/(bs w=A8/\x.BB=V)
 .rw[Jb bj,Jb AC];exact rfl
 .rw[In bj,In AC];have TM:¬x.Aa=[]:=AC;unfold Lg at hn;cases hf:x.finish s with
  |error c=>rw[hf] at hn;simp only[] at hn⊢;rw[hn];exact rfl
  |ok y=>
   rw[hf] at hn;simp only[] at hn⊢;obtain⟨y0,q,nd,e1,Re,e2,e3,e4,Acz⟩:=hn;rw[e1];simp only[];have Ab7:¬y0.Aa=[]:=by rw[e2];exact TM
   obtain⟨ts,t,ht⟩:∃ts t,y0.Aa=ts++[t]:=by
    grind [Ms]
   have hq:=Re.Ah;have hqo:=NM Re;have hd:=Re.depth;rcases Acz with⟨f,⟨l1,l2,l3⟩,rfl⟩|⟨k,rfl,rfl⟩
   .rw[Wv Ab7,yv Ab7,hq,In l3];by_cases OR:14<y0.Ah+1
    .rw[Jb (AC),Jb OR];exact rfl
    .rw[In Y,In OR];have hz:=uq Re ht f [nd] AC;rw[aL];obtain⟨h1,h2,h3,h4,h5,h6,h7,h8⟩:=hz;exact⟨h1,h2,h3,h4,h5,rfl,h7,h8⟩
   .have Aw:(y0.DU k).Ah=y0.Ah:=rfl;have Um:(y0.DU k).EV=J y0.Ad+2:=by
     rw[Y2 (x:=y0.DU k) Ab7];grind [qH.DU]
    have hk:(DN k 0).kind=122\/(DN k 0).kind=108\/(DN k 0).kind=40:=by cases k<;>simp[DN,Nd.of]
    rw[Aw,Um,hq,Jb hk];by_cases OR:14<y0.Ah+1
    .rw[Jb (AC),Jb OR];exact rfl
    .rw[In OR];by_cases h3:J y0.Ad=3
     .rw[Jb Y,Jb (by rw[hqo];exact h3)];exact rfl
     .rw[In Y,In (by rw[hqo];exact h3)];have hz:=yc Re ht k Y;have ho:({DN k 0 with Af:=(J q.Ad:Int)}:Nd)=DN k (J y0.Ad):=by rw[hqo];cases k<;>rfl
      rw[ho];obtain⟨h1,h2,h3,h4,h5,h6,h7,h8⟩:=hz;exact⟨h1,h2,h3,h4,h5,rfl,h7,h8⟩
theorem sD (h:Ms x r) (w:ByteArray) (l:Ws) (hl:Bv (w::l)=V):Vz (x.row (w::l)) (r.row (w::l)):=by
 rw[iW];unfold RS.row;simp only[Iy];by_cases h1:bs w=AR;grind [vd];rw[In h1,In h1];by_cases h2:bs w=AE;grind [Bv,Fv,Iy,nE];rw[In h2,In h2];by_cases h3:bs w=EK
 .simp only[h3,↓reduceIte];have Amh:l=[]:=by
   grind [Bv,Fv,Iy]
  subst Amh;simp only[ne_eq,not_true_eq_false,J1];have he:=Afv h;cases ho:x.Ad.getLast? with
  |none=>rw[ho] at he;simp only[] at he⊢;rw[he];exact rfl
  |some f=>
   rw[ho] at he;obtain⟨q,e1,e2⟩:=he;simp only[];rw[e1];exact e2
 grind [aI,Ze]
def KN (r q:RS):Prop:=q.Ax=r.Ax/\q.first=r.first/\q.size=r.size/\q.Ad=r.Ad/\q.Ah=r.Ah/\q.p.Aa=r.p.Aa/\q.p.cells=r.p.cells/\
 (∀m:Int,(∀t,t∈r.p.Ap->(J t:Int)=m)->∀t,t∈q.p.Ap->(J t:Int)=m)/\J q.p.Ap=J r.p.Ap
theorem KN.refl (_:r.p.Ap≠[]):KN r r:=⟨rfl,rfl,rfl,rfl,rfl,rfl,rfl,AC,rfl⟩
theorem KN.ne (k:KN r q) (h:r.p.Ap≠[]):q.p.Ap≠[]:=λh'=>h (Jm (by rw[<-k.2.2.2.2.2.2.2.2,h'];rfl))
theorem KN.trans {a b c:RS} (h:KN a b) (k:KN b c):KN a c:=by
 obtain⟨h1,h2,h3,h4,h5,h6,h7,h8,h9⟩:=h;obtain⟨k1,k2,k3,k4,k5,k6,k7,k8,k9⟩:=k;exact⟨AC,AC,AC,AC,AC,AC,AC,λm h=>k8 m (h8 m h),AC⟩
theorem nD (h:r.p.Ap≠[]) (c:Int):KN r (r.GN c):=by
 refine⟨rfl,rfl,rfl,rfl,rfl,rfl,rfl,λm hm t ht=>?_,by have:=JE.2 h;simp[RS.GN];omega⟩;obtain⟨ts,t0,h0⟩:∃ts t,r.p.Ap=ts++[t]:=by
  rcases Jv r.p.Ap with h0|⟨ts,t,h0⟩<;>grind
 grind [RS.GN]
theorem dX (h:r.p.Ap≠[]) (x:Nd) (s:ByteArray) (w:Ws):KN r (r.cell x s w).1:=by
 grind [RS.cell,KN.refl,nD]
theorem cV (h:r.p.Ap≠[]) (x:Nd) (s:ByteArray) {q:RS} {y:Nd} (he:r.Ml x s=.ok (q,y)):KN r q:=by
 unfold RS.Ml at he;split at he
 .cases he
 .split at he;grind [KN.refl]
  .split at he
   .cases he
   .cases he;exact⟨rfl,rfl,rfl,rfl,rfl,rfl,rfl,AC,rfl⟩
theorem kb (r:RS):KN r r.FX:=⟨rfl,rfl,rfl,rfl,rfl,rfl,rfl,λ_ h=>h,rfl⟩
theorem vJ (h:r.p.Ap≠[]) (w:Ws) {q:RS} {y:Nd} (he:r.node w=.ok (q,y)):KN r q:=by
 unfold RS.node at he;simp only[] at he;split at he;grind [cV];split at he
 .have hc:=dX h (.of 103) (wd w 2) w;grind [hc.trans,cV,hc.ne]
 split at he
 .have hc:=dX h (.of 112) (wd w 1) w;grind [hc.trans,kb]
 grind [KN.refl]
structure Lu (R:RS) (n:Nat):Prop where
 inv:Pj R n
 tl:J R.p.Ap=J R.p.Aa
 fl:J R.first=J R.Ax
 ne:R.Ad≠[]->R.p.Aa≠[]
 lt:∀k,k∈R.Ad->k<J R.Dv
 ol:J R.Ad<=3
 s0:0<=R.Ah
 s1:R.Ah<=14
 nl:R.p.Aa≠[]->(J R.Dv:Int)+J R.Ad<=2*R.Ah
theorem Lu.sL (h:Lu R n):Wy R:=by
 refine⟨h.ne,h.lt,h.ol,?_⟩;by_cases ht:R.p.Aa=[]<;>grind [RS.Dv,Lu]
theorem Lu.Dr:Lu .Dr 0:=by
 refine⟨⟨?_,Y,?_,?_,?_,?_⟩,rfl,rfl,?_,?_,?_,?_,?_,?_⟩<;>simp[RS.Dr]
theorem IL (r:RS) (l:List Nd):(r.BA l).Dv=l:=by simp[RS.Dv,RS.BA]
theorem Io (h:r.p.Aa≠[]) (l:List Nd):(r.BA l).p.Aa.length=J r.p.Aa:=by
 have:=JE.2 h;simp[RS.BA];omega
theorem Tr (r:RS) (l:List Nd):(r.BA l).p.Aa≠[]:=by simp[RS.BA]
theorem Lu.Ec (h:Lu R n) (hn:n+1<=2500) {l:Ws} (hl:Bv l=V) (hne:l≠[]) (hk:bs (wd l 0)=AR) {R':RS} (he:R.Ec l=.ok R'):Lu R' (n+1):=by
 unfold RS.Ec at he;have hlen:J l=2\/(J l=3/\GC (bs (wd l 2)) 6=V):=by
  grind [Bv,Fv]
 obtain⟨z,Lb,hz6,hz⟩:∃z:Int,1<=z/\z<=6/\(if 2<J l then (number (bs (wd l 2))).getD 0 else 1)=z:=by
  rcases hlen with h2|⟨h3,h4⟩
  .exact⟨1,Y,Y,by simp[h2]⟩
  .unfold GC at h4;cases hnn:number (bs (wd l 2)) with
   |none=>rw[hnn] at h4;cases h4
   |some v=>
    rw[hnn] at h4;simp only[JD,JB] at h4;exact⟨v,Y,Y,by simp[h3]⟩
 rw[hz] at he;by_cases ht:R.p.Aa=[]
 .rw[In AC] at he;split at he
  .cases he
  .cases he;obtain⟨⟨b1,b2,b3,b4,b5,b6⟩,a1,a2,a3,a4,a5,a6,a7,a8⟩:=h;refine⟨⟨by simp;omega,hn,by simp;omega,by simp;omega,λc hc=>?_,λt hh=>?_⟩,a1,by simp[a2],a3,a4,a5,a6,a7,a8⟩<;>grind
 grind
theorem Lu.Px (h:Lu R n) (hn:n+1<=2500) {R':RS} (he:R.Px=.ok R'):Lu R' (n+1):=by
 unfold RS.Px at he;rcases Jv R.Ad with h0|⟨os,a,h0⟩;grind
 .rw[Jy] at h0;rw[h0] at he;simp only[Qj,NE,QJ,PP,Except.ok.injEq] at he;have hT:=h.ne (by rw[h0];simp);generalize yR:(if (R.Dv.getD a (.of 0)).kind=40 then R.Dv++[Nd.of 41] else if (R.Dv.getD a (.of 0)).kind=108 then R.Dv++[{Nd.of 98 with CL:=a+1,Af:=(R.Dv.getD a (.of 0)).Af}] else R.Dv)=l' at he;have hlen:J R.Dv<=J l'/\J l'<=J R.Dv+1:=by
   grind
  subst he;obtain⟨⟨b1,b2,b3,b4,b5,b6⟩,a1,a2,a3,a4,a5,a6,a7,a8⟩:=h;have e1:∀q:RS,(q.BA (l'.set a {l'.getD a (.of 0) with CL:=J l'})).Dv.length=J l':=λq=>by rw[IL,Ju]
  have e2:({R with Ad:=os}:RS).p.Aa≠[]:=hT;have Ro:J R.Ad=J os+1:=by rw[h0];simp
  have:=a8 hT;refine⟨⟨?_,hn,b3,b4,b5,b6⟩,?_,a2,λ_=>Tr _ _,?_,?_,a6,a7,λ_=>?_⟩
  .rw[Io e2];show J R.Ax+J R.p.Aa<=n+1;omega
  .rw[Io e2];exact a1
  .intro k hk;rw[e1];have:=a4 k (by rw[h0];exact IR _ hk);omega
  .show J os<=3;omega
  .rw[e1];show(J l':Int)+J os<=2*R.Ah;omega
theorem Lu.AgU (h:Lu R n) (hn:n+1<=2500) (ho:R.Ad=[]):
  Lu {R with p:={R.p with Aa:=R.p.Aa++[[]],Ap:=R.p.Ap++[List.replicate R.p.cells.toNat I],BX:=R.p.BX++[I]},AA:=[],Ah:=0} (n+1):=by
 obtain⟨⟨b1,b2,b3,b4,b5,b6⟩,a1,a2,a3,a4,a5,a6,a7,a8⟩:=h;refine⟨⟨by simp;omega,hn,b3,b4,b5,λt ht=>?_⟩,by simp[a1],a2,λ_=>EQ,λk hk=>?_,a5,EQ,EQ,λ_=>?_⟩<;>grind [RS.Dv]
theorem Lu.Ajc (h:Lu R n) (hn:n+1<=2500) (hT:R.p.Aa≠[]) {q:RS} (k:KN R q) (x:Nd) (OR:¬14<q.Ah+1):
  Lu ({q with Ah:=q.Ah+1}.BA (q.Dv++[x])) (n+1)/\(¬J q.Ad=3->Lu ({q with Ah:=q.Ah+1,Ad:=q.Ad++[J q.Dv]}.BA (q.Dv++[x])) (n+1)):=by
 obtain⟨⟨b1,b2,b3,b4,b5,b6⟩,a1,a2,a3,a4,a5,a6,a7,a8⟩:=h;obtain⟨k1,k2,k3,k4,k5,k6,k7,k8,k9⟩:=k;have hl:q.Dv=R.Dv:=by unfold RS.Dv;rw[k6]
 have h8:=a8 hT;have hq:q.p.Aa≠[]:=by rw[k6];exact hT
 constructor
 .refine⟨⟨?_,hn,?_,?_,?_,?_⟩,?_,?_,λ_=>Tr _ _,?_,?_,?_,?_,λ_=>?_⟩
  .rw[Io (r:={q with Ah:=q.Ah+1}) hq];show J q.Ax+J q.p.Aa<=n+1;rw[k1,k6];omega
  .show 0<=q.p.cells;rw[k7];exact b3
  .show q.p.cells<=6*J q.Ax;rw[k7,k1];exact b4
  .show∀c,c∈q.first->0<=c/\c<q.p.cells;rw[k2,k7];exact b5
  .show∀t,t∈q.p.Ap->(J t:Int)=q.p.cells;rw[k7];exact k8 _ b6
  .rw[Io (r:={q with Ah:=q.Ah+1}) hq];show J q.p.Ap=J q.p.Aa;rw[k9,k6];exact a1
  .show J q.first=J q.Ax;rw[k2,k1];exact a2
  .intro k hk;rw[IL,hl];have:=a4 k (by rw[<-k4];exact hk);simp;omega
  .show J q.Ad<=3;rw[k4];exact a5
  .show 0<=q.Ah+1;omega
  .show q.Ah+1<=14;omega
  .rw[IL,hl];show((R.Dv++[x]).length:Int)+J q.Ad<=2*(q.Ah+1);rw[k4,k5];simp;omega
 .intro h3;rw[k4] at h3;refine⟨⟨?_,hn,?_,?_,?_,?_⟩,?_,?_,λ_=>Tr _ _,?_,?_,?_,?_,λ_=>?_⟩
  .rw[Io (r:={q with Ah:=q.Ah+1,Ad:=q.Ad++[J q.Dv]}) hq];show J q.Ax+J q.p.Aa<=n+1;rw[k1,k6];omega
  .show 0<=q.p.cells;rw[k7];exact b3
  .show q.p.cells<=6*J q.Ax;rw[k7,k1];exact b4
  .show∀c,c∈q.first->0<=c/\c<q.p.cells;rw[k2,k7];exact b5
  .show∀t,t∈q.p.Ap->(J t:Int)=q.p.cells;rw[k7];exact k8 _ b6
  .rw[Io (r:={q with Ah:=q.Ah+1,Ad:=q.Ad++[J q.Dv]}) hq];show J q.p.Ap=J q.p.Aa;rw[k9,k6];exact a1
  .show J q.first=J q.Ax;rw[k2,k1];exact a2
  .intro k hk;rw[IL,hl];have MY:k∈q.Ad++[J q.Dv]:=hk;rw[k4,hl] at MY;grind
  .show(q.Ad++[J q.Dv]).length<=3;rw[k4];simp;omega
  .show 0<=q.Ah+1;omega
  .show q.Ah+1<=14;omega
  .rw[IL,hl];show((R.Dv++[x]).length:Int)+(q.Ad++[J R.Dv]).length<=2*(q.Ah+1);rw[k4,k5];simp;omega
theorem Lu.row (h:Lu R n) (hn:n+1<=2500) {l:Ws} (hl:Bv l=V) (hne:l≠[]) {R':RS} (he:R.row l=.ok R'):Lu R' (n+1):=by
 unfold RS.row at he;simp only[] at he;split at he;grind [h.Ec];split at he;grind [h.AgU];split at he
 .exact h.Px hn he
 split at he
 .cases he
 rename_i bj;have hT:R.p.Aa≠[]:=AC;have hu:R.p.Ap≠[]:=λh'=>hT (Jm (by rw[<-h.tl,h'];rfl))
 cases hr:R.node l with
 |error c=>rw[hr] at he;cases he
 |ok qx=>
  obtain⟨q,x⟩:=qx;rw[hr] at he;simp only[] at he;have hk:=vJ hu l hr;split at he
  .cases he
  .rename_i OR;split at he
   .split at he
    .cases he
    .rename_i h3;grind [(h.Ajc hn hT hk _ OR).2 h3]
   grind [h.Ajc]
def DO (a:At):Prop:=if a.AX=V then 0<=a.v/\a.v<4 else -9223372036854775808<=a.v/\a.v<=9223372036854775807
def WF (cells:Int):Bj->Nat->Bool->Prop
 |.nil,_,_=>True
 |.set v op a b r,d,i=>(0<=v/\v<4)/\(op.size=0\/op∈B4)/\DO a/\DO b/\WF cells r d i
 |.get v f s a r,d,i=>(0<=v/\v<4)/\(0<=f/\1<=s/\f+s<=cells)/\DO a/\i=V/\WF cells r d i
 |.put f s a b r,d,i=>(0<=f/\1<=s/\f+s<=cells)/\DO a/\DO b/\i=V/\WF cells r d i
 |.out a r,d,i=>DO a/\WF cells r d i
 |.atomic b r,d,i=>i=I/\d<3/\WF cells b (d+1) V/\WF cells r d i
 |.Es a b r,d,i=>DO a/\d<3/\WF cells b (d+1) i/\WF cells r d i
 |.loop n b r,d,i=>(1<=n/\n<=4)/\d<3/\WF cells b (d+1) i/\WF cells r d i
theorem WF.FQ {cells:Int} {s:Bj} {d:Nat} {i:Bool} (h:WF cells s d i) (k:WF cells t d i):WF cells (s.FQ t) d i:=by
 induction s generalizing d i with
 |nil=>exact k
 |set v op a b r ih=>exact⟨h.1,h.2.1,h.2.2.1,h.2.2.2.1,ih h.2.2.2.2 k⟩
 |get v f s a r ih=>exact⟨h.1,h.2.1,h.2.2.1,h.2.2.2.1,ih h.2.2.2.2 k⟩
 |put f s a b r ih=>exact⟨h.1,h.2.1,h.2.2.1,h.2.2.2.1,ih h.2.2.2.2 k⟩
 |out a r ih=>exact⟨h.1,ih h.2 k⟩
 |atomic b r _ ih=>exact⟨h.1,h.2.1,h.2.2.1,ih h.2.2.2 k⟩
 |Es a b r _ ih=>exact⟨h.1,h.2.1,h.2.2.1,ih h.2.2.2 k⟩
 |loop n b r _ ih=>exact⟨h.1,h.2.1,h.2.2.1,ih h.2.2.2 k⟩
structure CB (c:Ez):Prop where
 ll:J c.CV=J c.BY
 l1:1<=J c.CV
 l4:J c.CV<=4
 ob:∀x,x∈c.CV->0<=x/\x<=64
 ib:∀x,x∈c.BY->0<=x/\x<=64
def Mf:Ez->List Nd->Prop
 |c,[]=>CB c
 |c,x::r=>CB c/\(x.kind=108->1<=x.n/\x.n<=4)/\Mf (c.step x) r
theorem Nf {a b:List Nd} (h:Mf c a) (k:Mf (a.foldl Ez.step c) b):Mf c (a++b):=by
 induction a generalizing c with
 |nil=>exact k
 |cons x r ih=>exact⟨h.1,h.2.1,ih h.2.2 k⟩
theorem P0 {l:List Nd} (h:Mf c l) (i:Nat):CB ((l.take i).foldl Ez.step c):=by
 induction l generalizing c i with
 |nil=>cases i<;>exact h
 |cons x r ih=>
  cases i with
  |zero=>exact h.1
  |succ i=>exact ih h.2.2 i
theorem Aa2 {l:List Nd} (h:Mf c l) (i:Nat) (hi:i<J l) (hk:l[i].kind=108):1<=l[i].n/\l[i].n<=4:=by
 induction l generalizing c i with
 |nil=>simp at hi
 |cons x r ih=>
  cases i with
  |zero=>exact h.2.1 hk
  |succ i=>exact ih h.2.2 i AC hk
structure CT (c:Ez) (os is_:List Int) (n m:Int):Prop where
 o:c.CV=os++[n]
 i:c.BY=is_++[m]
 l:J os=J is_
 l3:J os<=3
 ob:∀x,x∈os->0<=x/\x<=64
 ib:∀x,x∈is_->0<=x/\x<=64
 n0:0<=n
 n1:n<=4 ^ J os
 m0:0<=m
 m1:m<=4 ^ J os
theorem Ahb {k:Nat} (h:k<=3):(1:Int)<=4 ^ k/\(4:Int) ^ k<=64:=by
 have:k=0\/k=1\/k=2\/k=3:=Y
 rcases this with rfl|rfl|rfl|rfl<;>decide
theorem CT.cb {n:Int} (h:CT c os is_ n m):CB c:=by
 have hp:=(Ahb h.l3).2;have:=h.n1;have:=h.m1;have:=h.n0;have:=h.m0;have:=h.l3;have:=h.l;refine⟨by rw[h.o,h.i];simp[h.l],by rw[h.o];simp,by rw[h.o];simp;omega,λx hx=>?_,λx hx=>?_⟩<;>grind [CT]
theorem CT.push {n:Int} (h:CT c os is_ n m) (h2:J os<=2) {k:Int} (hk:1<=k/\k<=4) (b:Bool) {c':Ez} (ho:c'.CV=c.CV++[n*k]) (hi:c'.BY=c.BY++[if b then m*k else 1]):
  CT c' (os++[n]) (is_++[m]) (n*k) (if b then m*k else 1):=by
 have hp:=(Ahb h.l3);have hn:=h.n1;have hm:=h.m1;have IN:=h.n0;have Zt:=h.m0;have Al5:(4:Int) ^ (os++[n]).length=4 ^ J os*4:=by rw[GT,JN,Int.pow_succ]
 have hmul:∀x:Int,0<=x->x<=4 ^ J os->0<=x*k/\x*k<=4 ^ J os*4:=λx h0 h1=>⟨jN h0 Y,d9 h1 hk.2 Y Y⟩
 refine⟨by rw[ho,h.o],by rw[hi,h.i],by simp[h.l],by simp;omega,?_,?_,(hmul n IN hn).1,by rw[Al5];exact(hmul n IN hn).2,?_,?_⟩<;>grind [CT]
theorem CT.same {n:Int} (h:CT c os is_ n m) {c':Ez} (ho:c'.CV=c.CV) (hi:c'.BY=c.BY):CT c' os is_ n m:=
 ⟨ho.trans h.o,hi.trans h.i,h.l,h.l3,h.ob,h.ib,h.n0,h.n1,h.m0,h.m1⟩
theorem CT.Po {n:Int} (h:CT c os is_ n m) {c':Ez} (ho:c'.CV=c.CV) (hi:c'.BY=c.BY.dropLast++[1]):CT c' os is_ n 1:=by
 grind [Ahb,CT]
theorem Lx {c:Ez} {x:Nd} (h:x.kind≠108/\x.kind≠98/\x.kind≠40):(c.step x).CV=c.CV/\(c.step x).BY=c.BY:=by
 grind [Ez.step]
theorem vA (cells:Int) (t:Bj):∀(d p:Nat) (c:Ez) (BY:Bool) (os is_:List Int) (n m:Int),WF cells t d BY->CT c os is_ n m->J os<=d->d<=3->
  Mf c (Ca t d p)/\∃m',CT ((Ca t d p).foldl Ez.step c) os is_ n m':=by
 induction t with
 |nil=>intro d p c BY os is_ n m _ h _ _;exact⟨h.cb,m,h⟩
 |set v op a b r ih=>
  intro d p c BY os is_ n m hw h hd h3;have hs:= @Lx c {Nd.of 115 with v:=v,op:=op,a:=a,b:=b} ⟨by simp[Nd.of],by simp[Nd.of],by simp[Nd.of]⟩;exact maJ
 |get v f s a r ih=>
  intro d p c BY os is_ n m hw h hd h3;have hs:= @Lx c {Nd.of 103 with v:=v,first:=f,size:=s,AN:=a} ⟨by simp[Nd.of],by simp[Nd.of],by simp[Nd.of]⟩;exact maJ
 |put f s i a r ih=>
  intro d p c BY os is_ n m hw h hd h3;have hs:= @Lx c {Nd.of 112 with a:=a,first:=f,size:=s,AN:=i} ⟨by simp[Nd.of],by simp[Nd.of],by simp[Nd.of]⟩;exact maJ
 |out a r ih=>
  intro d p c BY os is_ n m hw h hd h3;have hs:= @Lx c {Nd.of 111 with a:=a} ⟨by simp[Nd.of],by simp[Nd.of],by simp[Nd.of]⟩;obtain⟨i1,i2⟩:=ih d (p+1) _ BY os is_ n m hw.2 (h.same hs.1 hs.2) hd h3;exact⟨⟨h.cb,by simp[Nd.of],i1⟩,i2⟩
 |Es a b r ihb ihr=>
  intro d p c BY os is_ n m hw h hd h3;have hs:= @Lx c {Nd.of 122 with a:=a,Af:=d,CL:=(p+1+Di b:Nat)} ⟨by simp[Nd.of],by simp[Nd.of],by simp[Nd.of]⟩;obtain⟨i1,m',i2⟩:=ihb (d+1) (p+1) _ BY os is_ n m hw.2.2.1 (h.same hs.1 hs.2) Y (by have:=hw.2.1;omega);obtain⟨j1,j2⟩:=ihr d (p+1+Di b) _ BY os is_ n m' hw.2.2.2 i2 hd h3;refine⟨⟨h.cb,by simp[Nd.of],Nf i1 j1⟩,?_⟩<;>grind [Ca]
 |atomic b r ihb ihr=>
  intro d p c BY os is_ n m hw h hd h3;have h1:CT (c.step {Nd.of 40 with Af:=d,CL:=(p+1+Di b+1:Nat)}) os is_ n 1:=h.Po (by simp[Ez.step,Nd.of]) (by simp[Ez.step,Nd.of]);obtain⟨i1,m',i2⟩:=ihb (d+1) (p+1) _ V os is_ n 1 hw.2.2.1 h1 Y (by have:=hw.2.1;omega);have hs:= @Lx ((Ca b (d+1) (p+1)).foldl Ez.step (c.step {Nd.of 40 with Af:=d,CL:=(p+1+Di b+1:Nat)})) (.of 41) ⟨by simp[Nd.of],by simp[Nd.of],by simp[Nd.of]⟩;obtain⟨j1,j2⟩:=ihr d (p+1+Di b+1) _ BY os is_ n m' hw.2.2.2 (i2.same hs.1 hs.2) hd h3;refine⟨⟨h.cb,by simp[Nd.of],Nf i1 ⟨i2.cb,by simp[Nd.of],j1⟩⟩,?_⟩<;>grind [Ca]
 |loop k b r ihb ihr=>
  intro d p c BY os is_ n m hw h hd h3;have IP:(c.CV.getLast?).getD 0=n:=by rw[h.o];simp
  have pG:(c.BY.getLast?).getD 0=m:=by rw[h.i];simp
  have h1:CT (c.step {Nd.of 108 with n:=k,Af:=d,CL:=(p+1+Di b+1:Nat)}) (os++[n]) (is_++[m]) (n*k) (if c.Ff then m*k else 1):=
   h.push (by have:=hw.2.1;omega) hw.1 c.Ff (by grind [Ez.step,Nd.of]) (by grind [Ez.step,Nd.of])
  obtain⟨i1,m',i2⟩:=ihb (d+1) (p+1) _ BY _ _ _ _ hw.2.2.1 h1 (by simp;omega) (by have:=hw.2.1;omega);have h2:CT (((Ca b (d+1) (p+1)).foldl Ez.step (c.step {Nd.of 108 with n:=k,Af:=d,CL:=(p+1+Di b+1:Nat)})).step {Nd.of 98 with CL:=(p+1:Nat),Af:=d}) os is_ n m:=by
   grind [Ez.step,Nd.of,CT]
  obtain⟨j1,j2⟩:=ihr d (p+1+Di b+1) _ BY os is_ n m hw.2.2.2 h2 hd h3;refine⟨⟨h.cb,λ_=>hw.1,Nf i1 ⟨i2.cb,by simp[Nd.of],j1⟩⟩,?_⟩<;>grind [Ca]
theorem AiB (cells:Int) (t:Bj):∀(d p:Nat) (c:Ez) (os is_:List Int) (n m:Int),WF cells t d V->CT c os is_ n m->J os<=d->d<=3->c.Ff=V->c.An<=c.BE->
  ∃o,As t m=U (0,o)/\0<=o/\(Ca t d p).foldl Ez.step c={c with An:=c.An+o,BE:=max c.BE (c.An+o)}:=by
 induction t with
 |nil=>intro d p c os is_ n m _ h _ _ hi hm;exact⟨0,rfl,Y,by simp only[Ca,List.foldl_nil];rw[show max c.BE (c.An+0)=c.BE by omega,Int.add_zero]⟩
 |set v op a b r ih=>
  exact maD
 |get v f s a r ih=>
  exact maD
 |put f s i a r ih=>
  exact maD
 |out a r ih=>
  intro d p c os is_ n m hw h hd h3 hi hm;have pG:(c.BY.getLast?).getD 0=m:=by rw[h.i];simp
  have e:c.step {Nd.of 111 with a:=a}={c with An:=c.An+m,BE:=max c.BE (c.An+m)}:=by
   unfold Ez.step;simp[Nd.of,hi,pG];split<;>omega
  have Zt:=h.m0;obtain⟨o,i1,i2,i3⟩:=ih d (p+1) {c with An:=c.An+m,BE:=max c.BE (c.An+m)} os is_ n m hw.2 (h.same rfl rfl) hd h3 hi (by simp;omega);refine⟨m+o,by simp[As,i1],Y,?_⟩;simp only[Ca,Qy];rw[e,i3];exact mbq
 |Es a b r ihb ihr=>
  intro d p c os is_ n m hw h hd h3 hi hm;obtain⟨o,i1,i2,i3⟩:=ihb (d+1) (p+1) c os is_ n m hw.2.2.1 h Y (by have:=hw.2.1;omega) hi hm;obtain⟨o',j1,j2,j3⟩:=ihr d (p+1+Di b) {c with An:=c.An+o,BE:=max c.BE (c.An+o)} os is_ n m hw.2.2.2 (h.same rfl rfl) hd h3 hi (by simp;omega);refine⟨o+o',by simp[As,i1,j1],Y,?_⟩;simp only[Ca,Qy,Qv];rw[show c.step {Nd.of 122 with a:=a,Af:=d,CL:=(p+1+Di b:Nat)}=c by simp[Ez.step,Nd.of],i3,j3];exact mbq
 |atomic b r ihb ihr=>intro d p c os is_ n m hw;exact Jk hw.1 Do
 |loop k b r ihb ihr=>
  intro d p c os is_ n m hw h hd h3 hi hm;have IP:(c.CV.getLast?).getD 0=n:=by rw[h.o];simp
  have pG:(c.BY.getLast?).getD 0=m:=by rw[h.i];simp
  have h1:CT (c.step {Nd.of 108 with n:=k,Af:=d,CL:=(p+1+Di b+1:Nat)}) (os++[n]) (is_++[m]) (n*k) (m*k):=by
   have:=h.push (by have:=hw.2.1;omega) hw.1 V (c':=c.step {Nd.of 108 with n:=k,Af:=d,CL:=(p+1+Di b+1:Nat)}) (by grind [Ez.step,Nd.of]) (by grind [Ez.step,Nd.of]);grind
  have e1:c.step {Nd.of 108 with n:=k,Af:=d,CL:=(p+1+Di b+1:Nat)}={c with CV:=c.CV++[n*k],BY:=c.BY++[m*k]}:=by grind [Ez.step,CT]
  rw[e1] at h1;obtain⟨o,i1,i2,i3⟩:=ihb (d+1) (p+1) _ _ _ _ _ hw.2.2.1 h1 (by simp;omega) (by have:=hw.2.1;omega) hi hm;obtain⟨o',j1,j2,j3⟩:=ihr d (p+1+Di b+1) {c with An:=c.An+o,BE:=max c.BE (c.An+o)} os is_ n m hw.2.2.2 (h.same rfl rfl) hd h3 hi (by simp;omega);refine⟨o+o',by simp[As,i1,j1],Y,?_⟩;simp only[Ca,Qy,Qv];rw[e1,i3];rw[show Ez.step {blocks:=c.blocks,An:=c.An+o,BE:=max c.BE (c.An+o),CV:=c.CV++[n*k],BY:=c.BY++[m*k],Ff:=c.Ff} {Nd.of 98 with CL:=(p+1:Nat),Af:=d}={c with An:=c.An+o,BE:=max c.BE (c.An+o)} by simp[Ez.step,Nd.of],j3];exact mbq
theorem AfG (cells:Int) (t:Bj):∀(d p:Nat) (c:Ez) (os is_:List Int) (n:Int),WF cells t d I->CT c os is_ n 1->J os<=d->d<=3->c.Ff=I->0<=c.BE->
  ∃B O M,(Ca t d p).foldl Ez.step c={c with blocks:=B,An:=O,BE:=M}/\0<=M/\(M<=8<->c.BE<=8/\(As t n).isSome=V)/\∀b o,As t n=U (b,o)->B=c.blocks+b:=by
 induction t with
 |nil=>intro d p c os is_ n _ h _ _ hi hm;exact⟨c.blocks,c.An,c.BE,rfl,hm,by simp[As],by simp[As]⟩
 |set v op a b r ih=>
  intro d p c os is_ n hw h hd h3 hi hm;obtain⟨B,O,M,i1,i2⟩:=ih d (p+1) c os is_ n hw.2.2.2.2 h hd h3 hi hm;refine⟨B,O,M,?_,i2⟩<;>grind [Ca,Nd.of,Ez.step]
 |get v f s a r ih=>intro d p c os is_ n hw;exact Jk hw.2.2.2.1 Do
 |put f s i a r ih=>intro d p c os is_ n hw;exact Jk hw.2.2.2.1 Do
 |out a r ih=>
  intro d p c os is_ n hw h hd h3 hi hm;obtain⟨B,O,M,i1,i2,i3,i4⟩:=ih d (p+1) c os is_ n hw.2 h hd h3 hi hm<;>grind [Ca,Nd.of,Ez.step,As]
 |Es a b r ihb ihr=>
  intro d p c os is_ n hw h hd h3 hi hm;obtain⟨B,O,M,i1,i2,i3,i4⟩:=ihb (d+1) (p+1) c os is_ n hw.2.2.1 h Y (by have:=hw.2.1;omega) hi hm;obtain⟨B',O',M',j1,j2,j3,j4⟩:=ihr d (p+1+Di b) {c with blocks:=B,An:=O,BE:=M} os is_ n hw.2.2.2 (h.same rfl rfl) hd h3 hi i2;refine⟨B',O',M',?_,j2,?_,?_⟩
  .simp only[Ca,Qy,Qv];rw[show c.step {Nd.of 122 with a:=a,Af:=d,CL:=(p+1+Di b:Nat)}=c by simp[Ez.step,Nd.of],i1,j1]
  grind [As];grind [As]
 |atomic b r ihb ihr=>
  intro d p c os is_ n hw h hd h3 hi hm;have IP:(c.CV.getLast?).getD 0=n:=by rw[h.o];simp
  have e1:c.step {Nd.of 40 with Af:=d,CL:=(p+1+Di b+1:Nat)}={c with blocks:=c.blocks+n,An:=0,Ff:=V}:=by
   grind [Ez.step,Nd.of,CT]
  obtain⟨o,a1,a2,a3⟩:=AiB cells b (d+1) (p+1) {c with blocks:=c.blocks+n,An:=0,Ff:=V} os is_ n 1 hw.2.2.1 (h.same rfl rfl) Y (by have:=hw.2.1;omega) rfl hm;obtain⟨B',O',M',j1,j2,j3,j4⟩:=ihr d (p+1+Di b+1) {c with blocks:=c.blocks+n,An:=0+o,BE:=max c.BE (0+o)} os is_ n hw.2.2.2 (h.same rfl rfl) hd h3 hi (by simp;omega);refine⟨B',O',M',?_,j2,?_,?_⟩
  .simp only[Ca,Qy,Qv];rw[e1,a3];rw[show Ez.step {blocks:=c.blocks+n,An:=0+o,BE:=max c.BE (0+o),CV:=c.CV,BY:=c.BY,Ff:=V} (Nd.of 41)={c with blocks:=c.blocks+n,An:=0+o,BE:=max c.BE (0+o)} by simp[Ez.step,Nd.of,hi],j1]
  grind [As];grind [As]
 |loop k b r ihb ihr=>
  intro d p c os is_ n hw h hd h3 hi hm;have IP:(c.CV.getLast?).getD 0=n:=by rw[h.o];simp
  have h1:CT (c.step {Nd.of 108 with n:=k,Af:=d,CL:=(p+1+Di b+1:Nat)}) (os++[n]) (is_++[1]) (n*k) 1:=by
   have:=h.push (by have:=hw.2.1;omega) hw.1 I (c':=c.step {Nd.of 108 with n:=k,Af:=d,CL:=(p+1+Di b+1:Nat)}) (by grind [Ez.step,Nd.of]) (by simp[Ez.step,Nd.of,hi]);grind
  have e1:c.step {Nd.of 108 with n:=k,Af:=d,CL:=(p+1+Di b+1:Nat)}={c with CV:=c.CV++[n*k],BY:=c.BY++[1]}:=by grind [Ez.step,CT]
  rw[e1] at h1;obtain⟨B,O,M,i1,i2,i3,i4⟩:=ihb (d+1) (p+1) _ _ _ _ hw.2.2.1 h1 (by simp;omega) (by have:=hw.2.1;omega) hi hm;obtain⟨B',O',M',j1,j2,j3,j4⟩:=ihr d (p+1+Di b+1) {c with blocks:=B,An:=O,BE:=M} os is_ n hw.2.2.2 (h.same rfl rfl) hd h3 hi i2;refine⟨B',O',M',?_,j2,?_,?_⟩
  .simp only[Ca,Qy,Qv];rw[e1,i1];rw[show Ez.step {blocks:=B,An:=O,BE:=M,CV:=c.CV++[n*k],BY:=c.BY++[1],Ff:=c.Ff} {Nd.of 98 with CL:=(p+1:Nat),Af:=d}={c with blocks:=B,An:=O,BE:=M} by simp[Ez.step,Nd.of],j1]
  .rw[j3];show M<=8/\_<->_;rw[i3];simp only[As];grind
  .intro x o hb;simp only[As] at hb;grind
theorem CT.Dr:CT .Dr [] [] 1 1:=⟨rfl,rfl,rfl,EQ,EQ,EQ,Y,EQ,Y,EQ⟩
theorem ri {cells:Int} (h:WF cells t 0 I):(decide (3<(Ie (Ca t 0 0)).1) || decide (8<(Ie (Ca t 0 0)).2))= !(match As t 1 with|none=>I|some (b,_)=>decide (b<=3)):=by
 obtain⟨B,O,M,h1,h2,h3,h4⟩:=AfG cells t 0 0 .Dr [] [] 1 h .Dr EQ Y rfl (by simp[Ez.Dr])<;>grind [Ez.Dr,Ie]
theorem Ael {cells:Int} (h:WF cells t 0 I):Mf .Dr (Ca t 0 0):=(vA cells t 0 0 .Dr I [] [] 1 1 h .Dr EQ Y).1
def Zo (v:Int):Prop:= -9223372036854775808<=v/\v<=9223372036854775807
theorem eP (n:Int):Zo (wrap64 n):=by grind [Zo,wrap64]
theorem aQ (b:Bool) (l:By) (v x:Int) (hv:Zo v) (h:ED b l v=U x):Zo x:=by
 induction l generalizing v<;>grind [ED,eP]
theorem fH {l:By} (h:number l=U v):Zo v:=by
 rw[Se l (l.headD 0==45) (if (l.headD 0==45)=V then l.tail else l) (if (l.headD 0==45)=V then La else K8) rfl rfl rfl] at h;generalize (if (l.headD 0==45)=V then l.tail else l)=T at h;generalize (if (l.headD 0==45)=V then La else K8)=M at h;generalize (l.headD 0==45)=B at h;by_cases hb:F3 B T M=V;grind
 .rw[In hb] at h;exact aQ _ _ _ _ (by unfold Zo;omega) h
def PB (w:Wd):Prop:=Zo w.v
theorem uO (a:ByteArray):PB (DK a):=by
 unfold DK;split
 .simp[PB,Zo]
 .unfold PB;cases h:number (bs a)<;>grind [Zo,fH]
theorem LJ {w:Wd} {r:Ws} (h:ES l=U (w,r)):PB w:=by
 cases l with
 |nil=>cases h
 |cons a q=>
  rw[Ct] at h;grind [uO]
theorem PB.zero:PB .zero:=by simp[PB,Zo,Wd.zero]
theorem Adq {w:Wd} {r:Ws} (h:atF l=U (w,r)):PB w:=by
 cases l with
 |nil=>cases h;exact .zero
 |cons a q=>
  rw[FA] at h;split at h
  .exact LJ h
  .cases h;exact .zero
theorem fz (l:List ByteArray) (x:ByteArray) (k:Nat):Ee l x k= -1\/(k<=Ee l x k/\Ee l x k<k+J l):=by
 induction l generalizing k<;>grind [Ee]
theorem PZ (l:List ByteArray) (x:ByteArray):Be l x<J l:=by
 grind [fz,Be]
theorem Aa7 {op:ByteArray} (h:vF a=U op):op∈B4:=by
 unfold vF at h;split at h
 .rename_i h0;cases h;have hb:=PZ Dc a;have e:J Dc=12:=rfl;have:(Be Dc a).toNat<J B4:=by
   have:J B4=12:=rfl;omega
  grind [wd]
 .cases h
def AgF:Vw->Prop
 |.set _ a op b=>PB a/\(op.size=0\/op∈B4)/\PB b
 |.get _ _ a=>PB a
 |.put _ a i=>PB a/\PB i
 |.out a=>PB a
 |.atomic=>True
 |.Es a=>PB a
 |.loop n=>1<=n/\n<=4
theorem Fi {α:Type} {x y:α} (h:GM x l=U y):x=y:=by
 cases l with
 |nil=>cases h;rfl
 |cons a r=>cases h
theorem Aek {w:ByteArray} {r:Ws} {s:Vw} (h:IF w r=U s):AgF s:=by
 unfold IF at h;split at h
 .unfold Kd at h;split at h
  .cases h
  .split at h
   .cases h
   .rename_i hw;cases h;exact⟨LJ hw,.inl rfl,.zero⟩
   .rename_i hw;split at h
    .cases h
    .rename_i ho;split at h
     .cases h
     .rename_i Mi;have:=Fi h;subst this;exact⟨LJ hw,.inr (Aa7 ho),LJ Mi⟩
 split at h
 .unfold LY at h;split at h
  .cases h
  .split at h
   .cases h
   .split at h
    .cases h
    .rename_i ha;have:=Fi h;subst this;exact Adq ha
 split at h
 .unfold LW at h;split at h
  .cases h
  .split at h
   .cases h
   .rename_i hw;split at h
    .cases h
    .rename_i ha;have:=Fi h;subst this;exact⟨LJ hw,Adq ha⟩
 split at h
 .exact mbM
 split at h
 .have:=Fi h;subst this;trivial
 split at h
 .exact mbM
 split at h
 .unfold Lk at h;split at h
  .cases h
  .rename_i hu;have:=Fi h;subst this;unfold Il at hu;split at hu
   .cases hu
   .split at hu
    .rename_i hc;cases hu;exact⟨hc.2.1,hc.2.2⟩
    .cases hu
 .cases h
def KQ.ok (k:KQ) (i:Bool):Prop:=match k with
 |.atomic=>i=I
 |.Es a=>DO a
 |.loop n=>1<=n/\n<=4
def WFO (cells:Int):List Fr->Nat->Bool->Prop
 |[],_,_=>True
 |f::fs,d,i=>f.kind.ok i/\d<3/\WF cells f.body (d+1) (i || f.kind.Cn)/\WFO cells fs (d+1) (i || f.kind.Cn)
theorem X8 (cells:Int) (fs gs:List Fr) (d:Nat) (i:Bool):WFO cells (fs++gs) d i<->WFO cells fs d i/\WFO cells gs (d+J fs) (i || fs.any λf=>f.kind.Cn):=by
 induction fs generalizing d i<;>grind [WFO,List.length_cons,Bool.or_assoc]
structure FW (x:qH):Prop where
 c0:0<=x.cells
 sh:∀s,s∈x.Ax->0<=s.first/\1<=s.size/\s.first+s.size<=x.cells
 ll:J x.AA<=4
 th:∀t,t∈x.Aa->WF x.cells t 0 I
 wo:WFO x.cells x.Ad 0 I
 te:x.Aa=[]->x.Ad=[]
def IE:Bj->Int
 |.nil=>0
 |.set _ _ _ _ r=>1+IE r
 |.get _ _ _ _ r=>1+IE r
 |.put _ _ _ _ r=>1+IE r
 |.out _ r=>1+IE r
 |.atomic b r=>1+IE b+IE r
 |.Es _ b r=>1+IE b+IE r
 |.loop _ b r=>1+IE b+IE r
theorem eZ (s t:Bj):IE (s.FQ t)=IE s+IE t:=by
 induction s<;>simp_all[Bj.FQ,IE]<;>omega
def Mk:List Fr->Int
 |[]=>0
 |f::fs=>1+IE f.body+Mk fs
theorem Yv (a b:List Fr):Mk (a++b)=Mk a+Mk b:=by
 induction a<;>grind [Mk]
theorem Tq (s:Bj):0<=IE s:=by induction s<;>simp_all[IE]<;>omega
theorem fa (l:List Fr):0<=Mk l:=by
 induction l with
 |nil=>simp[Mk]
 |cons f fs ih=>have:=Tq f.body;grind [Mk]
structure FN (x:qH):Prop where
 s0:0<=x.Ah
 s1:x.Ah<=14
 all:∀t,t∈x.Aa->IE t<=14
 tot:∀ts t,x.Aa=ts++[t]->IE t+Mk x.Ad<=x.Ah
theorem FW.Dr:FW .Dr:=by
 refine⟨?_,?_,?_,?_,?_,?_⟩<;>simp[qH.Dr,WFO]
theorem FN.Dr:FN .Dr:=by
 refine⟨?_,?_,?_,?_⟩<;>simp[qH.Dr]
theorem eD (ht:x.Aa=ts++[t]) (s:Bj->Bj):
  (x.Ad=[]/\x.add s={x with Aa:=ts++[t.FQ (s .nil)]})\/∃fs f,x.Ad=fs++[f]/\x.add s={x with Ad:=fs++[{f with body:=f.body.FQ (s .nil)}]}:=by
 grind [List.eq_nil_or_concat x.Ad,qH.add]
theorem XW {α:Type} {l:List α} (h:l≠[]):∃a b,l=a++[b]:=by
 grind [List.eq_nil_or_concat l]
theorem FW.add (h:FW x) (ht:x.Aa≠[]) (s:Bj->Bj) (hs:WF x.cells (s .nil) (J x.Ad) x.BB):FW (x.add s):=by
 obtain⟨ts,t,ht⟩:=XW ht;obtain⟨c0,sh,ll,th,wo,te⟩:=h;rcases eD ht s with⟨h0,e⟩|⟨fs,f,h0,e⟩
 .rw[e];unfold qH.BB at hs;rw[h0] at hs;refine⟨c0,sh,ll,λu hu=>?_,wo,λhh=>by simp at hh⟩<;>grind [WF.FQ]
 .rw[e];unfold qH.BB at hs;rw[h0] at hs wo;rw[X8] at wo;refine⟨c0,sh,ll,th,?_,λhh=>by rw[ht] at hh;simp at hh⟩<;>grind [WFO,X8,WF.FQ]
theorem FN.add (ht:x.Aa=ts++[t]) (DT:∀t,t∈ts->IE t<=14) (s:Bj->Bj) (n:Int) (h0:0<=n) (OR:n<=14)
  (fU:IE t+Mk x.Ad+IE (s .nil)<=n):FN {x.add s with Ah:=n}:=by
 have hnn:=fa x.Ad;rcases eD ht s with⟨ho,e⟩|⟨fs,f,ho,e⟩
 .rw[e];rw[ho] at fU;refine⟨h0,OR,λu hu=>?_,λus u hu=>?_⟩
  .simp only[Jp,GE] at hu;grind [eZ]
  .have lf:ts++[t.FQ (s .nil)]=us++[u]:=hu;grind [List.append_inj' lf rfl,eZ]
 .rw[e];refine⟨h0,OR,λu hu=>?_,λus u hu=>?_⟩;grind [Tq (s .nil)]
  .have lf:x.Aa=us++[u]:=hu;rw[ht] at lf;obtain⟨rfl,AlQ⟩:=QH lf rfl;cases AlQ;show IE t+Mk (fs++[_])<=n;rw[ho] at fU;rw[Yv] at fU⊢;grind [Mk,eZ]
theorem FW.DU (h:FW x) (ht:x.Aa≠[]) (k:KQ) (hk:k.ok x.BB) (h3:J x.Ad<3):FW (x.DU k):=by
 obtain⟨c0,sh,ll,th,wo,te⟩:=h;refine⟨c0,sh,ll,th,?_,λhh=>Jk hh ht⟩;show WFO x.cells (x.Ad++[⟨k,.nil⟩]) 0 I;rw[X8];refine⟨wo,?_,Y,trivial,trivial⟩<;>grind [qH.BB]
theorem Su (h:J x.AA<=4) {w:Wd} (hw:PB w) {a:At} (he:x.Cz w=.ok a):DO a:=by
 grind [qH.Cz,DO,PB,Zo,PZ x.AA w.name]
theorem kN (h:FW x) {n:ByteArray} {v:Int} {y:qH} (he:x.Df n=.ok (v,y)):FW y/\(0<=v/\v<4)/\y.Aa=x.Aa/\y.Ad=x.Ad/\y.Ah=x.Ah/\y.cells=x.cells:=by
 unfold qH.Df at he;split at he
 .cases he
 .split at he;grind [PZ x.AA n,FW]
  .split at he
   .cases he
   .cases he<;>grind [FW]
theorem ue (h:FW x) {n:ByteArray} {w:Wd} (hw:PB w) {f z:Int} {a:At} (he:x.cell n w=.ok (f,z,a)):(0<=f/\1<=z/\f+z<=x.cells)/\DO a:=by
 unfold qH.cell at he;cases hf:x.Wj n with
 |none=>rw[hf] at he;cases he
 |some s=>
  rw[hf] at he;grind [List.mem_of_find?_eq_some hf,Su,FW]
theorem gn (h:FW x) (ht:x.Aa≠[]) {s:Vw} (hs:AgF s) (hb:s.Cn=V->x.BB=V) (ha:s=.atomic->x.BB=I) (he:x.finish s=.ok y):
  ∃x',FW x'/\x'.Aa=x.Aa/\x'.Ad=x.Ad/\x'.Ah=x.Ah/\x'.cells=x.cells/\
   ((∃f,y=x'.add f/\WF x.cells (f .nil) (J x.Ad) x.BB/\IE (f .nil)=1)\/∃k,y=x'.DU k/\k.ok x.BB):=by
 cases s with
 |set n a op b=>
  unfold qH.finish at he;simp only[] at he;cases h1:x.Cz a with
  |error c=>rw[h1] at he;cases he
  |ok a'=>
   rw[h1] at he;simp only[] at he;cases h2:x.Cz b with
   |error c=>rw[h2] at he;cases he
   |ok b'=>
    rw[h2] at he;simp only[] at he;cases h3:x.Df n with
    |error c=>rw[h3] at he;cases he
    |ok q=>
     obtain⟨v,x'⟩:=q;rw[h3] at he;cases he;obtain⟨k1,k2,k3,k4,k5,k6⟩:=kN h h3;exact⟨x',k1,k3,k4,k5,k6,.inl ⟨_,rfl,⟨k2,hs.2.1,Su h.ll hs.1 h1,Su h.ll hs.2.2 h2,trivial⟩,by simp[IE]⟩⟩
 |get n s AN=>
  unfold qH.finish at he;simp only[] at he;cases h1:x.cell s AN with
  |error c=>rw[h1] at he;cases he
  |ok q=>
   obtain⟨f,z,a⟩:=q;rw[h1] at he;simp only[] at he;cases h3:x.Df n with
   |error c=>rw[h3] at he;cases he
   |ok q=>
    obtain⟨v,x'⟩:=q;rw[h3] at he;cases he;obtain⟨k1,k2,k3,k4,k5,k6⟩:=kN h h3;obtain⟨c1,c2⟩:=ue h hs h1;exact⟨x',k1,k3,k4,k5,k6,.inl ⟨_,rfl,⟨k2,c1,c2,hb rfl,trivial⟩,by simp[IE]⟩⟩
 |put s a AN=>
  unfold qH.finish at he;simp only[] at he;cases h1:x.cell s AN with
  |error c=>rw[h1] at he;cases he
  |ok q=>
   obtain⟨f,z,i⟩:=q;rw[h1] at he;simp only[] at he;cases h2:x.Cz a with
   |error c=>rw[h2] at he;cases he
   |ok a'=>
    rw[h2] at he;cases he;obtain⟨c1,c2⟩:=ue h hs.2 h1;exact⟨x,h,rfl,rfl,rfl,rfl,.inl ⟨_,rfl,⟨c1,c2,Su h.ll hs.1 h2,hb rfl,trivial⟩,by simp[IE]⟩⟩
 |out a=>
  unfold qH.finish at he;simp only[] at he;cases h1:x.Cz a with
  |error c=>rw[h1] at he;cases he
  |ok a'=>
   rw[h1] at he;cases he;exact⟨x,h,rfl,rfl,rfl,rfl,.inl ⟨_,rfl,⟨Su h.ll hs h1,trivial⟩,by simp[IE]⟩⟩
 |atomic=>
  unfold qH.finish at he;cases he;exact⟨x,h,rfl,rfl,rfl,rfl,.inr ⟨_,rfl,ha rfl⟩⟩
 |Es a=>
  unfold qH.finish at he;simp only[] at he;cases h1:x.Cz a with
  |error c=>rw[h1] at he;cases he
  |ok a'=>
   rw[h1] at he;cases he;exact⟨x,h,rfl,rfl,rfl,rfl,.inr ⟨_,rfl,Su h.ll hs h1⟩⟩
 |loop n=>
  unfold qH.finish at he;cases he;exact⟨x,h,rfl,rfl,rfl,rfl,.inr ⟨_,rfl,hs⟩⟩
theorem iZ {w:ByteArray} {r:Ws} (h:IF w r=U .atomic):bs w=A8:=by
 unfold IF at h;split at h
 .unfold Kd at h;split at h<;>grind [Fi]
 grind [LY,Fi,LW,Fk,Lk]
theorem FW.iP (h:FW x) (n:Int):FW {x with Ah:=n}:=⟨h.c0,h.sh,h.ll,h.th,h.wo,h.te⟩
theorem eX (h:FW x) (k:FN x) {w:ByteArray} {r:Ws} (he:x.Bd w r=.ok y):FW y/\FN y:=by
 unfold qH.Bd at he;cases hr:IF w r with
 |none=>rw[hr] at he;cases he
 |some s=>
  rw[hr] at he;simp only[] at he;split at he
  .cases he
  .rename_i bj;cases hf:x.finish s with
   |error c=>rw[hf] at he;cases he
   |ok z=>
    rw[hf] at he;simp only[] at he;split at he
    .cases he
    .rename_i Eo;cases he;have ht:x.Aa≠[]:=AC;have hb:s.Cn=V->x.BB=V:=AC;have ha:s=.atomic->x.BB=I:=λh1=>by
      grind [iZ]
     obtain⟨x',g1,g2,g3,g4,g5,Acz⟩:=gn h ht (Aek hr) hb ha hf;have Kw:x'.Aa≠[]:=by rw[g2];exact ht
     obtain⟨ts,t,htt⟩:=XW Kw;have AjS:x.Aa=ts++[t]:=by rw[<-g2];exact htt
     have Pv:x'.BB=x.BB:=by unfold qH.BB;rw[g3]
     have fU:=k.tot ts t AjS;have Xo:=k.s0;rcases Acz with⟨f,rfl,c1,c2⟩|⟨q,rfl,c1⟩
     .have Aw:(x'.add f).Ah=x.Ah:=by rw[Wv Kw,g4]
      rw[Aw] at Eo⊢;have hl:x.Ah+1<=14:=by
       grind
      refine⟨(g1.add Kw f (by rw[g5,g3,Pv];exact c1)).iP _,FN.add htt (λu hu=>k.all u (by rw[AjS];simp[hu])) f _ Y hl ?_⟩<;>grind
     .have Aw:(x'.DU q).Ah=x.Ah:=g4;have Um:(x'.DU q).EV=J x.Ad+2:=by
       rw[Y2 (x:=x'.DU q) Kw];grind [qH.DU]
      rw[Aw,Um] at Eo;rw[Aw];have hl:x.Ah+1<=14/\J x.Ad<3:=by
       grind
      refine⟨(g1.DU Kw q (by rw[Pv];exact c1) (by rw[g3];exact hl.2)).iP _,⟨AC,hl.1,λu hu=>k.all u (by rw[<-g2];exact hu),λus u hu=>?_⟩⟩;have lf:x'.Aa=us++[u]:=hu;rw[g2] at lf;have:=k.tot us u lf;show IE u+Mk (x'.Ad++[⟨q,.nil⟩])<=x.Ah+1;rw[Yv,g3];grind [Mk,IE]
theorem nY {r:Ws} {z:Int} {q:Ws} (h:(match r with|[]=>U ((1:Int),([]:Ws))|a::r=>Il 6 (a::r))=U (z,q)):1<=z:=by
 grind [Il]
theorem qH.oq (h:FW x) (k:FN x) {l:Ws} (he:x.row l=.ok y):FW y/\FN y:=by
 cases l with
 |nil=>cases he
 |cons w r=>
  unfold qH.row at he;simp only[] at he;split at he
  .unfold qH.Ec at he;split at he
   .cases he
   .split at he
    .cases he
    .cases he
    .rename_i hz;split at he
     .cases he
     .rename_i ht;split at he
      .cases he
      .cases he;have Kw:x.Aa=[]:=AC
       have Lb:=nY hz;refine⟨⟨by have:=h.c0;simp;omega,λs hs=>?_,h.ll,by simp[Kw],by simp[h.te Kw,WFO],λ_=>h.te Kw⟩,⟨k.s0,k.s1,k.all,k.tot⟩⟩<;>grind [FW]
  split at he
  .split at he
   .cases he
   .split at he
    .cases he
    .cases he;refine⟨⟨h.c0,h.sh,EQ,λt ht=>?_,trivial,AC⟩,⟨EQ,EQ,λt ht=>?_,λts t ht=>?_⟩⟩
     .simp only[Jp,GE] at ht;rcases ht with ht|rfl
      .exact h.th t ht
      .trivial
     grind [IE,FN];grind [List.append_inj',IE,Mk]
  split at he
  .split at he
   .cases he
   .cases ho:x.Ad.getLast? with
    |none=>rw[ho] at he;cases he
    |some f=>
     rw[ho] at he;cases he;have hne:x.Ad≠[]:=AC;obtain⟨fs,f',hfs⟩:=XW hne;have:f'=f:=by rw[hfs] at ho;grind
     subst this;have ht:x.Aa≠[]:=λh'=>hne (h.te h')
     obtain⟨ts,t,htt⟩:=XW ht;have hwo:=h.wo;rw[hfs,X8] at hwo;obtain⟨w1,w2,w3,w4,_⟩:=hwo;have hx:FW {x with Ad:=x.Ad.dropLast}:=⟨h.c0,h.sh,h.ll,h.th,by rw[hfs];grind,AC⟩;have fU:=k.tot ts t htt;refine⟨hx.add ht f'.done ?_,?_⟩
     .show WF x.cells (f'.done .nil) (J x.Ad.dropLast) (x.Ad.dropLast.any _);rw[hfs,PP];rw[JH] at w3 w4;rw[jD] at w2 w4;rcases f' with⟨kd,body⟩;cases kd with
      |atomic=>
       have h2:(fs.any λf=>f.kind.Cn)=I:=w2;exact⟨h2,w3,by grind [KQ.Cn],trivial⟩
      |Es a=>exact⟨w2,w3,by grind [KQ.Cn],trivial⟩
      |loop n=>exact⟨w2,w3,by grind [KQ.Cn],trivial⟩
     .have Aw:(({x with Ad:=x.Ad.dropLast}:qH).add f'.done).Ah=x.Ah:=Wv (x:={x with Ad:=x.Ad.dropLast}) ht _;have:=FN.add (x:={x with Ad:=x.Ad.dropLast}) htt (λu hu=>k.all u (by rw[htt];simp[hu])) f'.done x.Ah k.s0 k.s1 (by
        show IE t+Mk x.Ad.dropLast+IE (f'.done .nil)<=x.Ah;rw[hfs] at fU⊢;rw[PP];rw[Yv] at fU;rcases f' with⟨kd,body⟩;cases kd<;>simp[Fr.done,IE,Mk] at fU⊢<;>omega)
      grind [FN]
  grind [eX]
structure PS (y:qH) (p:RP):Prop where
 Aa:p.Aa=y.Aa.map (Ca · 0 0)
 cells:p.cells=y.cells
 B5:Ej y=V
 fw:FW y
 fn:FN y
 op:y.Ad=[]
 ne:y.Aa≠[]
def uI (a:Except (Int×Nat) qH) (b:Except (Int×Nat) RP):Prop:=match a,b with
 |.error c,.error d=>c=d
 |.ok y,.ok p=>PS y p
 |_,_=>False
theorem kT (h:Ms x r) (hw:FW x) (ho:x.Ad=[]):
  ((r.p.Aa.any λt=>decide (3<(Ie t).1) || decide (8<(Ie t).2)) || (decide (6<r.p.cells) || decide (3<J r.p.Aa)))= !Ej x/\r.p.Aa=x.Aa.map (Ca · 0 0):=by
 have e:r.p.Aa=x.Aa.map (Ca · 0 0):=by
  grind [Gz,Ms]
 refine⟨?_,e⟩;rw[e,h.cells,JZ];unfold Ej;have e2:∀l:List Bj,(∀t,t∈l->WF x.cells t 0 I)->((l.map (Ca · 0 0)).any λt=>decide (3<(Ie t).1) || decide (8<(Ie t).2))= !(l.all λt=>match As t 1 with|none=>I|some (b,_)=>decide (b<=3)):=by
  intro l hl;induction l<;>grind [ri]
 rw[e2 _ hw.th];generalize (x.Aa.all λt=>match As t 1 with|none=>I|some (b,_)=>decide (b<=3))=A;have e3:decide (x.cells<=6)= !decide (6<x.cells):=by by_cases h:6<x.cells<;>simp[h]<;>omega
 have e4:decide (J x.Aa<=3)= !decide (3<J x.Aa):=by by_cases h:3<J x.Aa<;>simp[h]<;>omega
 rw[e3,e4];cases A<;>cases decide (6<x.cells)<;>cases decide (3<J x.Aa)<;>rfl
theorem lV (h:Ms x r) (hw:FW x) (hn:FN x) (n:Nat):uI (II n x) (Ku n r):=by
 have ho:r.Ad=[]<->x.Ad=[]:=by
  have:=NM h;constructor
  .intro h';rw[h'] at this;exact Jm this.symm
  .intro h';rw[h'] at this;exact Jm this
 have ht:=Mu h;unfold II Ku;by_cases hb:x.Ad≠[]\/x.Aa=[]
 .rw[Jb hb,Jb (show r.Ad≠[]\/r.p.Aa=[] by rw[ht,ne_eq,ho];exact hb)];exact rfl
 .rw[In hb,In (show¬(r.Ad≠[]\/r.p.Aa=[]) by rw[ht,ne_eq,ho];exact hb)];have IV:x.Ad=[]:=by
   apply Classical.byContradiction;intro h';exact hb (.inl h')
  have hne:x.Aa≠[]:=λh'=>hb (.inr h')
  obtain⟨l1,l2⟩:=kT h hw IV;rw[l1];cases hl:Ej x with
  |true=>exact⟨l2,h.cells,hl,hw,hn,IV,hne⟩
  |false=>exact rfl
theorem go_same (l:List By):∀(n:Nat) (x:qH) (r:RS),Ms x r->FW x->FN x->uI (IG l n x) (Nb l n r):=by
 induction l with
 |nil=>intro n x r h hw hn;exact lV h hw hn n
 |cons p q ih=>
  intro n x r h hw hn;cases q with
  |nil=>
   unfold IG Nb;by_cases hp:p=[]/\0<n;grind [lV]
   .rw[In hp,In hp];exact rfl
  |cons q' qs=>
   unfold IG Nb;obtain⟨w,l,tj⟩:∃w l,Bt p=w::l:=by
    unfold Bt;cases hs:AD 32 p with
    |nil=>grind [Cc]
    |cons a b=>exact⟨_,_,rfl⟩
   rw[tj];cases hl:Bv (w::l) with
   |false=>rw[xJ x w l hl];exact rfl
   |true=>
    have hs:=sD h w l hl;rw[Jb rfl];unfold Vz at hs;cases hx:x.row (w::l) with
    |error c=>
     cases hr:r.row (w::l) with
     |error d=>rw[hx,hr] at hs;simp only[] at hs⊢;subst hs;exact rfl
     |ok r'=>rw[hx,hr] at hs;grind
    |ok y=>
     grind [qH.oq]
theorem cB (s:By):uI (Fl s) (FL s):=by
 unfold Fl FL;by_cases h:2000<J s
 .rw[Jb h,Jb h];exact rfl
 .rw[In h,In h];exact go_same _ 0 _ _ .Dr .Dr .Dr
def AiK (c Ae:Int) (e:Ending) (w':World):Prop:=
 ∃fb,e=.panicked [{v:=.iface 123 (iJ fb),recovered:=I}]/\w'.heap[fb]?=U (qG #[iI c,iI Ae] 127 (0,0))
def I8 (M:List Nat) (c Ae:Int) (w:World) (e:Ending) (w':World):Prop:=AiK c Ae e w'/\Az M w w'
theorem AP (c Ae:Int) (w:World):Calls prog 69 #[iI c,iI Ae] w (I8 [] c Ae w):=by
 go_enter func69,ntmps69;go_wp2;exact⟨rfl,⟨_,rfl,by show(w.heap.push _)[w.heap.size]?=_;simp⟩,(Az.refl _ _).alloc _⟩
structure PV where
 p:Value
 s:Value
 l:Value
 o:Value
 n:Value
def PV.cells (r:PV) (wv:Value) (Ae:Int):Array Value:= #[wv,iI Ae,r.p,r.s,r.l,r.o,r.n]
abbrev ig (w:World) (xb:Nat) (r:PV) (wv:Value) (Ae:Int):Prop:=Ci w xb (r.cells wv Ae) 151
structure PxF (w:World) (xb:Nat) (r:PV) (wv:Value) (Ae:Int):Prop where
 c:∀i:Nat,w.cell? ⟨xb,i,Z⟩=(#[wv,iI Ae,r.p,r.s,r.l,r.o,r.n]:Array Value)[i]?
 f:∀i:Nat,w.frozen? ⟨xb,i,Z⟩=I
 lt:xb<w.heap.size
theorem NI {xb:Nat} {r:PV} {wv:Value} {Ae:Int} (h:ig w xb r wv Ae):PxF w xb r wv Ae:=⟨h.cell,h.free,h.lt⟩
theorem EY (w:World) (xb:Nat) (r:PV) (wv:Value) (Ae:Int) (h:ig w xb r wv Ae):
  Calls prog 73 #[iJ xb] w (I8 [] 2 Ae w):=by
 obtain⟨hc,hf,hlt⟩:=NI h;clear h;go_enter func73,ntmps73;go_wp2_with fail;refine(AP _ _ _).mono ?_;rintro e w1 ⟨⟨fb,rfl,hb⟩,hm⟩;go_wp2;exact maZ
def O2 (res:Option (Value×Ws)) (xb:Nat) (r:PV) (Ae:Int) (ok:Nat->Prop) (w:World) (e:Ending) (w':World):Prop:=
 match res with
 |none=>I8 [xb] 2 Ae w e w'
 |some (v,l')=>e= qF v/\∃wv',ig w' xb r wv' Ae/\Sl w' ok wv' (Bq l')/\Az [xb] w w'
def Aju:Ws->Option (ByteArray×Ws)
 |[]=>Z
 |a::r=>U (a,r)
theorem Sl.tail {ok:Nat->Prop} {b off cap:Nat} {x:Value} {xs:List Value} (h:Sl w ok (m9 (U ⟨b,off,Z⟩) n cap) (x::xs)) (p:Option Addr) (hp:p=U ⟨b,off,Z⟩/\cap=1\/p=U ⟨b,off+1,Z⟩):
  Sl w ok (m9 p (J xs) (cap-1)) xs:=by
 obtain⟨hl,⟨h1,_⟩|⟨b',off',cap',h1,h2,h3,h4,h5,h6⟩⟩:=h
 .cases h1
 .cases h1;simp only[Jg] at hl h2;refine⟨Y,.inr ?_⟩;rcases hp with⟨rfl,h7⟩|rfl
  .refine⟨b,off,cap-1,rfl,Y,Y,h4,h5,λi hi=>Y⟩
  .refine⟨b,off+1,cap-1,rfl,Y,Y,h4,h5,λi hi=>?_⟩;have:=h6 (i+1) (by simp;omega);rw[show off+(i+1)=off+1+i by omega] at this;simpa using this
theorem Ki (l:Ws) (w:World) (xb:Nat) (r:PV) (wv:Value) (Ae:Int) (ok:Nat->Prop) (h:ig w xb r wv Ae) (hs:Sl w ok wv (Bq l)) (hx:¬ok xb):
  Calls prog 96 #[iJ xb] w (O2 ((Aju l).map λp=>(qA p.1,p.2)) xb r Ae ok w):=by
 obtain⟨hc,hf,hlt⟩:=NI h;cases l with
 |nil=>
  obtain⟨p,cap,rfl,_,_⟩:=hs.L9;have H:=D h;clear h hs;simp only[Bq,Qu,Jw] at hc;go_enter func96,ntmps96;exact mbf
 |cons a l=>
  have Xo:=hs;obtain⟨hl,⟨h1,h2⟩|⟨b,off,cap,rfl,h2,h3,h4,h5,h6⟩⟩:=hs
  .cases h2
  .have az:=h6 0 (by simp[Bq]);simp only[JX,Bq,Js,List.getElem_cons_zero] at az;have hlen:(Bq (a::l)).length=J l+1:=by simp[Bq]
   rw[hlen] at hc h2 hl Xo;have H:=D h;have HS:=D Xo;have HX:=D hx;have Le:0<J l+1:=Y
   unfold maxLen at h3;clear h Xo h6 hlen hx h4;by_cases TU:cap=1
   .subst TU;have KX:l=[]:=Jm Y;subst KX;clear h2 Le hl;simp only[Jw,JH] at hc HS⊢;go_enter func96,ntmps96;go_wp2;go_ret;have k:=H.set 0 (m9 (U ⟨b,off,Z⟩) 0 0);have m:Az [xb] w (w.setCell ⟨xb,0,Z⟩ (m9 (U ⟨b,off,Z⟩) 0 0)):=(Az.refl _ _).setCell (.inl EQ) _;exact⟨rfl,_,k,(HS.tail (U ⟨b,off,Z⟩) (.inl ⟨rfl,rfl⟩)).mod m (λb hb hm=>HX.out (by rw[GE] at hm;rw[<-hm];exact hb)),m⟩
   .have Agy:1<cap:=Y
    clear TU;go_enter func96,ntmps96;go_wp2;go_ret;have k:=H.set 0 (m9 (U ⟨b,off+1,Z⟩) (J l) (cap-1));have m:Az [xb] w (w.setCell ⟨xb,0,Z⟩ (m9 (U ⟨b,off+1,Z⟩) (J l) (cap-1))):=(Az.refl _ _).setCell (.inl EQ) _;have e:=Cj l;have t:=HS.tail (U ⟨b,off+1,Z⟩) (.inr rfl);rw[show(l.map Value.string)=Bq l from rfl,e] at t;exact⟨rfl,_,k,t.mod m (λb hb hm=>HX.out (by rw[GE] at hm;rw[<-hm];exact hb)),m⟩
theorem DH (l:Ws) (w:World) (xb:Nat) (r:PV) (wv:Value) (Ae:Int) (ok:Nat->Prop) (h:ig w xb r wv Ae) (hs:Sl w ok wv (Bq l)):
  Calls prog 99 #[iJ xb] w (O2 (GM (qC #[],([]:Ws)) l) xb r Ae ok w):=by
 obtain⟨hc,hf,hlt⟩:=NI h;obtain⟨p,cap,rfl,_,_⟩:=hs.L9;have H:=D h;have HS:=D hs;clear h hs;cases l with
 |nil=>
  simp only[Bq,Qu,Jw] at hc;go_enter func99,ntmps99;go_wp2
  go_end0
  exact⟨rfl,_,H,HS,Az.refl _ _⟩
 |cons a l=>
  have hlen:(Bq (a::l)).length=J l+1:=by simp[Bq]
  rw[hlen] at hc;clear hlen;go_enter func99,ntmps99;exact mbf
def isF (k:By):Ws->Bool×Ws
 |[]=>(I,[])
 |a::r=>if bs a=k then (V,r) else (I,a::r)
theorem AbT {r:Ws} (h:bs a=k):isF k (a::r)=(V,r):=by simp[isF,h]
theorem Agh {r:Ws} (h:¬bs a=k):isF k (a::r)=(I,a::r):=by simp[isF,h]
theorem Afr (k:ByteArray) (l:Ws) (w:World) (xb:Nat) (r:PV) (wv:Value) (Ae:Int) (ok:Nat->Prop) (h:ig w xb r wv Ae) (hs:Sl w ok wv (Bq l)) (hx:¬ok xb):
  Calls prog 150 #[iJ xb,qA k] w (O2 (U (qB (isF (bs k) l).1,(isF (bs k) l).2)) xb r Ae ok w):=by
 obtain⟨hc,hf,hlt⟩:=NI h;cases l with
 |nil=>
  obtain⟨p,cap,rfl,_,_⟩:=hs.L9;have H:=D h;have HS:=D hs;clear h hs;simp only[Bq,Qu,Jw] at hc;go_enter func150,ntmps150;go_wp2;go_ret;exact⟨rfl,_,H,HS,Az.refl _ _⟩
 |cons a l=>
  have Xo:=hs;obtain⟨hl,⟨h1,h2⟩|⟨b,off,cap,rfl,h2,h3,h4,h5,h6⟩⟩:=hs
  .cases h2
  .have az:=h6 0 (by simp[Bq]);simp only[JX,Bq,Js,List.getElem_cons_zero] at az;have hlen:(Bq (a::l)).length=J l+1:=by simp[Bq]
   rw[hlen] at hc h2 hl Xo;have H:=D h;have HS:=D Xo;have HX:=D hx;have Le:0<J l+1:=Y
   unfold maxLen at h3;rw[hlen] at H;clear h Xo h6 hlen hx h4;by_cases ha:bs a=bs k
   .have q:=WR ha;have HA:=D ha;clear ha;by_cases TU:cap=1
    .subst TU;have KX:l=[]:=Jm Y;subst KX;clear h2 Le hl;simp only[Jw,JH] at hc HS H⊢;go_enter func150,ntmps150;go_wp2;go_ret;have k2:=H.set 0 (m9 (U ⟨b,off,Z⟩) 0 0);have m:Az [xb] w (w.setCell ⟨xb,0,Z⟩ (m9 (U ⟨b,off,Z⟩) 0 0)):=(Az.refl _ _).setCell (.inl EQ) _;rw[AbT HA.out];exact⟨rfl,_,k2,(HS.tail (U ⟨b,off,Z⟩) (.inl ⟨rfl,rfl⟩)).mod m (λb hb hm=>HX.out (by rw[GE] at hm;rw[<-hm];exact hb)),m⟩
    .have Agy:1<cap:=Y
     clear TU;go_enter func150,ntmps150;go_wp2;go_ret;have k2:=H.set 0 (m9 (U ⟨b,off+1,Z⟩) (J l) (cap-1));have m:Az [xb] w (w.setCell ⟨xb,0,Z⟩ (m9 (U ⟨b,off+1,Z⟩) (J l) (cap-1))):=(Az.refl _ _).setCell (.inl EQ) _;have e:=Cj l;have t:=HS.tail (U ⟨b,off+1,Z⟩) (.inr rfl);rw[show(l.map Value.string)=Bq l from rfl,e] at t;rw[AbT HA.out];exact⟨rfl,_,k2,t.mod m (λb hb hm=>HX.out (by rw[GE] at hm;rw[<-hm];exact hb)),m⟩
   .have q:=Uq ha;have HA:=D ha;clear ha;go_enter func150,ntmps150;go_wp2;go_ret;rw[Agh HA.out];exact⟨rfl,_,H,HS,Az.refl _ _⟩
def GI.val:GI->Value
 |.Y4 d a=> .iface 316 (qD #[iI d,qB a.Dd,iI a.v])
 |.op n d a b=> .iface 290 (qD #[qA n,iI d,qB a.Dd,iI a.v,qB b.Dd,iI b.v])
 |.load d a k=> .iface 297 (qD #[iI d,qB a.Dd,iI a.v,iI k])
 |.store a k b=> .iface 292 (qD #[qB a.Dd,iI a.v,iI k,qB b.Dd,iI b.v])
 |.KL d a k b c=> .iface 312 (qD #[iI d,qB a.Dd,iI a.v,iI k,qB b.Dd,iI b.v,qB c.Dd,iI c.v])
 |.Em d a k b=> .iface 314 (qD #[iI d,qB a.Dd,iI a.v,iI k,qB b.Dd,iI b.v])
 |.Ma=> .iface 173 (qD #[])
 |.out a=> .iface 276 (qD #[qB a.Dd,iI a.v])
 |.GF q=> .iface 280 (qD #[iI q])
 |.jz a q=> .iface 299 (qD #[qB a.Dd,iI a.v,iI q])
 |.CR k=> .iface 294 (qD #[iI k])
 |.halt=> .iface 173 (qD #[])
def hY (l:List GI):List Value:=l.map GI.val
structure MG where
 mb:Nat
 c:SG
 a:SG
 av:List Value
def DR (a:SG) (l:List GI):Ob:=.row (m9 a.p (J l) a.c) 162 1 (J l) (hY l)
def MG.Ay (g:MG) (G:GS):List Ob:=
 [.Ao g.mb #[m9 g.c.p (J G.Ab) g.c.c,iI G.Ac,iI G.cells,qB G.block,m9 g.a.p (J g.av) g.a.c,iI G.Af] 169,
  DR g.c G.Ab,.row (m9 g.a.p (J g.av) g.a.c) 1 1 (J g.av) g.av]
theorem Lr (l:List GI):(hY l).length=J l:=by simp[hY]
theorem kY (p:Option Addr) (c:Nat) (l:List GI) (i:GI):Ob.row (m9 p (J l+1) c) 162 1 (J l+1) (hY l++(#[i.val]:Array Value).toList)=DR ⟨p,c⟩ (l++[i]):=by simp[DR,hY]
structure AfX (w:World) (g:MG) (G:GS):Prop where
 c:∀i:Nat,w.cell? ⟨g.mb,i,Z⟩=(#[m9 g.c.p (J G.Ab) g.c.c,iI G.Ac,iI G.cells,qB G.block,m9 g.a.p (J g.av) g.a.c,iI G.Af]:Array Value)[i]?
 f:∀i:Nat,w.frozen? ⟨g.mb,i,Z⟩=I
 lt:g.mb<w.heap.size
theorem Dl {g:MG} {G:GS} (h:Aq w (g.Ay G)):AfX w g G where
 c:=(h.Ao (i:=0) rfl).cell
 f:=(h.Ao (i:=0) rfl).free
 lt:=(h.Ao (i:=0) rfl).lt
theorem GI.shape (i:GI):∃T u,i.val=.iface T u:=by cases i<;>exact⟨_,_,rfl⟩
theorem xh:(prog.info? 162).map (λi=>(i.zero,i.size,i.bytes))=U (U .nilIface,1,16):=Fd
def yB (ret:Value) (G':GS) (g:MG) (G:GS) (w:World) (e:Ending) (w':World):Prop:=
 e= qF ret/\∃c:SG,Ai w (g.Ay G) w' (MG.Ay {g with c:=c} G')
theorem L4 (i:GI) (w:World) (g:MG) (G:GS) (h:Aq w (g.Ay G)) (hn:J G.Ab<=1000000):
  Calls prog 81 #[iJ g.mb,i.val] w (yB (qC #[]) (G.AQ i) g G w):=by
 obtain⟨j0,hj,Lc,Lb,Mm⟩:=info_parts xh;obtain⟨hc,hf,hlt⟩:=Dl h;obtain⟨T,u,hv⟩:=GI.shape i;rw[hv];have H:=D h;have Hv:=D hv;clear h hv;go_enter func81,ntmps81;go_wp2_with (first|(at_builtin;refine Bm 16 _ _ _ j0 _ #[.iface T u] _ H (k:=1) rfl Eq Eq underlying158 hj Lc Lb Mm rfl Y Eq Eq rfl (by simp[Value.oneCell']) (by unfold maxLen;omega) Y ?_;intro g6 AL w6 Aw _;rw[<-Hv.out,kY] at Aw;have q1:=(Aw.Ak.Ao (i:=0) rfl).cell;have q2:=(Aw.Ak.Ao (i:=0) rfl).free;have q3:=(Aw.Ak.Ao (i:=0) rfl).lt;have GK:=D Aw;clear Aw hc hf hlt))
 go_end0
 have Aw:=GK.out;have t1:=Aw.Ak.set (i:=0) rfl 0 (m9 (U ⟨g6,0,Z⟩) (J G.Ab+1) AL);refine⟨rfl,⟨U ⟨g6,0,Z⟩,AL⟩,?_⟩;have e:(G.Ab++[i]).length=J G.Ab+1:=EQ
 have:=Aw.trans t1;unfold MG.Ay GS.AQ;unfold MG.Ay at this;rw[e];exact this
structure AY (w:World) (L:List Ob) (F:List (Nat×Obj)):Prop where
 heap:∀b o,(b,o)∈F->w.heap[b]?=U o
 out:∀b o,(b,o)∈F->b∉Et L
theorem AY.step (h:AY w L F) (k:Ai w L w' L'):AY w' L' F:=
 ⟨λb o hb=>k.mod.heap (h.heap b o hb) (h.out b o hb),λb o hb hl=>by
   rcases k.fp b hl with h1|h1
   · exact h.out b o hb h1
   · have:=Dq (h.heap b o hb);omega⟩
theorem AY.quiet (h:AY w L F) (k:Az [] w w'):AY w' L F:=
 ⟨λb o hb=>k.heap (h.heap b o hb) EQ,h.out⟩
theorem AY.new (h:AY w L F) (hL:Aq w L) (o:Obj):AY (w.alloc o) L ((w.heap.size,o)::F):=by
 refine⟨λb p hb=>?_,λb p hb hl=>?_⟩
 .rcases Jl.1 hb with hb|hb
  .cases hb;show(w.heap.push o)[w.heap.size]?=U o;simp
  .exact((Az.refl [] w).alloc o).heap (h.heap b p hb) EQ
 .rcases Jl.1 hb with hb|hb
  .cases hb;have:=hL.lt _ hl;omega
  .exact h.out b p hb hl
theorem AY.nil (w:World) (L:List Ob):AY w L []:=⟨λb o h=>by simp at h,λb o h=>by simp at h⟩
theorem AY.fP (h:AY w L F) (k:AY w L E):AY w L (E++F):=
 ⟨λb o hb=>(Jp.1 hb).elim (k.heap b o) (h.heap b o),λb o hb=>(Jp.1 hb).elim (k.out b o) (h.out b o)⟩
theorem AY.sub (h:AY w L F) (k:∀x,x∈E->x∈F):AY w L E:=
 ⟨λb o hb=>h.heap b o (k _ hb),λb o hb=>h.out b o (k _ hb)⟩
theorem AY.cell (h:AY w L F) {b:Nat} {c:Array Value} {T:TypeId} (hb:(b,qG c T (0,0))∈F):∀i:Nat,w.cell? ⟨b,i,Z⟩=c[i]?:=
 Ci.cell (h.heap b _ hb)
theorem AY.lt (h:AY w L F) {b:Nat} {o:Obj} (hb:(b,o)∈F):b<w.heap.size:=Dq (h.heap b _ hb)
def Kn (v:Value) (w:World) (e:Ending) (w':World):Prop:=e= qF v/\Az [] w w'
theorem Aq.quiet (h:Aq w L) (k:Az [] w w'):Aq w' L:=(Ai.quiet h k).Ak
theorem AY.free (h:AY w L F) {b:Nat} {c:Array Value} {T:TypeId} (hb:(b,qG c T (0,0))∈F):∀i:Nat,w.frozen? ⟨b,i,Z⟩=I:=
 Ci.free (h.heap b _ hb)
theorem IM (hm:Az [] (w.alloc o) w1):AY w1 [] [(w.heap.size,o)]:=
 (AY.new (AY.nil w []) (Aq.nil w) o).quiet hm
theorem cell_far (hm:Az [] (w.alloc o) w1) {b:Nat} (hb:b<w.heap.size) (i:Nat):w1.cell? ⟨b,i,Z⟩=w.cell? ⟨b,i,Z⟩:=by
 have h2:=(hm.block b (by show b<(w.heap.push o).size;simp;omega) EQ).trans (((Az.refl [] w).alloc o).block b hb EQ);show w1.cell? _=w.cell? _;unfold World.cell?;rw[h2]
theorem Az.Ajv (hm:Az [] (w.alloc o) w1) {i j k:Nat} {x y z:Value}:Az [] w (((w1.setCell ⟨w.heap.size,i,Z⟩ x).setCell ⟨w.heap.size,j,Z⟩ y).setCell ⟨w.heap.size,k,Z⟩ z):=by
 have h:=((Az.refl [] w).alloc o).Aj hm;exact((h.setCell (.inr (Jf _)) _).setCell (.inr (Jf _)) _).setCell (.inr (Jf _)) _
theorem Zl (v:Int) (w:World):Calls prog 139 #[iI v] w (Kn (qD #[qB I,iI v]) w):=by
 go_enter func139,ntmps139;go_wp2_with fail;refine bodyPost_ret (by simp[results,results139,go_sem]) rfl ⟨rfl,?_⟩;exact mbH
theorem U7 (v:Int) (w:World):Calls prog 133 #[iI v] w (Kn (qD #[qB V,iI v]) w):=by
 go_enter func133,ntmps133;go_wp2_with fail;refine bodyPost_ret (by simp[results,results133,go_sem]) rfl ⟨rfl,?_⟩;exact mbH
theorem kD (k:Int) (w:World) (g:MG) (G:GS) (h:Aq w (g.Ay G)) (hb:wrap64 (G.Ac+k)=G.Ac+k):
  Calls prog 135 #[iJ g.mb,iI k] w (Kn (qD #[qB I,iI (G.Ac+k),iI 0]) w):=by
 obtain⟨hc,hf,hlt⟩:=Dl h;have Hb:=D hb;clear h hb;go_enter func135,ntmps135;go_wp2_with fail;rw[Hb.out];refine(Zl _ _).mono ?_;rintro e w1 ⟨rfl,hm⟩;have K:=IM hm;have k0:=K.cell (GE.2 rfl);have k1:=K.free (GE.2 rfl);go_wp2_with fail;refine bodyPost_ret (by simp[results,results135,go_sem,k0]) rfl ⟨rfl,?_⟩;exact Az.Ajv hm
theorem AeL (k r:Int) (w:World) (g:MG) (G:GS) (h:Aq w (g.Ay G)) (hb:wrap64 (G.Ac+k)=G.Ac+k):
  Calls prog 138 #[iJ g.mb,iI k,iI r] w (Kn (qD #[qB V,iI r,iI (G.Ac+k)]) w):=by
 obtain⟨hc,hf,hlt⟩:=Dl h;have Hb:=D hb;clear h hb;go_enter func138,ntmps138;go_upto_region 1 with fail
 have C4:=hlt;have Is:w.cell? ⟨g.mb,1,Z⟩=U (iI G.Ac):=hc 1;refine Cf (l:=[(0,V),(2,V),(3,V),(4,V),(5,V),(6,V),(7,V),(1,I),(8,V),(9,I)]) (λW=>W.cell? ⟨g.mb,1,Z⟩=U (iI G.Ac)) 9 ?_ ?_
 .go_simp
 refine Ds ?_;intro K hK;refine(U7 _ _).mono ?_;rintro e w1 ⟨rfl,Zt⟩;have hm:=((Az.refl [] (w.alloc (qG #[qB I,iI 0,iI 0] 270))).drew).Aj Zt;have K1:=IM hm;have k0:=K1.cell (GE.2 rfl);have k1:=K1.free (GE.2 rfl);refine hK _ _ (λ_=>(cell_far hm C4 1).trans Is) ?_;clear hK Zt;refine Ds ?_;intro K hK;refine hK _ _ (λh=>Jk rfl h) ?_;simp only[BN];go_wp2_with fail;rw[IntWalk.i64_left,Hb.out];refine bodyPost_ret (by simp[results,results138,go_sem,k0]) rfl ⟨rfl,?_⟩;exact Az.Ajv hm
theorem NR (r:Int) (a:Ag) (k:Int) (w:World) (g:MG) (G:GS) (h:Aq w (g.Ay G)) (hn:J G.Ab<=1000000):
  Calls prog 140 #[iJ g.mb,iI r,qD #[qB a.Dd,iI a.v,iI k]] w (yB (qC #[]) (G.AQ (.load r a k)) g G w):=by
 have H:=D h;clear h;go_enter func140,ntmps140;go_wp2_with fail;refine(L4 (.load r a k) _ g G (H.quiet ((Az.refl _ _).alloc _)) hn).mono ?_;rintro e w1 ⟨rfl,c,Aw⟩;go_wp2_with fail
 go_end0
 exact⟨rfl,c,(Ai.alloc H _).trans Aw⟩
theorem OM (a:Ag) (k:Int) (b:Ag) (w:World) (g:MG) (G:GS) (h:Aq w (g.Ay G)) (hn:J G.Ab<=1000000):
  Calls prog 134 #[iJ g.mb,qD #[qB a.Dd,iI a.v,iI k],qD #[qB b.Dd,iI b.v]] w (yB (qC #[]) (G.AQ (.store a k b)) g G w):=by
 have H:=D h;clear h;go_enter func134,ntmps134;go_wp2_with fail;refine(L4 (.store a k b) _ g G (H.quiet (((Az.refl _ _).alloc _).alloc _)) hn).mono ?_;exact mbh
theorem AeJ (n:ByteArray) (d:Int) (a b:Ag) (w:World) (g:MG) (G:GS) (h:Aq w (g.Ay G)) (hn:J G.Ab<=1000000):
  Calls prog 132 #[iJ g.mb,qA n,iI d,qD #[qB a.Dd,iI a.v],qD #[qB b.Dd,iI b.v]] w (yB (qC #[]) (G.IB n d a b) g G w):=by
 have H:=D h;clear h;go_enter func132,ntmps132;go_wp2_with fail;refine(L4 (.op n d a b) _ g G (H.quiet (((Az.refl _ _).alloc _).alloc _)) hn).mono ?_;exact mbh
theorem Rt (w:World) (o:Obj):(w.alloc o).heap.size=w.heap.size+1:=by show(w.heap.push o).size=_;simp
theorem tN (l:List GI) (k:Nat) (i:GI):(hY l).set k i.val=hY (l.set k i):=by simp[hY,QD]
def WB (F:List (Nat×Obj)) (v:Value) (mb:Nat) (l:Ii):Prop:=match l.a with
 |none=>∃bm bk,v=.func (.func 174) #[] #[iJ bm,iJ bk]/\
   (bm,qG #[iJ mb] 166 (0,0))∈F/\(bk,qG #[iI (l.k:Int)] 3 (0,0))∈F
 |some a=>∃ba bm bk,v=.func (.func 154) #[] #[iJ ba,iJ bm,iJ bk]/\
   (ba,qG #[qB a.Dd,iI a.v] 264 (0,0))∈F/\(bm,qG #[iJ mb] 166 (0,0))∈F/\(bk,qG #[iI (l.k:Int)] 3 (0,0))∈F
theorem WB.sub {v:Value} {l:Ii} (h:WB F v mb l) (k:∀x,x∈F->x∈E):WB E v mb l:=by
 unfold WB at h⊢;split at h
 .obtain⟨bm,bk,h1,h2,h3⟩:=h;exact⟨bm,bk,h1,k _ h2,k _ h3⟩
 .obtain⟨ba,bm,bk,h1,h2,h3,h4⟩:=h;exact⟨ba,bm,bk,h1,k _ h2,k _ h3,k _ h4⟩
def Pf (b:Nat) (a:Ag):Nat×Obj:=(b,qG #[qB a.Dd,iI a.v] 264 (0,0))
def F5 (b mb:Nat):Nat×Obj:=(b,qG #[iJ mb] 166 (0,0))
def F6 (b k:Nat):Nat×Obj:=(b,qG #[iI (k:Int)] 3 (0,0))
def Ak2 (a:Ag) (g:MG) (G:GS) (w:World) (e:Ending) (w':World):Prop:=
 ∃ba bm bk c,e= qF (.func (.func 154) #[] #[iJ ba,iJ bm,iJ bk])/\
  Ai w (g.Ay G) w' (MG.Ay {g with c:=c} (G.CG a))/\AY w' (MG.Ay {g with c:=c} (G.CG a)) [F6 bk (J G.Ab),Pf ba a,F5 bm g.mb]/\(w.heap.size<=ba/\w.heap.size<=bm/\w.heap.size<=bk)
def Ald (g:MG) (G:GS) (w:World) (e:Ending) (w':World):Prop:=
 ∃bm bk c,e= qF (.func (.func 174) #[] #[iJ bm,iJ bk])/\
  Ai w (g.Ay G) w' (MG.Ay {g with c:=c} G.CW)/\AY w' (MG.Ay {g with c:=c} G.CW) [F6 bk (J G.Ab),F5 bm g.mb]
theorem cT (a:Ag) (w:World) (g:MG) (G:GS) (h:Aq w (g.Ay G)) (hn:J G.Ab<=1000000):
  Calls prog 141 #[iJ g.mb,qD #[qB a.Dd,iI a.v]] w (Ak2 a g G w):=by
 obtain⟨hc,hf,hlt⟩:=Dl h;have H:=D h;clear h;go_enter func141,ntmps141;go_wp2_with fail;have a1:=Ai.alloc H (qG #[iJ g.mb] 166);have K1:=(AY.nil w (g.Ay G)).new H (qG #[iJ g.mb] 166);have a2:=a1.trans (Ai.alloc a1.Ak (qG #[qB a.Dd,iI a.v] 264));have K2:=K1.new a1.Ak (qG #[qB a.Dd,iI a.v] 264);have a3:=a2.trans (Ai.alloc a2.Ak (qG #[iI (J G.Ab)] 3));have K3:=K2.new a2.Ak (qG #[iI (J G.Ab)] 3);refine(L4 (.jz a 0) _ g G a3.Ak hn).mono ?_;rintro e w1 ⟨rfl,c,Aw⟩;have K4:=K3.step Aw;rw[Rt,Rt] at K4;go_wp2_with fail;go_ret;exact⟨w.heap.size+1,w.heap.size,w.heap.size+1+1,c,rfl,a3.trans Aw,K4,Y⟩
theorem vX (w:World) (g:MG) (G:GS) (h:Aq w (g.Ay G)) (hn:J G.Ab<=1000000):
  Calls prog 151 #[iJ g.mb] w (Ald g G w):=by
 obtain⟨hc,hf,hlt⟩:=Dl h;have H:=D h;clear h;go_enter func151,ntmps151;go_wp2_with fail;have a1:=Ai.alloc H (qG #[iJ g.mb] 166);have K1:=(AY.nil w (g.Ay G)).new H (qG #[iJ g.mb] 166);have a2:=a1.trans (Ai.alloc a1.Ak (qG #[iI (J G.Ab)] 3));have K2:=K1.new a1.Ak (qG #[iI (J G.Ab)] 3);refine(L4 (.GF 0) _ g G a2.Ak hn).mono ?_;rintro e w1 ⟨rfl,c,Aw⟩;have K4:=K2.step Aw;rw[Rt] at K4;go_wp2_with fail;go_ret;exact⟨w.heap.size,w.heap.size+1,c,rfl,a2.trans Aw,K4⟩
theorem TC (a:Ag) (ba bm bk k:Nat) (w:World) (g:MG) (G:GS) (F:List (Nat×Obj)) (h:Aq w (g.Ay G)) (hK:AY w (g.Ay G) F) (h1:F6 bk k∈F) (h2:Pf ba a∈F) (h3:F5 bm g.mb∈F) (hn:J G.Ab<=1000000) (hk:k<J G.Ab):
  Calls prog 154 #[iJ ba,iJ bm,iJ bk] w (yB (qC #[]) (G.Ba ⟨k,U a⟩) g G w):=by
 obtain⟨hc,hf,hlt⟩:=Dl h;have c1:=hK.cell h1;have c2:=hK.cell h2;have c3:=hK.cell h3;have EX:=h.row (i:=1) rfl;obtain⟨gb,gc,aZ,_,hgl,Amu,Amt,Zw,Zu⟩:=Av EX Y;have H:=D h;have lj:(g.Ay G)[1]?=U (.row (m9 (U ⟨gb,0,Z⟩) (J G.Ab) gc) 162 1 (J G.Ab) (hY G.Ab)):=by
  show U (DR g.c G.Ab)=_;unfold DR;rw[aZ]
 have Aw:=λv=>Aq.ET h lj k (by rw[Lr];exact hk) v
 rw[aZ] at hc;have SH:k<(J G.Ab:Int):=Y
 have Xw:=Zw k (by rw[Lr];exact hk);generalize hov:(hY G.Ab)[k]'(by rw[Lr];exact hk)=ov at Xw;have OP:=Zu k;have Hge:=D aZ;have Hk:=D hk;have d1:=c1 0;have d2:=c2 0;have d2':=c2 1;clear c2;have d3:=c3 0;have d4:=hc 0;clear h hK EX aZ Zw Zu lj Aw hov hk c1 c3 hc hf;go_enter func154,ntmps154;go_upto_region 0 with fail
 refine AF [] 15 (λW=>W.cell? ⟨bk,0,Z⟩=U (iI k)/\W.cell? ⟨bm,0,Z⟩=U (iJ g.mb)/\W.cell? ⟨g.mb,0,Z⟩=U (m9 (U ⟨gb,0,Z⟩) (J G.Ab) gc)/\W.cell? ⟨ba,0,Z⟩=U (qB a.Dd)/\W.cell? ⟨ba,1,Z⟩=U (iI a.v)) ?_ ?_
 .exact⟨by go_simp,by go_simp,by go_simp,by go_simp,by go_simp⟩
 refine Ds ?_;intro K hK;refine hK _ _ (λh=>Jk rfl h) ?_;simp only[BN];go_wp2_with fail
 go_end0
 refine⟨rfl,g.c,?_⟩;have s1:=Ai.drew H.out;have s2:=s1.trans (Aq.ET s1.Ak (show(g.Ay G)[1]?=U (.row (m9 (U ⟨gb,0,Z⟩) (J G.Ab) gc) 162 1 (J G.Ab) (hY G.Ab)) by
   show U (DR g.c G.Ab)=_;unfold DR;rw[Hge.out]) k (by rw[Lr];exact Hk.out) (GI.val (.jz a (J G.Ab))))
 have e:(g.Ay G).set 1 (.row (m9 (U ⟨gb,0,Z⟩) (J G.Ab) gc) 162 1 (J G.Ab) ((hY G.Ab).set k (GI.val (.jz a (J G.Ab)))))=MG.Ay g (G.Ba ⟨k,U a⟩):=by
  exact mbs
 rw[e] at s2;exact s2
theorem VZ (bm bk k:Nat) (w:World) (g:MG) (G:GS) (F:List (Nat×Obj)) (h:Aq w (g.Ay G)) (hK:AY w (g.Ay G) F) (h1:F6 bk k∈F) (h3:F5 bm g.mb∈F) (hn:J G.Ab<=1000000) (hk:k<J G.Ab):
  Calls prog 174 #[iJ bm,iJ bk] w (yB (qC #[]) (G.Ba ⟨k,Z⟩) g G w):=by
 obtain⟨hc,hf,hlt⟩:=Dl h;have c1:=hK.cell h1;have c3:=hK.cell h3;have EX:=h.row (i:=1) rfl;obtain⟨gb,gc,aZ,_,hgl,Amu,Amt,Zw,Zu⟩:=Av EX Y;have H:=D h;have lj:(g.Ay G)[1]?=U (.row (m9 (U ⟨gb,0,Z⟩) (J G.Ab) gc) 162 1 (J G.Ab) (hY G.Ab)):=by
  show U (DR g.c G.Ab)=_;unfold DR;rw[aZ]
 have Aw:=λv=>Aq.ET h lj k (by rw[Lr];exact hk) v
 rw[aZ] at hc;have SH:k<(J G.Ab:Int):=Y
 have Xw:=Zw k (by rw[Lr];exact hk);generalize hov:(hY G.Ab)[k]'(by rw[Lr];exact hk)=ov at Xw;have OP:=Zu k;have Hge:=D aZ;have Hk:=D hk;have d1:=c1 0
 skip
 have d3:=c3 0;have d4:=hc 0;clear h hK EX aZ Zw Zu lj Aw hov hk c1 c3 hc hf;go_enter func174,ntmps174;go_upto_region 0 with fail
 refine AF [] 13 (λW=>W.cell? ⟨bk,0,Z⟩=U (iI k)/\W.cell? ⟨bm,0,Z⟩=U (iJ g.mb)/\W.cell? ⟨g.mb,0,Z⟩=U (m9 (U ⟨gb,0,Z⟩) (J G.Ab) gc)) ?_ ?_
 .exact mbP
 refine Ds ?_;intro K hK;refine hK _ _ (λh=>Jk rfl h) ?_;simp only[BN];go_wp2_with fail
 go_end0
 refine⟨rfl,g.c,?_⟩;have s1:=Ai.drew H.out;have s2:=s1.trans (Aq.ET s1.Ak (show(g.Ay G)[1]?=U (.row (m9 (U ⟨gb,0,Z⟩) (J G.Ab) gc) 162 1 (J G.Ab) (hY G.Ab)) by
   show U (DR g.c G.Ab)=_;unfold DR;rw[Hge.out]) k (by rw[Lr];exact Hk.out) (GI.val (.GF (J G.Ab))))
 have e:(g.Ay G).set 1 (.row (m9 (U ⟨gb,0,Z⟩) (J G.Ab) gc) 162 1 (J G.Ab) ((hY G.Ab).set k (GI.val (.GF (J G.Ab)))))=MG.Ay g (G.Ba ⟨k,Z⟩):=by
  exact mbs
 rw[e] at s2;exact s2
theorem GS.BQ (g:GS) (i:GI):(g.AQ i).Ab.length=J g.Ab+1:=by
 simp[GS.AQ]
theorem GS.dN (g:GS) (i:GI):(g.AQ i).Ac=g.Ac:=rfl
theorem GS.p5 (g:GS) (i:GI):(g.AQ i).BM=g.BM:=rfl
theorem GS.Lm (g:GS) (n:ByteArray) (d:Int) (a b:Ag):(g.IB n d a b).Ab.length=J g.Ab+1:=by
 exact GS.BQ _ _
theorem GS.ks (g:GS) (n:ByteArray) (d:Int) (a b:Ag):(g.IB n d a b).Ac=g.Ac:=rfl
theorem GS.cI (g:GS) (n:ByteArray) (d:Int) (a b:Ag):(g.IB n d a b).BM=g.BM:=rfl
theorem GS.Lv (g:GS) (a:Ag):(g.CG a).Ab.length=J g.Ab+1:=by
 exact GS.BQ _ _
theorem GS.nr (g:GS) (a:Ag):(g.CG a).Ac=g.Ac:=rfl
theorem GS.iq (g:GS) (a:Ag):(g.CG a).BM=g.BM:=rfl
theorem GS.FC (g:GS):(g.CW).Ab.length=J g.Ab+1:=by
 exact GS.BQ _ _
theorem GS.pj (g:GS):(g.CW).Ac=g.Ac:=rfl
theorem GS.Eh (g:GS) (l:Ii):(g.Ba l).Ab.length=J g.Ab:=by
 simp[GS.Ba]
theorem GS.xu (g:GS) (l:Ii):(g.Ba l).Ac=g.Ac:=rfl
theorem GS.pL (g:GS) (l:Ii):(g.Ba l).BM=g.BM:=rfl
theorem GS.P6 (g:GS) (r k:Int):(g.lo r k).Ab.length=J g.Ab+1:=by
 exact GS.BQ _ _
theorem GS.AeU (g:GS) (r k:Int):(g.lo r k).Ac=g.Ac:=rfl
theorem GS.Zc (g:GS) (r t i:Int):(g.SE r t i).Ab.length=J g.Ab+1:=by
 exact GS.BQ _ _
theorem GS.wO (g:GS) (r t i:Int):(g.SE r t i).Ac=g.Ac:=rfl
theorem GS.kR (g:GS) (r k:Int):(g.Pq r k).Ab.length=J g.Ab+1:=by
 exact GS.BQ _ _
theorem GS.LQ (g:GS) (k:Int) (a:Ag):(g.st k a).Ab.length=J g.Ab+1:=by
 exact GS.BQ _ _
theorem GS.iG (g:GS) (k:Int) (a:Ag):(g.st k a).BM=g.BM:=rfl
theorem GS.Us (g:GS) (t i:Int) (a:Ag):(g.IW t i a).Ab.length=J g.Ab+1:=by
 exact GS.BQ _ _
theorem GS.u5 (g:GS) (t i:Int) (a:Ag):(g.IW t i a).Ac=g.Ac:=rfl
theorem GS.Aaf (g:GS) (k:Int) (a:Ag):(g.Ut k a).Ab.length=J g.Ab+1:=by
 exact GS.BQ _ _
theorem GS.Oa (g:GS) (r:Int):(g.I1 r).Ab.length=J g.Ab+1:=by
 exact GS.BQ _ _
theorem GS.ZM (g:GS) (r:Int):(g.I1 r).Ac=g.Ac:=rfl
theorem GS.cH (g:GS) (r:Int):(g.KC r).Ab.length=J g.Ab+8:=by
 unfold GS.KC;simp only[GS.Oa,GS.Lm,GS.P6]
theorem GS.YT (g:GS) (r:Int):(g.KC r).Ac=g.Ac:=by unfold GS.KC;simp only[GS.ZM,GS.ks,GS.AeU]
theorem GS.bP (g:GS) (a:At) (r:Int):(g.Co a r).Ac=g.Ac:=by unfold GS.Co;split<;>rfl
theorem GS.LL (g:GS) (a:At) (r:Int):(g.Co a r).BM=g.BM:=by unfold GS.Co;split<;>rfl
theorem GS.lK (g:GS):J g.SL.Ab=J g.Ab+18:=by
 unfold GS.SL;simp only[GS.Oa,GS.Lm,GS.cH,GS.Lv,GS.FC,GS.Eh,GS.Zc,GS.Us,GS.BQ]
def GS.Ac5 (g:GS):GS:={g with Af:=g.Af+1}
def GS.eU (g:GS):GS:={g with Af:=g.Af-1}
theorem GS.ra (g:GS):J g.Ac5.Ab=J g.Ab:=rfl
theorem GS.nB (g:GS):J g.eU.Ab=J g.Ab:=rfl
theorem GS.xI (g:GS):g.SL.Ac=g.Ac:=by
 unfold GS.SL;simp only[GS.ZM,GS.ks,GS.YT,GS.nr,GS.pj,GS.xu,GS.wO,GS.u5,GS.dN]
theorem GS.Dz (g:GS) (a:At) (r:Int):(g.Co a r).Ab.length<=J g.Ab+1:=by
 unfold GS.Co;split
 .rw[GS.P6];omega
 .omega
def CF (b:Int):Prop:=0<=b/\b<=100000
theorem CF.eq {a:Int} (h:CF a) (e:b=a):CF b:=e▸h
theorem eQ {k:Int} (h:CF b) (hk: -1000<=k/\k<=1000):wrap64 (b+k)=b+k:=by
 obtain⟨h1,h2⟩:=h;exact IntWalk.wrap64_in _ Y
theorem Ai.Yy (h:Ai w L w' L') {b:Nat} (hb:w.heap.size<=b) (hn:b∉Et L') (i:Nat) (v:Value):Ai w L (w'.setCell ⟨b,i,Z⟩ v) L':=
 ⟨h.Ak.mod ((Az.refl [b] w').setCell (.inl EQ) v) (λx hx hm=>by rw[GE] at hm;subst hm;exact hn hx),h.mod.setCell (.inr hb) v,h.fp⟩
inductive rY (F:List (Nat×Obj)) (mb:Nat):List Value->List Ii->Prop
 |nil:rY F mb [] []
 |cons {v:Value} {l:Ii} {vs:List Value} {ls:List Ii}:WB F v mb l->rY F mb vs ls->rY F mb (v::vs) (l::ls)
theorem rY.sub (h:rY F mb vs ls) (k:∀x,x∈F->x∈E):rY E mb vs ls:=by
 induction h with
 |nil=>exact .nil
 |cons a b ih=>exact .cons (a.sub k) ih
theorem rY.FQ (h:rY F mb vs ls) (k:rY F mb us ms):rY F mb (vs++us) (ls++ms):=by
 induction h with
 |nil=>exact k
 |cons a b ih=>exact .cons a ih
structure VB (F:List (Nat×Obj)) (mb n:Nat) (vs:List Value) (ls:List Ii):Prop where
 all:rY F mb vs ls
 lt:∀l,l∈ls->l.k<n
theorem VB.nil (F:List (Nat×Obj)) (mb n:Nat):VB F mb n [] []:=⟨.nil,EQ⟩
theorem VB.up {m:Nat} (h:VB F mb n vs ls) (k:∀x,x∈F->x∈E) (hn:n<=m):VB E mb m vs ls:=
 ⟨h.all.sub k,λl hl=>JR (h.lt l hl) hn⟩
theorem VB.FQ {m:Nat} (h:VB F mb n vs ls) (k:VB E mb m us ms) (hn:n<=m):VB (E++F) mb m (vs++us) (ls++ms):=
 ⟨(h.all.sub λ_ hx=>Jc _ hx).FQ (k.all.sub λ_ hx=>IR _ hx),λl hl=>(Jp.1 hl).elim (λh1=>JR (h.lt l h1) hn) (k.lt l)⟩
def StS (G':GS) (g:MG) (G:GS) (w:World) (e:Ending) (w':World):Prop:=
 e= qF (qC #[])/\∃c a vs ls E,G'.BM=G.BM++ls/\Ai w (g.Ay G) w' (MG.Ay {g with c:=c,a:=a,av:=g.av++vs} G')/\
  AY w' (MG.Ay {g with c:=c,a:=a,av:=g.av++vs} G') E/\VB E g.mb (J G'.Ab) vs ls/\J vs+J G.Ab<=J G'.Ab
theorem AdA {x y z l1 l2:List Ii} (h:y=x++l1) (k:z=y++l2):z=x++(l1++l2):=by rw[k,h,Ji]
theorem ti:(prog.info? 1).map (λi=>(i.zero,i.size,i.bytes))=U (U .nilFunc,1,8):=Fd
theorem Nh (l:List Value) (v:Value):l++(#[v]:Array Value).toList=l++[v]:=rfl
theorem oO (r:Int) (w:World) (g:MG) (G:GS) (h:Aq w (g.Ay G)) (hn:J G.Ab<=1000000) (ha:J g.av<=J G.Ab):
  Calls prog 153 #[iJ g.mb,iI r] w (StS (G.I1 r) g G w):=by
 obtain⟨j0,hj,Lc,Lb,Mm⟩:=info_parts ti;have H:=D h;clear h;go_enter func153,ntmps153;go_wp2_with fail;refine(U7 _ _).mono ?_;rintro e w1 ⟨rfl,hm⟩;have S:=D (Ai.quiet H hm);go_wp2_with fail;refine(cT (.r r) _ g G S.Ak hn).mono ?_;rintro e w2 ⟨ba,bm,bk,c,rfl,st,kn,_⟩;replace S:=D (S.trans st);have K:=D kn;obtain⟨hc,hf,hlt⟩:=Dl S.Ak;clear kn st hm;go_wp2_with (first|(at_builtin;refine Bm 8 _ _ _ j0 _ #[.func (.func 154) #[] #[iJ ba,iJ bm,iJ bk]] _ S.Ak (k:=2) rfl Eq Eq underlying167 hj Lc Lb Mm rfl Y Eq Eq rfl (by simp[Value.oneCell']) (show J g.av+1<=maxLen by unfold maxLen;omega) (show(J g.av+1)*8<=_ by omega) ?_;intro g6 AL w6 Aw _;rw[Nh] at Aw;have q1:=(Aw.Ak.Ao (i:=0) rfl).cell;have q2:=(Aw.Ak.Ao (i:=0) rfl).free;have q3:=(Aw.Ak.Ao (i:=0) rfl).lt;have GK:=D Aw;clear Aw hc hf hlt))
 go_end0
 have Aw:=GK.out;have t1:=Aw.Ak.set (i:=0) rfl 4 (m9 (U ⟨g6,0,Z⟩) (J g.av+1) AL);have s2:=Aw.trans t1;have e:∀v,(g.av++[v]).length=J g.av+1:=λv=>EQ
 have s3:Ai w2 (MG.Ay {g with c:=c} (G.CG (.r r))) (w6.setCell ⟨g.mb,4,Z⟩ (m9 (U ⟨g6,0,Z⟩) (J g.av+1) AL)) (MG.Ay {g with c:=c,a:=⟨U ⟨g6,0,Z⟩,AL⟩,av:=g.av++[.func (.func 154) #[] #[iJ ba,iJ bm,iJ bk]]} (G.I1 r)):=by
  unfold MG.Ay at s2⊢;rw[e];exact s2
 refine⟨rfl,c,⟨U ⟨g6,0,Z⟩,AL⟩,[.func (.func 154) #[] #[iJ ba,iJ bm,iJ bk]],[G.EL (.r r)],_,rfl,S.trans s3,K.step s3,?_⟩;refine⟨⟨.cons ?_ .nil,λl hl=>?_⟩,by rw[GS.Oa];simp;omega⟩
 .exact⟨ba,bm,bk,rfl,by simp[Pf],by simp[F5],by simp[F6,GS.EL]⟩
 .rw[GE] at hl;subst hl;rw[GS.Oa];exact JC _
theorem oF (a:At) (r:Int) (w:World) (g:MG) (G:GS) (h:Aq w (g.Ay G)) (hn:J G.Ab<=1000000) (Fo:CF G.Ac) (hok:DO a):
  Calls prog 131 #[iJ g.mb,qD #[qB a.AX,iI a.v],iI r] w (yB (qD #[qB (GS.BD a r).Dd,iI (GS.BD a r).v]) (G.Co a r) g G w):=by
 obtain⟨lc,v⟩:=a;have H:=D h;have hb:=D Fo;clear Fo;cases lc with
 |false=>
  clear h hok;go_enter func131,ntmps131;go_wp2_with fail;refine(Zl _ _).mono ?_;rintro e w1 ⟨rfl,hm⟩;have K:=(AY.new (AY.nil (w.alloc (qG #[qB I,iI v] 235)) []) (Aq.nil _) (qG #[qB I,iI 0] 264)).quiet hm;rw[Rt] at K;have k0:=K.cell (GE.2 rfl);have k1:=K.free (GE.2 rfl);go_wp2_with fail;refine bodyPost_ret (v:= qD #[qB I,iI v]) (by simp[results,results131,go_sem,k0]) rfl ⟨rfl,g.c,?_⟩;have m:=(((Az.refl [] w).alloc _).alloc _).Aj hm;exact Ai.quiet H ((m.setCell (.inr EQ) _).setCell (.inr EQ) _)
 |true=>
  have hv:0<=v/\v<4:=by simpa[DO] using hok
  clear h hok;go_enter func131,ntmps131;go_wp2_with fail;have m0:=((Az.refl [] w).alloc (qG #[qB V,iI v] 235)).alloc (qG #[qB I,iI 0] 264);have S:=D (Ai.quiet H m0);have kk:=(AY.new (AY.nil (w.alloc (qG #[qB V,iI v] 235)) (g.Ay G)) (Ai.alloc H _).Ak (qG #[qB I,iI 0] 264));rw[Rt] at kk;have K:=D kk;clear kk m0;refine(kD v _ g G S.Ak (eQ hb Y)).mono ?_;rintro e w1 ⟨rfl,hm⟩;replace K:=D (K.quiet hm);replace S:=D (S.trans (Ai.quiet S.Ak hm));clear hm;go_wp2_with fail;refine(NR r (.n (G.Ac+v)) 0 _ g G S.Ak hn).mono ?_;rintro e w2 ⟨rfl,c,st⟩;replace K:=D (K.step st);replace S:=D (S.trans st);clear st;go_wp2_with fail;refine(U7 r _).mono ?_;rintro e w3 ⟨rfl,hm⟩;replace K:=D (K.quiet hm);replace S:=D (S.trans (Ai.quiet S.Ak hm));clear hm;have k0:=K.cell (GE.2 rfl);have k1:=K.free (GE.2 rfl);go_wp2_with fail;refine bodyPost_ret (v:= qD #[qB V,iI r]) (by simp[results,results131,go_sem,k0]) rfl ⟨rfl,c,?_⟩;have hk:=K.out.out _ _ (GE.2 rfl);have hle:w.heap.size<=w.heap.size+1:=JI _;exact(S.Yy hle hk 0 _).Yy hle hk 1 _
def Ew (F:List (Nat×Obj)) (sl:Value) (ws:List Value):Prop:=
 (ws=[]/\∃p c,sl= m9 p 0 c)\/∃b c T,∃Ic:Array Value,sl= m9 (U ⟨b,0,Z⟩) (J ws) c/\(b,qG Ic T (0,0))∈F/\ws=Ic.toList.take (J ws)
def D8 (F:List (Nat×Obj)):Bj->List Value->Prop
 |.nil,vs=>vs=[]
 |.set v op a b r,vs=>∃p us,vs=.iface 233 (iJ p)::us/\(p,qG #[iI v,qA op,qB a.AX,iI a.v,qB b.AX,iI b.v] 238 (0,0))∈F/\D8 F r us
 |.get v f s a r,vs=>∃p us,vs=.iface 243 (iJ p)::us/\(p,qG #[iI v,iI f,iI s,qB a.AX,iI a.v] 245 (0,0))∈F/\D8 F r us
 |.put f s i a r,vs=>∃p us,vs=.iface 246 (iJ p)::us/\(p,qG #[iI f,iI s,qB i.AX,iI i.v,qB a.AX,iI a.v] 248 (0,0))∈F/\D8 F r us
 |.out a r,vs=>∃p us,vs=.iface 249 (iJ p)::us/\(p,qG #[qB a.AX,iI a.v] 251 (0,0))∈F/\D8 F r us
 |.atomic b r,vs=>∃p us sl ws,vs=.iface 253 (iJ p)::us/\(p,qG #[sl] 255 (0,0))∈F/\Ew F sl ws/\D8 F b ws/\D8 F r us
 |.Es a b r,vs=>∃p us sl ws,vs=.iface 256 (iJ p)::us/\(p,qG #[qB a.AX,iI a.v,sl] 258 (0,0))∈F/\Ew F sl ws/\D8 F b ws/\D8 F r us
 |.loop n b r,vs=>∃p us sl ws,vs=.iface 259 (iJ p)::us/\(p,qG #[iI n,sl] 261 (0,0))∈F/\Ew F sl ws/\D8 F b ws/\D8 F r us
theorem Ew.sub (h:Ew F sl ws) (k:∀x,x∈F->x∈E):Ew E sl ws:=by
 rcases h with h|⟨b,c,T,Ic,h1,h2,h3⟩
 .exact .inl h
 .exact .inr ⟨b,c,T,Ic,h1,k _ h2,h3⟩
theorem D8.sub (h:D8 F t vs) (k:∀x,x∈F->x∈E):D8 E t vs:=by
 induction t generalizing vs with
 |nil=>exact h
 |set v op a b r ih=>obtain⟨p,us,h1,h2,h3⟩:=h;exact⟨p,us,h1,k _ h2,ih h3⟩
 |get v f s a r ih=>obtain⟨p,us,h1,h2,h3⟩:=h;exact⟨p,us,h1,k _ h2,ih h3⟩
 |put f s i a r ih=>obtain⟨p,us,h1,h2,h3⟩:=h;exact⟨p,us,h1,k _ h2,ih h3⟩
 |out a r ih=>obtain⟨p,us,h1,h2,h3⟩:=h;exact⟨p,us,h1,k _ h2,ih h3⟩
 |atomic b r ib ih=>obtain⟨p,us,sl,ws,h1,h2,h3,h4,h5⟩:=h;exact⟨p,us,sl,ws,h1,k _ h2,h3.sub k,ib h4,ih h5⟩
 |Es a b r ib ih=>obtain⟨p,us,sl,ws,h1,h2,h3,h4,h5⟩:=h;exact⟨p,us,sl,ws,h1,k _ h2,h3.sub k,ib h4,ih h5⟩
 |loop n b r ib ih=>obtain⟨p,us,sl,ws,h1,h2,h3,h4,h5⟩:=h;exact⟨p,us,sl,ws,h1,k _ h2,h3.sub k,ib h4,ih h5⟩
theorem Ew.L9 (h:Ew F sl ws):∃p c,sl= m9 p (J ws) c:=by
 rcases h with⟨rfl,p,c,rfl⟩|⟨b,c,T,Ic,h1,_,_⟩
 .exact⟨p,c,rfl⟩
 .exact⟨_,c,h1⟩
theorem Ew.AN {p:Option Addr} {c:Nat} (h:Ew F (m9 p n c) ws) {w:World} {L:List Ob} (K:AY w L F) {k:Nat} {v:Value} {us:List Value} (hk:ws.drop k=v::us):
  n=J ws/\k<n/\∃b,p=U ⟨b,0,Z⟩/\w.cell? ⟨b,k,Z⟩=U v:=by
 have hlt:k<J ws:=by
  rcases jL k (J ws) with h|h
  .exact h
  .rw[f8 h] at hk;cases hk
 have hv:ws[k]?=U v:=by
  have:=JM List.head? hk;rwa[List.head?_drop,jZ] at this
 rcases h with⟨rfl,_⟩|⟨b,c',T,Ic,h1,h2,h3⟩
 .simp at hlt
 .cases h1;refine⟨rfl,hlt,b,rfl,?_⟩;rw[K.cell h2];rw[h3,d6,Jb hlt,Array.getElem?_toList] at hv;exact hv
def Ft:Bj->Nat
 |.nil=>0
 |.set _ _ _ _ r=>1+Ft r
 |.get _ _ _ _ r=>1+Ft r
 |.put _ _ _ _ r=>1+Ft r
 |.out _ r=>1+Ft r
 |.atomic b r=>1+Ft b+Ft r
 |.Es _ b r=>1+Ft b+Ft r
 |.loop _ b r=>1+Ft b+Ft r
def nh:Bj->Bj
 |.nil=> .nil
 |.set v op a b _=> .set v op a b .nil
 |.get v f s a _=> .get v f s a .nil
 |.put f s i a _=> .put f s i a .nil
 |.out a _=> .out a .nil
 |.atomic b _=> .atomic b .nil
 |.Es a b _=> .Es a b .nil
 |.loop n b _=> .loop n b .nil
def tlS:Bj->Bj
 |.nil=> .nil
 |.set _ _ _ _ r=>r
 |.get _ _ _ _ r=>r
 |.put _ _ _ _ r=>r
 |.out _ r=>r
 |.atomic _ r=>r
 |.Es _ _ r=>r
 |.loop _ _ r=>r
theorem D8.len (h:D8 F t vs):J vs<=Ft t:=by
 induction t generalizing vs with
 |nil=>rw[h];simp
 |set v op a b r ih=>obtain⟨p,us,rfl,_,h3⟩:=h;have:=ih h3;simp[Ft];omega
 |get v f s a r ih=>obtain⟨p,us,rfl,_,h3⟩:=h;have:=ih h3;simp[Ft];omega
 |put f s i a r ih=>obtain⟨p,us,rfl,_,h3⟩:=h;have:=ih h3;simp[Ft];omega
 |out a r ih=>obtain⟨p,us,rfl,_,h3⟩:=h;have:=ih h3;simp[Ft];omega
 |atomic b r _ ih=>obtain⟨p,us,sl,ws,rfl,_,_,_,h3⟩:=h;have:=ih h3;simp[Ft];omega
 |Es a b r _ ih=>obtain⟨p,us,sl,ws,rfl,_,_,_,h3⟩:=h;have:=ih h3;simp[Ft];omega
 |loop n b r _ ih=>obtain⟨p,us,sl,ws,rfl,_,_,_,h3⟩:=h;have:=ih h3;simp[Ft];omega
theorem fS (k:Nat) (hk:k<=1000):wrap64 ((k:Int)+1)=k+1:=IntWalk.wrap64_in _ Y
theorem D8.hd {v:Value} (h:D8 F t (v::us)):D8 F (nh t) [v]/\D8 F (tlS t) us:=by
 cases t with
 |nil=>cases h
 |set _ op a b r=>obtain⟨p,q,h1,h2,h3⟩:=h;cases h1;exact⟨⟨p,[],rfl,h2,rfl⟩,h3⟩
 |get _ f s a r=>obtain⟨p,q,h1,h2,h3⟩:=h;cases h1;exact⟨⟨p,[],rfl,h2,rfl⟩,h3⟩
 |put f s i a r=>obtain⟨p,q,h1,h2,h3⟩:=h;cases h1;exact⟨⟨p,[],rfl,h2,rfl⟩,h3⟩
 |out a r=>obtain⟨p,q,h1,h2,h3⟩:=h;cases h1;exact⟨⟨p,[],rfl,h2,rfl⟩,h3⟩
 |atomic b r=>obtain⟨p,q,sl,ws,h1,h2,h3,h4,h5⟩:=h;cases h1;exact⟨⟨p,[],sl,ws,rfl,h2,h3,h4,rfl⟩,h5⟩
 |Es a b r=>obtain⟨p,q,sl,ws,h1,h2,h3,h4,h5⟩:=h;cases h1;exact⟨⟨p,[],sl,ws,rfl,h2,h3,h4,rfl⟩,h5⟩
 |loop n b r=>obtain⟨p,q,sl,ws,h1,h2,h3,h4,h5⟩:=h;cases h1;exact⟨⟨p,[],sl,ws,rfl,h2,h3,h4,rfl⟩,h5⟩
abbrev TaY (T:TypeId):Prop:=∀(p:Value) (w:World),(Instr.typeAssert (.iface T p) 208 T V).run prog w=.ok (qC #[p,qB V]) w
abbrev PC (T Z99:TypeId):Prop:=∀(p:Value) (w:World),(Instr.typeAssert (.iface T p) 208 Z99 V).run prog w=.ok (qC #[qE Z,qB I]) w
theorem Yn:TaY 233:=λ_ _=>Fd
theorem nI:PC 233 246:=λ_ _=>Fd
theorem nJ:PC 233 249:=λ_ _=>Fd
theorem bT:PC 233 256:=λ_ _=>Fd
theorem WL:PC 233 259:=λ_ _=>Fd
theorem aD:PC 233 253:=λ_ _=>Fd
theorem nN:PC 243 233:=λ_ _=>Fd
theorem nQ:TaY 243:=λ_ _=>Fd
theorem nO:PC 243 246:=λ_ _=>Fd
theorem nP:PC 243 249:=λ_ _=>Fd
theorem bW:PC 243 256:=λ_ _=>Fd
theorem WQ:PC 243 259:=λ_ _=>Fd
theorem aF:PC 243 253:=λ_ _=>Fd
theorem nK:PC 246 233:=λ_ _=>Fd
theorem nM:PC 246 243:=λ_ _=>Fd
theorem Yo:TaY 246:=λ_ _=>Fd
theorem nL:PC 246 249:=λ_ _=>Fd
theorem uW:PC 246 256:=λ_ _=>Fd
theorem iz:PC 246 259:=λ_ _=>Fd
theorem aE:PC 246 253:=λ_ _=>Fd
theorem Yp:PC 249 233:=λ_ _=>Fd
theorem Yq:PC 249 243:=λ_ _=>Fd
theorem Tn:PC 249 246:=λ_ _=>Fd
theorem To:TaY 249:=λ_ _=>Fd
theorem uX:PC 249 256:=λ_ _=>Fd
theorem iA:PC 249 259:=λ_ _=>Fd
theorem uY:PC 256 233:=λ_ _=>Fd
theorem uZ:PC 256 243:=λ_ _=>Fd
theorem bU:PC 256 246:=λ_ _=>Fd
theorem bV:PC 256 249:=λ_ _=>Fd
theorem Yr:TaY 256:=λ_ _=>Fd
theorem iB:PC 259 233:=λ_ _=>Fd
theorem iC:PC 259 243:=λ_ _=>Fd
theorem WN:PC 259 246:=λ_ _=>Fd
theorem WO:PC 259 249:=λ_ _=>Fd
theorem Tp:PC 259 256:=λ_ _=>Fd
theorem Oy:TaY 259:=λ_ _=>Fd
theorem aG:PC 253 233:=λ_ _=>Fd
theorem aH:PC 253 243:=λ_ _=>Fd
theorem SU:PC 253 246:=λ_ _=>Fd
theorem SV:PC 253 249:=λ_ _=>Fd
theorem Oz:PC 253 256:=λ_ _=>Fd
theorem LO:PC 253 259:=λ_ _=>Fd
theorem NB:TaY 253:=λ_ _=>Fd
theorem AaV (F:List (Nat×Obj)) (w:World) (L:List Ob) (hK:AY w L F) (n:Nat) (hn9:n<=1000):∀(t:Bj) (sl:Value) (vs:List Value),Ft t<=n->Ew F sl vs->D8 F t vs->
  Calls prog 155 #[sl] w λe w'=>e= qF (qB (BU t))/\w'=w:=by
 induction n using Nat.strongRecOn with
 |_ n ih=>
 intro t sl vs hn hr hs;have hlen:J vs<=1000:=by have:=hs.len;omega
 obtain⟨p,c,rfl⟩:=hr.L9;have Hr:=D hr;have Hs:=D hs;have HK:=D hK;have IH:=D ih;clear hr hs hK ih;go_enter func155,ntmps155;go_wp2
 go_loop [10] (λi=>∃(k:Nat) (t':Bj),i= iI k/\k<=J vs/\D8 F t' (vs.drop k)/\BU t=BU t'/\Ft t'<=n) (λi=>J vs-(intOf i).toNat)
 case atStart=>exact⟨0,t,rfl,Jr _,Hs,rfl,hn⟩
 case round=>
  obtain⟨k,t',rfl,hk,Aw,hpt,Gp⟩:=hrel;have Z6:=D hpt;clear hpt;cases hd:vs.drop k with
  |nil=>
   rw[hd] at Aw;have Kf:¬k<(J vs:Int):=by have:=Q7.1 hd;omega
   have ht:BU t'=I:=by
    exact man
   have Ht:=D ht;clear ht Aw hd;go_wp2;go_ret;rw[Z6.out,Ht.out];exact⟨rfl,rfl⟩
  |cons v us=>
   obtain⟨_,VE,b,hp,Te⟩:=Hr.AN HK hd;subst hp;have Kf:k<(J vs:Int):=Y
   have dw:us=vs.drop (k+1):=by rw[<-d8,hd];rfl
   rw[hd] at Aw;have uB:=D dw;clear hd dw;have inc:=fS k Y;cases t' with
   |nil=>cases Aw
   |set v0 op a b0 r=>
    obtain⟨q,us',h1,h2,h3⟩:=Aw;cases h1;have ta1:=nI;have ta2:=bT;have ta3:=WL;have H3:=D h3;clear h3 h2;simp only[Ft] at Gp;go_wp2_with fail
    go_round
    case rel=>(try rw[inc]);exact⟨k+1,r,rfl,Y,uB.out▸H3.out,Z6,Y⟩
    case measure=>(try rw[inc]);simp[intOf];omega
   |get v0 f s a r=>
    obtain⟨q,us',h1,h2,h3⟩:=Aw;cases h1;have ta1:=nO;have ta2:=bW;have ta3:=WQ;have H3:=D h3;clear h3 h2;simp only[Ft] at Gp;go_wp2_with fail
    go_round
    case rel=>(try rw[inc]);exact⟨k+1,r,rfl,Y,uB.out▸H3.out,Z6,Y⟩
    case measure=>(try rw[inc]);simp[intOf];omega
   |out a r=>
    obtain⟨q,us',h1,h2,h3⟩:=Aw;cases h1;have ta1:=Tn;have ta2:=uX;have ta3:=iA;have H3:=D h3;clear h3 h2;simp only[Ft] at Gp;go_wp2_with fail
    go_round
    case rel=>(try rw[inc]);exact⟨k+1,r,rfl,Y,uB.out▸H3.out,Z6,Y⟩
    case measure=>(try rw[inc]);simp[intOf];omega
   |atomic b r=>
    obtain⟨q,us',sl',ws,h1,h2,h3,h4,h5⟩:=Aw;cases h1;have ta1:=SU;have ta2:=Oz;have ta3:=LO;have H5:=D h5;clear h3 h4 h5 h2;simp only[Ft] at Gp;go_wp2_with fail
    go_round
    case rel=>(try rw[inc]);exact⟨k+1,r,rfl,Y,uB.out▸H5.out,Z6,Y⟩
    case measure=>(try rw[inc]);simp[intOf];omega
   |put f s i a r=>
    obtain⟨q,us',h1,h2,h3⟩:=Aw;cases h1;have ta1:=Yo;clear h3 h2;go_wp2;go_ret;rw[Z6.out];exact⟨rfl,rfl⟩
   |Es a b r=>
    obtain⟨q,us',sl',ws,h1,h2,h3,h4,h5⟩:=Aw;cases h1;have ta1:=bU;have ta2:=Yr;have H3:=D h3;have H4:=D h4;have H5:=D h5;have kq:=HK.cell h2;clear h3 h4 h5 h2;simp only[Ft] at Gp;obtain⟨p',c',rfl⟩:=H3.L9;go_wp2_with fail;refine(IH (Ft b) Y Y b _ ws (Jf _) H3 H4).mono ?_;rintro e w' ⟨rfl,rfl⟩;cases Mn:BU b with
    |true=>
     go_wp2_with fail;go_ret;rw[Z6.out];simp[BU,Mn]
    |false=>
     exact maQ
   |loop m b r=>
    obtain⟨q,us',sl',ws,h1,h2,h3,h4,h5⟩:=Aw;cases h1;have ta1:=WN;have ta2:=Tp;have ta3:=Oy;have H3:=D h3;have H4:=D h4;have H5:=D h5;have kq:=HK.cell h2;clear h3 h4 h5 h2;simp only[Ft] at Gp;obtain⟨p',c',rfl⟩:=H3.L9;go_wp2_with fail;refine(IH (Ft b) Y Y b _ ws (Jf _) H3 H4).mono ?_;rintro e w' ⟨rfl,rfl⟩;cases Mn:BU b with
    |true=>
     go_wp2_with fail;go_ret;rw[Z6.out];simp[BU,Mn]
    |false=>
     exact maQ
def GZ (F:List (Nat×Obj)):List Bj->List Value->Prop
 |[],vs=>vs=[]
 |t::r,vs=>∃sl ws us,vs=sl::us/\Ew F sl ws/\D8 F t ws/\GZ F r us
theorem GZ.len (h:GZ F ts vs):J vs=J ts:=by
 induction ts generalizing vs with
 |nil=>rw[h];rfl
 |cons t r ih=>obtain⟨sl,ws,us,rfl,_,_,h3⟩:=h;rw[Jg,Jg,ih h3]
theorem GZ.AN (h:GZ F ts vs) (k:Nat) (hk:k<J ts):∃sl ws us,vs.drop k=sl::us/\Ew F sl ws/\D8 F (ts.getD k .nil) ws:=by
 induction ts generalizing vs k with
 |nil=>simp at hk
 |cons t r ih=>
  obtain⟨sl,ws,us,rfl,h1,h2,h3⟩:=h;cases k with
  |zero=>exact⟨sl,ws,us,rfl,h1,h2⟩
  |succ k=>exact ih h3 k (by simpa using hk)
def Ep (c:UInt8):Prop:=48<=c.toNat/\c.toNat<=57
instance AjI (c:UInt8):Decidable (Ep c):=inferInstanceAs (Decidable (_/\_))
def stp (a:Nat) (c:UInt8):Nat:=10*a+(c.toNat-48)
theorem Ag0 (a:Nat) (c:UInt8):stp a c=10*a+(c.toNat-48):=by grind [stp]
def Pc (a:Nat) (l:By):Nat:=l.foldl stp a
theorem IS (a:Nat):Pc a []=a:=by grind [Pc]
theorem Fz (a:Nat) (c:UInt8) (r:By):Pc a (c::r)=Pc (10*a+(c.toNat-48)) r:=by rw[<-Ag0];grind [Pc]
theorem p7 (l:By):∀a,a<=Pc a l:=by
 induction l<;>grind [IS,Fz]
theorem ZP (l m:By):∀a,Pc a (l++m)=Pc (Pc a l) m:=by
 induction l with
 |nil=>intro a;rfl
 |cons c r ih=>grind [Fz]
theorem Sr (l:By):∀a,Pc a l=a*10 ^ J l+Pc 0 l:=by
 induction l<;>grind [IS,Fz]
theorem ZO (l:By) (h:∀c,c∈l->Ep c):Pc 0 l<10 ^ J l:=by
 induction l with
 |nil=>simp[IS]
 |cons c r ih=>
  simp only[IS,Fz,Jg];rw[Sr,Nat.pow_succ];have h1:=ih λc hc=>h c (Id _ hc)
  have h2:Ep c:=h c (Jd ..);have h3:c.toNat-48<=9:=by have:=h2.2;omega
  have h4:(10*0+(c.toNat-48))*10 ^ J r<=9*10 ^ J r:=Qq _ Y;omega
theorem GW (u:Nat):∀c,c∈Lib.decDigits u->Ep c:=by
 induction u using Nat.strongRecOn<;>grind [Lib.decDigits,Ep,UInt8.toNat_ofNat']
theorem Gs (u:Nat):Pc 0 (Lib.decDigits u)=u:=by
 induction u using Nat.strongRecOn<;>grind [Lib.decDigits,IS,Fz,UInt8.toNat_ofNat',ZP]
theorem OX (u:Nat):Lib.decDigits u≠[]:=by
 rw[Lib.decDigits];split<;>simp
theorem RE (u:Nat):(Lib.decDigits u).headD 0=48->u=0:=by
 induction u using Nat.strongRecOn with
 |_ u ih=>
  intro h;rw[Lib.decDigits] at h;grind [congrArg UInt8.toNat h,UInt8.toNat_ofNat',Lib.decDigits]
theorem Vn (l:By) (h:∀c,c∈l->Ep c) (hne:l≠[]) (hh:l.headD 0=48->J l=1):Lib.decDigits (Pc 0 l)=l:=by
 obtain⟨n,hn⟩:∃n,n=J l:=⟨_,rfl⟩;induction n generalizing l with
 |zero=>exact Jk (Jm hn.symm) hne
 |succ n ih=>
  rcases Jv l with h0|⟨r,c,h0⟩
  .exact Jk h0 hne
  .rw[Jy] at h0;subst h0;have hc:Ep c:=h c EQ;have e:c=UInt8.ofNat (48+(c.toNat-48)):=by
    have:=hc.1;rw[show 48+(c.toNat-48)=c.toNat by omega,UInt8.ofNat_toNat]
   have ay:=hc.1;have Wf:=hc.2;cases r with
   |nil=>
    simp only[JF,IS,Fz,Nat.mul_zero,JH];rw[Lib.decDigits,dif_pos Y,<-e]
   |cons a q=>
    have hr:=ih (a::q) (λx hx=>h x (IR _ hx)) EQ (λh1=>by
      have:=hh (by simpa using h1);simp at this) (by simp at hn⊢;omega)
    rw[ZP];simp only[IS,Fz] at hr⊢;generalize hz:Pc (10*0+(a.toNat-48)) q=z at hr⊢;have Lc:1<=z:=by
     have ha:Ep a:=h a EQ;have h1:=p7 q (10*0+(a.toNat-48));have:a.toNat≠48:=λh2=>by
      have:a=48:=UInt8.toNat_inj.1 h2;have:=hh (by simpa using this);grind
     have:=ha.1;omega
    rw[Lib.decDigits,dif_neg Y,show(10*z+(c.toNat-48)) / 10=z by omega,show(10*z+(c.toNat-48)) % 10=c.toNat-48 by omega,hr,<-e]
theorem ky (b:Bool) (l:By):∀(a:Int) (v:Int),ED b l a=U v->∀c,c∈l->Ep c:=by
 induction l<;>grind [ED,Ep]
theorem Ty (b:Bool) (l:By) (h:∀c,c∈l->Ep c):∀a:Nat,(Pc a l<=if b then 9223372036854775808 else 9223372036854775807)->ED b l (if b then -(a:Int) else a)=U (if b then -(Pc a l:Int) else (Pc a l:Int)):=by
 induction l with
 |nil=>intro a _;rw[IS];rfl
 |cons c r ih=>
  intro a ha;have hc:Ep c:=AC;obtain⟨h1,h2⟩:=hc;have aZ:=p7 r (10*a+(c.toNat-48));simp only[Fz] at ha⊢;rw[<-ih AC _ ha]
  conv=>lhs;unfold ED
  rw[In Y];congr 1;grind [wrap64]
theorem AeY (l m:By) (hl:∀c,c∈l->Ep c) (hm:∀c,c∈m->Ep c) (he:J l=J m):Op.bytesLess l m=decide (Pc 0 l<Pc 0 m):=by
 induction l generalizing m with
 |nil=>
  cases m with
  |nil=>rfl
  |cons=>cases he
 |cons a x ih=>
  cases m with
  |nil=>cases he
  |cons b y=>
   have ha:Ep a:=AC;have hb:Ep b:=AC;have hx:=ZO x AC;have hy:=ZO y AC;have Bg:J x=J y:=AC
   have ih:=ih y (λc hc=>hl c (Id _ hc)) (λc hc=>hm c (Id _ hc)) Bg;simp only[Op.bytesLess,Fz];rw[Sr x,Sr y,ih,<-Bg];rw[<-Bg] at hy;obtain⟨a1,a2⟩:=ha;obtain⟨b1,b2⟩:=hb;generalize 10 ^ J x=P at*;generalize Pc 0 x=u at*;generalize Pc 0 y=v at*;have e1:a<b<->a.toNat<b.toNat:=UInt8.lt_iff_toNat_lt;have e2:a=b<->a.toNat=b.toNat:=UInt8.toNat_inj.symm;rw[Q1];simp only[QP,JD,JB,Q0,e1,e2];generalize a.toNat=i at*;generalize b.toNat=j at*;simp only[Nat.mul_zero,JH];constructor
   .rintro(h|⟨rfl,h⟩)
    .exact mbz
    .omega
   .intro h;rcases jR i j with h'|h'|h';grind;grind
    .exact mbA
theorem Abr:Pc 0 K8=9223372036854775807:=by decide+kernel
theorem Abt:Pc 0 La=9223372036854775808:=by decide+kernel
theorem vS:∀c,c∈K8->Ep c:=by decide+kernel
theorem vT:∀c,c∈La->Ep c:=by decide+kernel
theorem Aiv (l m:By) (hl:∀c,c∈l->Ep c) (hm:∀c,c∈m->Ep c) (he:J l=J m) (h:Pc 0 l=Pc 0 m):l=m:=by
 induction l generalizing m with
 |nil=>
  grind
 |cons a x ih=>
  cases m with
  |nil=>cases he
  |cons b y=>
   have ha:Ep a:=AC;have hb:Ep b:=AC;have hx:=ZO x AC;have hy:=ZO y AC;have Bg:J x=J y:=AC
   simp only[IS,Fz] at h;rw[Sr x,Sr y,<-Bg] at h;rw[<-Bg] at hy;have ih:=ih y (λc hc=>hl c (Id _ hc)) (λc hc=>hm c (Id _ hc)) Bg;obtain⟨a1,a2⟩:=ha;obtain⟨b1,b2⟩:=hb;have e2:a=b<->a.toNat=b.toNat:=UInt8.toNat_inj.symm;have Vj:a=b:=by
    rw[e2];generalize a.toNat=i at*;generalize b.toNat=j at*;generalize 10 ^ J x=P at*;generalize Pc 0 x=u at*;generalize Pc 0 y=v at*;simp only[Nat.mul_zero,JH] at h;rcases jR i j with h'|h'|h'
    .exact mbz
    .exact h'
    .exact mbA
   subst Vj;rw[ih Y]
theorem vU (b:Bool):(if b then La else K8).length=19:=by cases b<;>rfl
theorem Abu (b:Bool):Pc 0 (if b then La else K8)=if b then 9223372036854775808 else 9223372036854775807:=by
 grind [Abr,Abt]
theorem vV (b:Bool):∀c,c∈(if b then La else K8)->Ep c:=by
 grind [vS,vT]
theorem Tz (b:Bool) (t:By) (h:∀c,c∈t->Ep c):F3 b t (if b then La else K8)=I<->t≠[]/\Pc 0 t<=(if b then 9223372036854775808 else 9223372036854775807)/\(t.headD 0=48->J t=1/\b=I):=by
 have hl:=vU b;have hd:=Abu b;have hg:=vV b;generalize (if b then La else K8)=m at*;rw[<-hd];by_cases hn:t=[];grind [F3]
 .have hp:0<J t:=AC;have hle:(¬J m<J t/\¬(J t=J m/\Op.bytesLess t m=I/\t≠m))<->(J t<=19/\Pc 0 t<=Pc 0 m):=by
   rw[hl];by_cases h1:19<J t;grind
   .by_cases h2:J t=19;grind [AeY,Aiv]
    .constructor
     .intro hh;refine⟨Y,?_⟩;have h3:=ZO t h;have h4:10 ^ J t<=10 ^ 18:=Nat.pow_le_pow_right Do Y;rw[hd];split<;>omega
     grind
  have hlen:Pc 0 t<=Pc 0 m->(t.headD 0=48->J t=1/\b=I)->J t<=19:=by
   intro h1 h2;cases t with
   |nil=>grind
   |cons a x=>
    by_cases ha:a=48;grind
    .have had:Ep a:=AC;have:a.toNat≠48:=λe=>ha (UInt8.toNat_inj.1 e)
     have h48:=had.1;simp only[IS,Fz] at h1;rw[Sr] at h1;rcases jL 19 (a::x).length with h3|h3
     .exfalso;simp only[Jg] at h3;have h4:10 ^ 19<=10 ^ J x:=Nat.pow_le_pow_right Do Y;have h5:1*10 ^ J x<=(10*0+(a.toNat-48))*10 ^ J x:=Qq _ Y;rw[hd] at h1;have h6:(if b=V then 9223372036854775808 else 9223372036854775807)<=9223372036854775808:=by cases b<;>decide
      omega
     .exact h3
  have hne:t.isEmpty=I:=AC
  have hr:F3 b t m=I<->(¬J m<J t/\¬(J t=J m/\Op.bytesLess t m=I/\t≠m))/\(t.headD 0=48->J t=1/\b=I):=by
   grind [F3]
  rw[hr,hle];grind
theorem Ac4 (t:By) (h:∀c,c∈t->Ep c):(t.headD 0==45)=I:=by
 cases t with
 |nil=>rfl
 |cons a r=>
  have:=(h a AC).1;rw[Jh];intro h';have:a=45:=h';subst this<;>grind
theorem KE (v:Int) (h0: -9223372036854775808<=v) (h1:v<=9223372036854775807):number (Lib.itoa v)=U v:=by
 unfold Lib.itoa;by_cases hv:v<0
 .rw[Jb hv];obtain⟨n,hn⟩:∃n,n=v.natAbs:=AC;rw[<-hn];have hd:=GW n;unfold number;simp only[List.headD_cons,beq_self_eq_true,Qh,List.tail_cons];have hb:=(Tz V (Lib.decDigits n) hd).2 ⟨OX n,by rw[Gs];grind,λhh=>by have:=RE n hh;omega⟩;simp only[Qh] at hb;rw[hb];have:=Ty V (Lib.decDigits n) hd 0 (by rw[Gs];grind);simp only[Qh,Int.natCast_zero,Int.neg_zero,Gs] at this;grind
 grind [GW,number,Ac4,Tz,Lib.decDigits,Gs,RE,Ty]
theorem kv {l:By} (h:number l=U v): -9223372036854775808<=v/\v<=9223372036854775807/\Lib.itoa v=l:=by
 unfold number at h;simp only[] at h;generalize hb:(l.headD 0==45)=b at h;by_cases bj:F3 b (if b=V then l.tail else l) (if b=V then La else K8)=V
 .rw[Jb bj] at h;cases h
 .rw[In bj] at h;have bj:=d7.2 bj;have hd:=ky _ _ _ _ h;obtain⟨n1,n2,n3⟩:=(Tz b _ hd).1 bj;have hv:=Ty b _ hd 0 n2;have e0:(if b then -((0:Nat):Int) else ((0:Nat):Int))=0:=by cases b<;>rfl
  rw[e0,h] at hv;have hv:=Option.some.inj hv;cases b with
  |false=>
   simp only[Qb,J1] at*;have e:=Vn l hd n1 λhh=>(n3 hh).1
   refine⟨Y,Y,?_⟩;unfold Lib.itoa;rw[In Y,hv,JW,e]
  |true=>
   simp only[Qh] at*;have e:=Vn l.tail hd n1 λhh=>Jk (n3 hh).2 Do
   have Xq:0<Pc 0 l.tail:=by
    rcases d5 (Pc 0 l.tail) with h0|h0
    .rw[h0] at e;have e':Lib.decDigits 0=[48]:=by rw[Lib.decDigits];rfl
     rw[e'] at e;exact Jk (n3 (by rw[<-e];rfl)).2 Do
    .exact h0
   refine⟨Y,Y,?_⟩;unfold Lib.itoa;rw[Jb Y,hv,Int.natAbs_neg,Int.natAbs_natCast,e];cases l<;>grind
theorem kj (l:By) (h:∀c,c∈l->Ep c):∀a:Nat,Pc a l<18446744073709551616->Lib.parseUint10 a l=.ok (Pc a l):=by
 induction l<;>grind [IS,Ep,List.mem_cons_self,p7,Fz,Lib.parseUint10]
theorem yi (v:Int) (h0: -9223372036854775808<=v) (h1:v<=9223372036854775807):Lib.atoiAll (Lib.itoa v)=.ok v:=by
 unfold Lib.itoa;by_cases hv:v<0;grind [GW,Lib.atoiAll,Lib.parseMag,OX,kj,Gs]
 .rw[In hv];have hd:=GW v.toNat;cases hl:Lib.decDigits v.toNat<;>grind [OX,Ep,List.mem_cons_self,Lib.atoiAll,Lib.parseMag,kj,Gs]
theorem Tx (l:By) (v:Int):number l=U v<->Lib.parseIntB 64 l=.ok v/\Lib.itoa v=l:=by
 rw[Lib.parseIntB_64];constructor;grind [kv,yi]
 .rintro⟨h1,h2⟩;rw[<-Lib.parseIntB_64] at h1;grind [Lib.parseIntB_bounds h1,KE]
