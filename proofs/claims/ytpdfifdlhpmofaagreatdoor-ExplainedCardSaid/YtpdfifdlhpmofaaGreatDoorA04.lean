/- Part 4 of the proof. -/
import Derived.Test.YtpdfifdlhpmofaaGreatDoorA03
set_option linter.unusedVariables false
set_option linter.unusedSimpArgs false
set_option maxHeartbeats 0
set_option maxRecDepth 99999
namespace Go.Proofs.YtpdfifdlhpmofaaGreatDoor
open Go.RowKit Tryz
open Value renaming slice->qD,string->qE,bool->qF,tuple->qG,agg->qH,pointer->qI
open Ending renaming returned->qJ
open Obj renaming cells->qK
open Option renaming none->Z,some->U
open Bool renaming true->V,false->I
open Go.Lib renaming hid->D
open List renaming length->J
variable {p:Prop}
theorem maF (h:p:=by
 intro d p c os is_ n m hw h hd h3 hi hm;obtain⟨o,i1,i2,i3⟩:=ih d (p+1) c os is_ n m hw.2.2.2.2 h hd h3 hi hm;refine⟨o,i1,i2,?_⟩<;>grind [Ca,Nd.of,Ez.step]):p:=h
theorem maL (h:p:=by
 obtain⟨i1,i2⟩:=ih d (p+1) _ BY os is_ n m hw.2.2.2.2 (h.same hs.1 hs.2) hd h3;exact⟨⟨h.cb,by simp[Nd.of],i1⟩,i2⟩):p:=h
theorem maS (h:p:=by
 have Hpb:=D MS;clear MS;go_wp2_with fail
 go_round
 case rel=>(try rw[inc]);exact⟨k+1,r,rfl,Y,vD.out▸H5.out,by rw[aT.out];simp[BV,Hpb.out],Y⟩
 case measure=>(try rw[inc]);simp[intOf];omega):p:=h
theorem mba (h:p:=by
 by_cases h1:Ci (bs a)<;>by_cases h2:Ds (bs b)<;>by_cases h3:0<=Bg Dc c<;>by_cases h4:Ds (bs d)<;>simp[h1,h2,h3,h4,D5,Cu,Dm,Cv,Nj,EW,Pb,FD,Ki,RY]):p:=h
theorem mbj (h:p:=by
 go_wp2_with fail;refine(Fb _ xb r _ Ae H).mono ?_;rintro e w1 ⟨⟨fb,rfl,hb⟩,hm⟩;go_wp2;exact⟨rfl,⟨fb,rfl,hb⟩,hm.nil⟩):p:=h
theorem mbl (h:p:=by
 rintro e w1 ⟨rfl,c,Ay⟩;go_wp2_with fail
 go_end0
 exact⟨rfl,c,(Af.quiet H (((Aw.refl _ _).alloc _).alloc _)).trans Ay⟩):p:=h
theorem mbn (h:p:=by
 obtain⟨q,m1,m2,m3,m4,m5⟩:=hm;exact⟨vy.2,q,_,m1,m2,m3,m4,m5,.inl ⟨_,⟨λd p=>rfl,rfl,by simp[Nd.of]⟩,rfl⟩⟩):p:=h
theorem mbu (h:p:=by
 simp only[Ez.mk.injEq,true_and,and_true];constructor<;>omega):p:=h
theorem mbw (h:p:=by
 rw[uO,<-Hge.out];show _=[_,_,_];simp only[MG.Az,GS.Bd,DS,Jp,QO,Q3]):p:=h
theorem mbB (h:p:=by
 exact⟨x,_,_,rfl,h,rfl,rfl,rfl,.inr ⟨_,rfl,rfl⟩⟩):p:=h
theorem mbD (h:p:=by
 have:(i-48+1)*P<=(j-48)*P:=Qu _ Y;rw[qC] at this;omega):p:=h
theorem mbE (h:p:=by
 have:(j-48+1)*P<=(i-48)*P:=Qu _ Y;rw[qC] at this;omega):p:=h
theorem mbQ (h:p:=by
 unfold Fq at h;split at h
 .cases h
 .rename_i hw;have:=Fm h;subst this;exact L3 hw):p:=h
variable {s k:By} {α:Type} {x y:qL} {r q R:RS} {ts:List Bj} {t:Bj} {l:Ws} {m b v:Int} {w w' w1:World} {a:ByteArray} {c:Ez} {n mb:Nat} {os is_:List Int} {L L':List Ob} {F E:List (Nat×Obj)} {o:Obj} {vs us ws:List Value} {ls ms:List Io} {sl:Value}
theorem dL (h:Ci s=V):0<J s:=by
 grind [Ci]
theorem Vg (h:Ci s=V):number s=Z:=by
 have hp:=dL h;cases s<;>grind [low,Ci,UInt8.le_iff_toNat_le,number,ED]
def DI (s:ByteArray):Wd:=if Ci (bs s) then ⟨s,0⟩ else ⟨⟨#[]⟩,(number (bs s)).getD 0⟩
theorem Cu (a:ByteArray) (r:Ws):EV (a::r)=if Ds (bs a) then U (DI a,r) else Z:=by
 grind [EV,DI,Ds]
theorem D5:EV []=Z:=rfl
theorem EW (a:ByteArray) (r:Ws):dJ (a::r)=if Ci (bs a) then U (a,r) else Z:=rfl
theorem Nj:dJ []=Z:=rfl
theorem Pb:atF []=U (.zero,[]):=rfl
theorem FD (a:ByteArray) (r:Ws):atF (a::r)=if bs a=kAt then EV r else U (.zero,a::r):=rfl
theorem AaS {s:ByteArray} (h:Ci (bs s)=V):¬s.size=0:=by
 have:=dL h;rw[Bt] at this;omega
theorem Ki (m:Int) (a:ByteArray) (r:Ws):Iq m (a::r)=if GL (bs a) m then U ((number (bs a)).getD 0,r) else Z:=by
 grind [Iq,Cu,Ds,DI,GL,Vg,ByteArray.size]
theorem RY (m:Int):Iq m []=Z:=rfl
theorem IE (a:ByteArray) (l:Ws):wd (a::l) 0=a:=rfl
theorem Kh (a:ByteArray) (l:Ws) (k:Nat):wd (a::l) (k+1)=wd l k:=by simp[wd]
theorem Dm (x:α):GP x []=U x:=rfl
theorem Cv (x:α) (a:ByteArray) (l:Ws):GP x (a::l)=Z:=rfl
theorem Yy (l:Ws):l=[]\/(∃a,l=[a])\/(∃a b,l=[a,b])\/(∃a b c,l=[a,b,c])\/(∃a b c d,l=[a,b,c,d])\/∃a b c d e r,l=a::b::c::d::e::r:=by
 rcases l with _|⟨a,_|⟨b,_|⟨c,_|⟨d,_|⟨e,r⟩⟩⟩⟩⟩<;>grind
theorem dA (w:ByteArray) (l:Ws) (hw:bs w=Fz):Kk l=if Bv (w::l) then
  U (.set (wd l 0) (DI (wd l 1)) (if J l=4 then wd B7 (Bg Dc (wd l 2)).toNat else ⟨#[]⟩) (if J l=4 then DI (wd l 3) else .zero)) else Z:=by
 rcases Yy l with rfl|⟨a,rfl⟩|⟨a,b,rfl⟩|⟨a,b,c,rfl⟩|⟨a,b,c,d,rfl⟩|⟨a,b,c,d,e,r,rfl⟩<;>
  simp[Bv,Fy,IE,Kh,hw,Fz,AQ,AE,EM,A8,Kk,Cu,D5,EW,Nj,xh,Dm,Cv]
 grind [D5];grind [Cu]
 .by_cases h1:Ci (bs a)<;>by_cases h2:Ds (bs b)<;>by_cases h3:0<=Bg Dc c<;>simp[h1,h2,h3,D5,Cu,Dm,Cv,Nj,EW,Pb,FD,Ki,RY]
 .exact mba
 .exact mba
theorem dC (w:ByteArray) (l:Ws) (hw:bs w=DR):Md l=if Bv (w::l) then
  U (.get (wd l 0) (wd l 1) (if J l=4 then DI (wd l 3) else .zero)) else Z:=by
 rcases Yy l with rfl|⟨a,rfl⟩|⟨a,b,rfl⟩|⟨a,b,c,rfl⟩|⟨a,b,c,d,rfl⟩|⟨a,b,c,d,e,r,rfl⟩<;>
  simp[Bv,Fy,IE,Kh,hw,DR,Fz,AQ,AE,EM,A8,Md,Cu,D5,EW,Nj,Pb,FD,Dm,Cv]
 grind [Nj];grind [Dm,EW,Pb];grind [D5,Cv,EW,FD];grind [Cu,Dm,Cv,EW,FD];grind [Cu,Cv,EW,FD]
theorem dB (w:ByteArray) (l:Ws) (hw:bs w=EF):Mb l=if Bv (w::l) then
  U (.put (wd l 0) (DI (wd l 1)) (if J l=4 then DI (wd l 3) else .zero)) else Z:=by
 rcases Yy l with rfl|⟨a,rfl⟩|⟨a,b,rfl⟩|⟨a,b,c,rfl⟩|⟨a,b,c,d,rfl⟩|⟨a,b,c,d,e,r,rfl⟩<;>
  simp[Bv,Fy,IE,Kh,hw,EF,DR,Fz,AQ,AE,EM,A8,Mb,Cu,D5,EW,Nj,Pb,FD,Dm,Cv]
 grind [D5];grind [Cu,Dm,Pb];grind [D5,Cu,Cv,FD];grind [Cu,Dm,Cv,FD];grind [Cu,Cv,FD]
theorem TR (f:Wd->VP) (w:ByteArray) (l:Ws) (hw:bs w=IF\/bs w=UD):Fq f l=if Bv (w::l) then U (f (DI (wd l 0))) else Z:=by
 rcases hw with hw|hw<;>rcases l with _|⟨a,_|⟨b,r⟩⟩<;>
  simp[Bv,Fy,IE,Kh,hw,IF,UD,EF,DR,Fz,AQ,AE,EM,A8,Fq,Cu,D5,Dm,Cv]
 all_goals by_cases h1:Ds (bs a)<;>simp[h1,D5,Dm,Cv]
theorem Za (w:ByteArray) (l:Ws) (hw:bs w=EZ):Lv l=if Bv (w::l) then U (.loop ((number (bs (wd l 0))).getD 0)) else Z:=by
 rcases l with _|⟨a,_|⟨b,r⟩⟩<;>
  simp[Bv,Fy,IE,Kh,hw,EZ,IF,UD,EF,DR,Fz,AQ,AE,EM,A8,Lv,Ki,RY,Dm,Cv]
 all_goals by_cases h1:GL (bs a) 4<;>simp[h1,D5,Dm,Cv]
theorem fv (w:ByteArray) (l:Ws) (hw:bs w=A8):GP VP.atomic l=if Bv (w::l) then U .atomic else Z:=by
 rcases l with _|⟨a,r⟩<;>simp[Bv,Fy,IE,hw,AQ,AE,EM,A8,Dm,Cv]
theorem wU (w:ByteArray) (l:Ws) (h1:¬bs w=AQ) (h2:¬bs w=AE) (h3:¬bs w=EM) (h:Bv (w::l)=I):IP w l=Z:=by
 grind [IP,dA,dC,dB,TR,fv,Za]
theorem ZG (w:ByteArray) (l:Ws) (h1:¬bs w=AQ) (h2:¬bs w=AE) (h3:¬bs w=EM) (h:Bv (w::l)=V):
  bs w=Fz\/bs w=DR\/bs w=EF\/bs w=IF\/bs w=A8\/bs w=UD\/bs w=EZ:=by
 grind [Bv,Fy,IE]
theorem lr (x:qL) (w:ByteArray) (r:Ws):x.row (w::r)=if bs w=AQ then x.Ec r
  else if bs w=AE then
   if r≠[] then .error 2 else if x.Ad≠[] then .error 3
   else .ok {x with Aa:=x.Aa++[.nil],AA:=[],Ai:=0,Ad:=[]}
  else if bs w=EM then
   if r≠[] then .error 2 else match x.Ad.getLast? with
    |none=> .error 3
    |some f=> .ok ({x with Ad:=x.Ad.dropLast}.add f.done)
  else x.Bf w r:=rfl
theorem yP (x:qL) (w:ByteArray) (l:Ws) (h:Bv (w::l)=I):x.row (w::l)=.error 2:=by
 rw[lr];by_cases h1:bs w=AQ
 .rw[Jd h1];unfold qL.Ec;rcases l with _|⟨a,_|⟨b,_|⟨c,r⟩⟩⟩<;>simp[Bv,Fy,IE,Kh,h1,AQ] at h<;>simp[Nj,EW,Ki]
  .simp[h]
  grind;grind
 grind [Bv,Fy,IE,qL.Bf,wU]
theorem rB:ByteArray.size ⟨#[]⟩=0:=rfl
theorem OD (h:r.AA=x.AA) {s:ByteArray} (hs:Ds (bs s)=V):
  x.CC (DI s)=if (r.CC s).2 then .ok (r.CC s).1 else .error 4:=by
 grind [qL.CC,RS.CC,DI,Vg,AaS,Ds,rB]
theorem fy (x:qL):x.CC .zero=.ok .zero:=rfl
def fD (r q:RS):Prop:=q.Ax=r.Ax/\q.first=r.first/\q.size=r.size/\q.AA=r.AA/\q.Ad=r.Ad/\q.Ai=r.Ai/\q.p.Aa=r.p.Aa/\q.p.cells=r.p.cells
theorem M6.same (h:M6 x r) (k:fD r q):M6 x q:=by
 obtain⟨k1,k2,k3,k4,k5,k6,k7,k8⟩:=k<;>grind [M6]
def Aea (r:RS) (nd:Nd) (s:ByteArray) (w:Ws) (res:Except Int (Int×Int×At)):Prop:=match res with
 |.error c=>c=4/\(r.cell nd s w).2.2=I
 |.ok (f,z,a)=>(r.cell nd s w).2.2=V/\(r.cell nd s w).2.1={nd with first:=f,size:=z,AN:=a}/\fD r (r.cell nd s w).1
theorem AdG (h:M6 x r) (nd:Nd) (hz:nd.AN=.zero) (s:ByteArray) (w:Ws) (FU:J w=5->Ds (bs (wd w 4))=V):
  Aea r nd s w (x.cell s (if J w=5 then DI (wd w 4) else .zero)):=by
 unfold Aea qL.cell RS.cell;rw[h.dK];cases hf:x.WE s with
 |none=>
  rw[WD hf];simp
 |some sv=>
  obtain⟨i,h1,h2⟩:=WC hf;rw[h2];have hi:¬((i:Int)<0):=Y
  have e1:r.first.getD i 0=sv.first:=by rw[h.first];grind
  have e2:r.size.getD i 0=sv.size:=by rw[h.size];grind
  simp only[hi,J7,JW,e1,e2];by_cases h5:J w=5
  .simp only[h5,Qf];rw[OD (r:=r.GQ sv.first) h.AA AC];by_cases ha:((r.GQ sv.first).CC (wd w 4)).2
   .simp only[ha,Qf];exact⟨trivial,trivial,⟨rfl,rfl,rfl,rfl,rfl,rfl,rfl,rfl⟩⟩
   grind
  .simp only[h5,J7,fy];exact⟨trivial,by rw[<-hz],⟨rfl,rfl,rfl,rfl,rfl,rfl,rfl,rfl⟩⟩
theorem ZA (h:M6 x r) (nd:Nd) (n:ByteArray):
  match x.Df n with
  |.error c=>r.MQ nd n=.error c
  |.ok (v,y)=>∃q,r.MQ nd n=.ok (q,{nd with v:=v})/\M6 y q/\y.Aa=x.Aa/\y.Ad=x.Ad/\y.Ai=x.Ai:=by
 unfold qL.Df RS.MQ;rw[h.dK,h.AA];cases hf:x.WE n with
 |some sv=>
  grind [WC]
 |none=>
  rw[WD hf];simp only[QD,Qd,J7,show¬(0:Int)<= -1 by omega];by_cases hp:0<=Bg x.AA n;grind
  .simp only[hp,J7];by_cases h4:J x.AA=4;grind
   .simp only[h4,J7];grind [M6]
def Ans (f:Bj->Bj) (nd:Nd):Prop:=(∀d p,Ca (f .nil) d p=[nd])/\Dh (f .nil)=1/\¬(nd.kind=122\/nd.kind=108\/nd.kind=40)
theorem VM (h:x.Aa=ts++[t]) (s:Bj->Bj):
  ∃t',(x.add s).Aa=ts++[t']/\Ca t' 0 0++GF (x.add s).Ad 0 (Dh t')=(Ca t 0 0++GF x.Ad 0 (Dh t))++Ca (s .nil) (J x.Ad) (Dh t+Oc x.Ad)/\
   N7 (x.add s).Ad (Dh t')=N7 x.Ad (Dh t)/\(x.add s).Ad.map Fr.kind=x.Ad.map Fr.kind/\(x.add s).cells=x.cells/\(x.add s).Ax=x.Ax/\(x.add s).AA=x.AA/\(x.add s).Ai=x.Ai:=by
 rcases Jw x.Ad with h0|⟨fs,f,h0⟩;grind [qL.add,GF,mZ,Oc,N7]
 .rw[Jz] at h0;unfold qL.add;rw[h0];refine⟨t,?_,?_,?_,?_,?_,?_,?_,?_⟩
  .simp[h]
  .simp only[Qm,Pi,QP,Qa,WB,GF,Jr,mZ,Jj,Jy,AbP,Oc,GT,JP];grind
  grind [Zh,N7]
  .simp
  .simp
  .simp
  .simp
  .simp
theorem Nb {ts:List (List Nd)} {l m:List Nd} (h:r.p.Aa=ts++[l]):(r.BB m).p.Aa=ts++[m]:=by
 grind [RS.BB]
theorem Dy {ts:List (List Nd)} {l:List Nd} (h:r.p.Aa=ts++[l]):r.CF=l:=by
 grind [RS.CF]
theorem vq {s:Bj->Bj} (h:x.Aa=ts++[t]):(x.add s).Ad.length=J x.Ad:=by
 obtain⟨_,_,_,_,h4,_⟩:=VM h s;have:=JM List.length h4;simpa using this
theorem vp (h:M6 x r) {ts:List Bj} {t:Bj} (ht:x.Aa=ts++[t]) (s:Bj->Bj) (l:List Nd)
  (hl:l=Ca (s .nil) (J x.Ad) (Dh t+Oc x.Ad)):M6 (x.add s) (r.BB (r.CF++l)):=by
 obtain⟨t',a1,a2,a3,a4,a5,a6,a7,a8⟩:=VM ht s;rcases h.Aa with⟨h0,_⟩|⟨ts',u,b1,b2,b3⟩
 .rw[ht] at h0;simp at h0
 .rw[ht] at b1;obtain⟨rfl,hu⟩:=QN b1 rfl;cases hu;refine⟨h.cells.trans a5.symm,h.dK.trans (by rw[a6]),h.first.trans (by rw[a6]),h.size.trans (by rw[a6]),h.AA.trans a7.symm,h.Ai.trans a8.symm,by rw[vq ht];exact h.depth,.inr ⟨ts,t',a1,?_,?_⟩⟩;grind [Nb,Dy]
  .rw[a3];exact b3
theorem zx (h:M6 x r) {ts:List Bj} {t:Bj} (ht:x.Aa=ts++[t]) (k:KY) (h3:J x.Ad<3):
  M6 (x.DV k) ({r with Ad:=r.Ad++[J r.CF]}.BB (r.CF++[DO k (J x.Ad)])):=by
 rcases h.Aa with⟨h0,_⟩|⟨ts',u,b1,b2,b3⟩
 .rw[ht] at h0;simp at h0
 .refine⟨h.cells,h.dK,h.first,h.size,h.AA,h.Ai,by grind [qL.DV],.inr ⟨ts',u,b1,?_,?_⟩⟩;grind [Nb,Dy,qL.DV,WB,GF,Ca]
  .show r.Ad++[J r.CF]=_;grind [qL.DV,Dy,Zh,N7,CX,VD]
theorem uP (A:List α) (a:α) (B:List α) (z:α):(A++a::B).getD (J A) z=a:=EQ
theorem rG (fs:List Fr) (A:List Nd) (d p:Nat) (hp:J A=p) (B:List Nd):
  ((N7 fs p).any λk=>((A++GF fs d p++B).getD k (.of 0)).kind==40)=fs.any λf=>f.kind.Cm:=by
 induction fs generalizing A d p with
 |nil=>rfl
 |cons f fs ih=>
  simp only[N7,List.any_cons,GF];have e:A++DO f.kind d::(Ca f.body (d+1) (p+1)++GF fs (d+1) (p+1+Dh f.body))++B=(A++DO f.kind d::Ca f.body (d+1) (p+1))++GF fs (d+1) (p+1+Dh f.body)++B:=EQ
  congr 1
  .subst hp;rw[Jj,Jy,uP];cases f.kind<;>rfl
  .rw[e];exact ih _ _ _ (by grind [CX])
theorem rF (h:M6 x r):r.BC=x.BC:=by
 unfold RS.BC qL.BC;rcases h.Aa with⟨_,h1,_,h3⟩|⟨ts,t,b1,b2,b3⟩;grind
 .rw[b3,Dy b2];have:=rG x.Ad (Ca t 0 0) 0 (Dh t) (CX _ _ _) [];rw[Jr] at this;exact this
theorem N8 (h:M6 x r):J r.Ad=J x.Ad:=by
 grind [lB,M6]
theorem M9 (h:M6 x r):r.p.Aa=[]<->x.Aa=[]:=by
 rcases h.Aa with⟨h0,h1,h2,h3⟩|⟨ts,t,b1,b2,b3⟩;grind
 .rw[b1,b2];simp
def Lr (x:qL) (r:RS) (w:Ws) (res:Except Int qL):Prop:=match res with
 |.error c=>r.node w=.error c
 |.ok y=>∃y0 q nd,r.node w=.ok (q,nd)/\M6 y0 q/\y0.Aa=x.Aa/\y0.Ad=x.Ad/\y0.Ai=x.Ai/\
   ((∃f,Ans f nd/\y=y0.add f)\/∃k,nd=DO k 0/\y=y0.DV k)
theorem Aca {w:ByteArray} (hw:bs w=Fz) (h:Bv (w::l)=V):Ds (bs (wd l 1))=V/\(J l=4->Ds (bs (wd l 3))=V):=by
 grind [Bv,Fy,IE,Kh,Fz,AQ,AE,EM,A8]
theorem Acd {w:ByteArray} (hw:bs w=DR) (h:Bv (w::l)=V):J l=4->Ds (bs (wd l 3))=V:=by
 grind [Bv,Fy,IE,Kh,DR,AQ]
theorem Acb {w:ByteArray} (hw:bs w=EF) (h:Bv (w::l)=V):Ds (bs (wd l 1))=V/\(J l=4->Ds (bs (wd l 3))=V):=by
 grind [Bv,Fy,IE,Kh,EF,DR,AQ,AE,EM,A8]
theorem dW {w:ByteArray} (hw:bs w=IF\/bs w=UD) (h:Bv (w::l)=V):Ds (bs (wd l 0))=V:=by
 rcases hw with hw|hw<;>simp[Bv,Fy,IE,Kh,hw,IF,UD,EF,DR,Fz,AQ,AE,EM,A8] at h<;>exact h.2
theorem AbH (x:qL) (r:RS) (h:M6 x r) (w:ByteArray) (l:Ws) (hw:bs w=Fz) (hl:Bv (w::l)=V):
  Lr x r (w::l) (x.finish (.set (wd l 0) (DI (wd l 1)) (if J l=4 then wd B7 (Bg Dc (wd l 2)).toNat else ⟨#[]⟩) (if J l=4 then DI (wd l 3) else .zero))):=by
 obtain⟨h1,h3⟩:=Aca hw hl;unfold Lr qL.finish RS.node;simp only[IE,hw,Qf,Kh,Jg];have ha:=OD (x:=x) (r:=r) h.AA h1;rw[ha];by_cases hA:(r.CC (wd l 1)).2
 .simp only[hA,Qf];by_cases h4:J l=4
  .have h5:J l+1=5:=Y
   simp only[Jd h4,Jd h5];have hb:=OD (x:=x) (r:=r) h.AA (h3 h4);rw[hb];by_cases hB:(r.CC (wd l 3)).2
   .simp only[hB,Qf,Qo];have hm:=ZA h {Nd.of 115 with a:=(r.CC (wd l 1)).1,op:=wd B7 (Bg Dc (wd l 2)).toNat,b:=(r.CC (wd l 3)).1} (wd l 0);cases hx:x.Df (wd l 0) with
    |error c=>rw[hx] at hm;exact hm
    |ok vy=>
     rw[hx] at hm;exact mbn
   grind
  .have h5:¬J l+1=5:=Y
   simp only[In h4,In h5,fy];have hm:=ZA h {Nd.of 115 with a:=(r.CC (wd l 1)).1} (wd l 0);cases hx:x.Df (wd l 0) with
   |error c=>rw[hx] at hm;grind
   |ok vy=>
    rw[hx] at hm;obtain⟨q,m1,m2,m3,m4,m5⟩:=hm;exact⟨vy.2,q,_,by rw[Jd trivial];exact m1,m2,m3,m4,m5,.inl ⟨_,⟨λd p=>rfl,rfl,by simp[Nd.of]⟩,rfl⟩⟩
 grind
theorem Rh:¬DR=Fz/\¬EF=Fz/\¬EF=DR/\¬IF=Fz/\¬IF=DR/\¬IF=EF/\¬UD=Fz/\¬UD=DR/\¬UD=EF/\¬UD=IF/\¬EZ=Fz/\¬EZ=DR/\¬EZ=EF/\¬EZ=IF/\¬EZ=UD/\
  ¬A8=Fz/\¬A8=DR/\¬A8=EF/\¬A8=IF/\¬A8=UD/\¬A8=EZ:=Do
theorem fa (h:M6 x r) (k:Nat) (s:ByteArray) (w:ByteArray) (l:Ws) (FU:J l=4->Ds (bs (wd l 3))=V):
  Aea r (.of k) s (w::l) (x.cell s (if J l=4 then DI (wd l 3) else .zero)):=by
 have:=AdG h (.of k) rfl s (w::l) (by intro h5;exact FU AC);grind [Kh]
theorem AbM (x:qL) (r:RS) (h:M6 x r) (w:ByteArray) (l:Ws) (hw:bs w=DR) (hl:Bv (w::l)=V):
  Lr x r (w::l) (x.finish (.get (wd l 0) (wd l 1) (if J l=4 then DI (wd l 3) else .zero))):=by
 have h3:=Acd hw hl;have hk:=Rh;have hc:=fa h 103 (wd l 1) w l h3;unfold Lr qL.finish RS.node;simp only[IE,hw,Kh,hk,J7,Qf];cases hx:x.cell (wd l 1) (if J l=4 then DI (wd l 3) else .zero) with
 |error c=>
  rw[hx] at hc;obtain⟨rfl,hc⟩:=hc<;>grind
 |ok v=>
  obtain⟨f,z,a⟩:=v;rw[hx] at hc;obtain⟨Ys,Wy,hc3⟩:=hc;simp only[Ys,Qf,Wy];have hm:=ZA (h.same hc3) {Nd.of 103 with first:=f,size:=z,AN:=a} (wd l 0);cases hy:x.Df (wd l 0) with
  |error c=>rw[hy] at hm;exact hm
  |ok vy=>
   rw[hy] at hm;exact mbn
theorem fD.F6 (h:fD r q):fD r q.F6:=h
theorem zD (h:fD r q) (s:ByteArray):q.CC s=r.CC s:=by unfold RS.CC;rw[h.2.2.2.1]
theorem AbJ (x:qL) (r:RS) (h:M6 x r) (w:ByteArray) (l:Ws) (hw:bs w=EF) (hl:Bv (w::l)=V):
  Lr x r (w::l) (x.finish (.put (wd l 0) (DI (wd l 1)) (if J l=4 then DI (wd l 3) else .zero))):=by
 obtain⟨h1,h3⟩:=Acb hw hl;have hk:=Rh;have hc:=fa h 112 (wd l 0) w l h3;have ha:=OD (x:=x) (r:=r) h.AA h1;unfold Lr qL.finish RS.node;simp only[IE,hw,Kh,hk,J7,Qf];cases hx:x.cell (wd l 0) (if J l=4 then DI (wd l 3) else .zero) with
 |error c=>
  rw[hx] at hc;obtain⟨rfl,hc⟩:=hc<;>grind
 |ok v=>
  obtain⟨f,z,a⟩:=v;rw[hx] at hc;obtain⟨Ys,Wy,hc3⟩:=hc;simp only[Ys,Qo,Wy,ha,zD hc3];by_cases hA:(r.CC (wd l 1)).2
  .simp only[hA,Qf];exact⟨x,_,_,rfl,h.same hc3.F6,rfl,rfl,rfl,.inl ⟨_,⟨λd p=>rfl,rfl,by simp[Nd.of]⟩,rfl⟩⟩
  grind
theorem AbK (x:qL) (r:RS) (h:M6 x r) (w:ByteArray) (l:Ws) (hw:bs w=IF) (hl:Bv (w::l)=V):
  Lr x r (w::l) (x.finish (.out (DI (wd l 0)))):=by
 have h1:=dW AC hl;have hk:=Rh;have ha:=OD (x:=x) (r:=r) h.AA h1;unfold Lr qL.finish RS.node;simp only[IE,hw,Kh,hk,J7,Qf,ha];by_cases hA:(r.CC (wd l 0)).2
 .simp only[hA,Qf];exact⟨x,_,_,rfl,h,rfl,rfl,rfl,.inl ⟨_,⟨λd p=>rfl,rfl,by simp[Nd.of]⟩,rfl⟩⟩
 grind
theorem AeU (x:qL) (r:RS) (h:M6 x r) (w:ByteArray) (l:Ws) (hw:bs w=UD) (hl:Bv (w::l)=V):
  Lr x r (w::l) (x.finish (.Ew (DI (wd l 0)))):=by
 have h1:=dW AC hl;have hk:=Rh;have ha:=OD (x:=x) (r:=r) h.AA h1;unfold Lr qL.finish RS.node;simp only[IE,hw,Kh,hk,J7,Qf,ha];by_cases hA:(r.CC (wd l 0)).2
 .simp only[hA,Qf];exact mbB
 grind
theorem xj (x:qL) (r:RS) (h:M6 x r) (w:ByteArray) (l:Ws) (hw:bs w=EZ):
  Lr x r (w::l) (x.finish (.loop ((number (bs (wd l 0))).getD 0))):=by
 have hk:=Rh;unfold Lr qL.finish RS.node;simp only[IE,hw,Kh,hk,J7,Qf];exact mbB
theorem lL (x:qL) (r:RS) (h:M6 x r) (w:ByteArray) (l:Ws) (hw:bs w=A8):
  Lr x r (w::l) (x.finish .atomic):=by
 have hk:=Rh;unfold Lr qL.finish RS.node;simp only[IE,hw,hk,J7,Qf];exact mbB
theorem Adt (f:Fr) (d p:Nat):
  let k:=(DO f.kind d).kind
  let l:=DO f.kind d::Ca f.body (d+1) (p+1)
  let m:=if k=40 then [Nd.of 41] else if k=108 then [{Nd.of 98 with CN:=(p:Int)+1,Ah:=(DO f.kind d).Ah}] else []
  (l++m).set 0 {DO f.kind d with CN:=((p+(l++m).length:Nat):Int)}=Ca (f.done .nil) d p:=by
 grind [DO,Nd.of,Fr.done,Ca,CX]
theorem Ahs (A B:List α) (x:α):(A++B).set (J A) x=A++B.set 0 x:=by
 grind
theorem AfT (h:M6 x r):match x.Ad.getLast? with
  |none=>r.PD=.error 3
  |some f=>∃q,r.PD=.ok q/\M6 ({x with Ad:=x.Ad.dropLast}.add f.done) q:=by
 rcases Jw x.Ad with h0|⟨fs,f,h0⟩;grind [N8,RS.PD]
 .rw[Jz] at h0;rw[h0];simp only[Qm,Pi,QP,Qa];rcases h.Aa with⟨_,h1,_⟩|⟨ts,t,b1,b2,b3⟩;grind [M6]
  .rw[h0] at b3 b2;rw[Zh] at b3;simp only[N7] at b3;rw[WB] at b2;simp only[GF,Jr,JU] at b2;have FR:=Dy b2;unfold RS.PD;rw[b3,FR];simp only[Qm,Pi,QP,Qa];generalize hA:Ca t 0 0++GF fs 0 (Dh t)=A;have hAl:J A=Dh t+Oc fs:=by rw[<-hA,GT,CX,VD]
   have e1:Ca t 0 0++(GF fs 0 (Dh t)++DO f.kind (J fs)::Ca f.body (J fs+1) (Dh t+Oc fs+1))=A++DO f.kind (J fs)::Ca f.body (J fs+1) (Dh t+Oc fs+1):=by rw[<-hA,Jj]
   rw[e1,<-hAl];simp only[uP];have hy:M6 {x with Ad:=fs} {r with Ad:=N7 fs (Dh t),p:={r.p with Aa:=ts.map (Ca · 0 0)++[A]}}:=
    ⟨h.cells,h.dK,h.first,h.size,h.AA,h.Ai,by have:=h.depth;rw[h0] at this;grind,AC⟩
   have hz:=vp (ts:=ts) (t:=t) hy b1 f.done _ rfl;refine⟨_,rfl,?_⟩;have Pm:(RS.CF {r with Ad:=N7 fs (Dh t),p:={r.p with Aa:=ts.map (Ca · 0 0)++[A]}})=A:=Dy rfl;rw[Pm] at hz;have hf:=Adt f (J fs) (Dh t+Oc fs);simp only[] at hf;have mw:∀m:List Nd,((A++DO f.kind (J fs)::Ca f.body (J fs+1) (J A+1))++m).set (J A) {DO f.kind (J fs) with CN:=(((A++DO f.kind (J fs)::Ca f.body (J fs+1) (J A+1))++m).length:Int)}=
     A++((DO f.kind (J fs)::Ca f.body (J fs+1) (J A+1))++m).set 0 {DO f.kind (J fs) with CN:=((J A+((DO f.kind (J fs)::Ca f.body (J fs+1) (J A+1))++m).length:Nat):Int)}:=by
    intro m;rw[Jj,Ahs,GT]
   have key:∀L:List Nd,L=A++Ca (f.done .nil) (J fs) (Dh t+Oc fs)->M6 ({x with Ad:=fs}.add f.done) (RS.BB {r with Ad:=N7 fs (Dh t)} L):=by
    grind [RS.BB]
   grind
theorem AbG (x:qL) (r:RS) (h:M6 x r) (w:ByteArray) (l:Ws) (hw:bs w=Fz\/bs w=DR\/bs w=EF\/bs w=IF\/bs w=A8\/bs w=UD\/bs w=EZ) (hl:Bv (w::l)=V):
  ∃s,IP w l=U s/\(s.Cm=V<->(bs w=DR\/bs w=EF))/\Lr x r (w::l) (x.finish s):=by
 have hk:=Rh;unfold IP;rcases hw with hw|hw|hw|hw|hw|hw|hw<;>simp only[hw,hk,Qf,J7];grind [dA,VP.Cm,AbH x r h w l hw hl];grind [dC,VP.Cm,AbM x r h w l hw hl];grind [dB,VP.Cm,AbJ x r h w l hw hl];grind [TR,VP.Cm,AbK x r h w l hw hl];grind [fv,VP.Cm,lL x r h w l hw];grind [TR,VP.Cm,AeU x r h w l hw hl];grind [Za,VP.Cm,xj x r h w l hw]
def VT (a:Except Int qL) (b:Except Int RS):Prop:=match a,b with
 |.error c,.error d=>c=d
 |.ok y,.ok q=>M6 y q
 |_,_=>False
theorem wG (h:M6 x r) (w:ByteArray) (l:Ws) (hw:bs w=AQ) (hl:Bv (w::l)=V):VT (x.Ec l) (r.Ec (w::l)):=by
 have key:∃n size,x.Ec l=(if x.Aa≠[] then .error 3 else if (x.WE n).isSome then .error 4 else .ok {x with Ax:=x.Ax++[⟨n,x.cells,size⟩],cells:=x.cells+size})/\
   n=wd l 0/\size=if 2<(w::l).length then (number (bs (wd (w::l) 2))).getD 0 else 1:=by
  rcases l with _|⟨a,_|⟨b,_|⟨c,q⟩⟩⟩<;>simp[Bv,Fy,IE,Kh,hw,AQ] at hl
  .exact⟨a,1,by grind [qL.Ec,EW],rfl,EQ⟩
  grind [qL.Ec,EW,Ki,Kh,IE]
 obtain⟨n,size,e,hn,hs⟩:=key;rw[e];unfold RS.Ec;rw[<-hs,Kh,<-hn];by_cases ht:x.Aa=[]
 .have IJ:=(M9 h).2 ht;simp only[ht,IJ,ne_eq,not_true_eq_false,J7];rw[h.dK];cases hf:x.WE n with
  |some sv=>
   grind [WC,VT]
  |none=>
   rw[WD hf];simp only[QD,Qd,J7,show¬(0:Int)<= -1 by omega];obtain⟨h1,h2,h3,h4,h5,h6,h7,h8⟩:=h;refine⟨by simp[h1],EQ,by simp[h3,h1],by simp[h4],h5,h6,h7,?_⟩<;>grind
 grind [M9,VT]
theorem oN (h:M6 x r):VT (if x.Ad≠[] then .error 3 else .ok {x with Aa:=x.Aa++[.nil],AA:=[],Ai:=0,Ad:=[]})
  (if r.Ad≠[] then .error 3 else .ok {r with p:={r.p with Aa:=r.p.Aa++[[]],Ap:=r.p.Ap++[List.replicate r.p.cells.toNat I],BX:=r.p.BX++[I]},AA:=[],Ai:=0}):=by
 grind [N8,N7,Ca,GF,VT,M6]
theorem Zt (h:¬x.Aa=[]):x.EX=J x.Ad+1:=by unfold qL.EX;rw[In h]
theorem zO (h:¬x.Aa=[]) (s:Bj->Bj):(x.add s).EX=J x.Ad+1:=by
 rcases Jw x.Aa with h0|⟨ts,t,h0⟩;grind
 .rw[Jz] at h0;obtain⟨t',a1,_⟩:=VM h0 s;rw[Zt (by rw[a1];simp),vq h0]
theorem WV (h:¬x.Aa=[]) (s:Bj->Bj):(x.add s).Ai=x.Ai:=by
 rcases Jw x.Aa with h0|⟨ts,t,h0⟩;grind
 .rw[Jz] at h0;grind [VM h0 s]
theorem bJ (l:List Nd) (n:Int):RS.BB {r with Ai:=n} l={r.BB l with Ai:=n}:=rfl
theorem bG (h:M6 x r) (w:ByteArray) (l:Ws) (hw:bs w=Fz\/bs w=DR\/bs w=EF\/bs w=IF\/bs w=A8\/bs w=UD\/bs w=EZ) (hl:Bv (w::l)=V):
  VT (x.Bf w l) (if r.p.Aa=[]\/(r.BC=I/\(bs w=DR\/bs w=EF))\/(r.BC=V/\bs w=A8) then .error 3
    else match r.node (w::l) with
      |.error c=> .error c
      |.ok (r,x)=>
        if 14<r.Ai+1 then .error 5
        else if x.kind=122\/x.kind=108\/x.kind=40 then
          if J r.Ad=3 then .error 5
          else .ok ({r with Ai:=r.Ai+1,Ad:=r.Ad++[J r.CF]}.BB (r.CF++[{x with Ah:=J r.Ad}]))
        else .ok ({r with Ai:=r.Ai+1}.BB (r.CF++[x]))):=by
 obtain⟨s,hs,hb,hn⟩:=AbG x r h w l hw hl;unfold qL.Bf;rw[hs];simp only[];have hc:(x.Aa=[]\/(s.Cm=V/\x.BC=I)\/(bs w=A8/\x.BC=V))<->(r.p.Aa=[]\/(r.BC=I/\(bs w=DR\/bs w=EF))\/(r.BC=V/\bs w=A8)):=by
  rw[M9 h,rF h,hb];grind
 by_cases NL:x.Aa=[]\/(s.Cm=V/\x.BC=I)\/(bs w=A8/\x.BC=V)
 .rw[Jd NL,Jd AC];exact rfl
 .rw[In NL,In AC];have Vw:¬x.Aa=[]:=AC;unfold Lr at hn;cases hf:x.finish s with
  |error c=>rw[hf] at hn;simp only[] at hn⊢;rw[hn];exact rfl
  |ok y=>
   rw[hf] at hn;simp only[] at hn⊢;obtain⟨y0,q,nd,e1,I6,e2,e3,e4,mM⟩:=hn;rw[e1];simp only[];have AcB:¬y0.Aa=[]:=by rw[e2];exact Vw
   obtain⟨ts,t,ht⟩:∃ts t,y0.Aa=ts++[t]:=by
    grind [M6]
   have hq:=I6.Ai;have hqo:=N8 I6;have hd:=I6.depth;rcases mM with⟨f,⟨l1,l2,l3⟩,rfl⟩|⟨k,rfl,rfl⟩
   .rw[WV AcB,zO AcB,hq,In l3];by_cases O2:14<y0.Ai+1
    .rw[Jd (AC),Jd O2];exact rfl
    .rw[In Y,In O2];have hz:=vp I6 ht f [nd] AC;rw[bJ];obtain⟨h1,h2,h3,h4,h5,h6,h7,h8⟩:=hz;exact⟨h1,h2,h3,h4,h5,rfl,h7,h8⟩
   .have Ay:(y0.DV k).Ai=y0.Ai:=rfl;have SN:(y0.DV k).EX=J y0.Ad+2:=by
     rw[Zt (x:=y0.DV k) AcB];grind [qL.DV]
    have hk:(DO k 0).kind=122\/(DO k 0).kind=108\/(DO k 0).kind=40:=by cases k<;>simp[DO,Nd.of]
    rw[Ay,SN,hq,Jd hk];by_cases O2:14<y0.Ai+1
    .rw[Jd (AC),Jd O2];exact rfl
    .rw[In O2];by_cases h3:J y0.Ad=3
     .rw[Jd Y,Jd (by rw[hqo];exact h3)];exact rfl
     .rw[In Y,In (by rw[hqo];exact h3)];have hz:=zx I6 ht k Y;have ho:({DO k 0 with Ah:=(J q.Ad:Int)}:Nd)=DO k (J y0.Ad):=by rw[hqo];cases k<;>rfl
      rw[ho];obtain⟨h1,h2,h3,h4,h5,h6,h7,h8⟩:=hz;exact⟨h1,h2,h3,h4,h5,rfl,h7,h8⟩
theorem tT (h:M6 x r) (w:ByteArray) (l:Ws) (hl:Bv (w::l)=V):VT (x.row (w::l)) (r.row (w::l)):=by
 rw[lr];unfold RS.row;simp only[IE];by_cases h1:bs w=AQ;grind [wG];rw[In h1,In h1];by_cases h2:bs w=AE;grind [Bv,Fy,IE,oN];rw[In h2,In h2];by_cases h3:bs w=EM
 .simp only[h3,↓reduceIte];have AmL:l=[]:=by
   grind [Bv,Fy,IE]
  subst AmL;simp only[ne_eq,not_true_eq_false,J7];have he:=AfT h;cases ho:x.Ad.getLast? with
  |none=>rw[ho] at he;simp only[] at he⊢;rw[he];exact rfl
  |some f=>
   rw[ho] at he;obtain⟨q,e1,e2⟩:=he;simp only[];rw[e1];exact e2
 grind [bG,ZG]
def KW (r q:RS):Prop:=q.Ax=r.Ax/\q.first=r.first/\q.size=r.size/\q.Ad=r.Ad/\q.Ai=r.Ai/\q.p.Aa=r.p.Aa/\q.p.cells=r.p.cells/\
 (∀m:Int,(∀t,t∈r.p.Ap->(J t:Int)=m)->∀t,t∈q.p.Ap->(J t:Int)=m)/\J q.p.Ap=J r.p.Ap
theorem KW.refl (_:r.p.Ap≠[]):KW r r:=⟨rfl,rfl,rfl,rfl,rfl,rfl,rfl,AC,rfl⟩
theorem KW.ne (k:KW r q) (h:r.p.Ap≠[]):q.p.Ap≠[]:=λh'=>h (Jn (by rw[<-k.2.2.2.2.2.2.2.2,h'];rfl))
theorem KW.trans {a b c:RS} (h:KW a b) (k:KW b c):KW a c:=by
 obtain⟨h1,h2,h3,h4,h5,h6,h7,h8,h9⟩:=h;obtain⟨k1,k2,k3,k4,k5,k6,k7,k8,k9⟩:=k;exact⟨AC,AC,AC,AC,AC,AC,AC,λm h=>k8 m (h8 m h),AC⟩
theorem oM (h:r.p.Ap≠[]) (c:Int):KW r (r.GQ c):=by
 refine⟨rfl,rfl,rfl,rfl,rfl,rfl,rfl,λm hm t ht=>?_,by have:=JI.2 h;simp[RS.GQ];omega⟩;obtain⟨ts,t0,h0⟩:∃ts t,r.p.Ap=ts++[t]:=by
  rcases Jw r.p.Ap with h0|⟨ts,t,h0⟩<;>grind
 grind [RS.GQ]
theorem ff (h:r.p.Ap≠[]) (x:Nd) (s:ByteArray) (w:Ws):KW r (r.cell x s w).1:=by
 grind [RS.cell,KW.refl,oM]
theorem dR (h:r.p.Ap≠[]) (x:Nd) (s:ByteArray) {q:RS} {y:Nd} (he:r.MQ x s=.ok (q,y)):KW r q:=by
 unfold RS.MQ at he;split at he
 .cases he
 .split at he;grind [KW.refl]
  .split at he
   .cases he
   .cases he;exact⟨rfl,rfl,rfl,rfl,rfl,rfl,rfl,AC,rfl⟩
theorem lz (r:RS):KW r r.F6:=⟨rfl,rfl,rfl,rfl,rfl,rfl,rfl,λ_ h=>h,rfl⟩
theorem xn (h:r.p.Ap≠[]) (w:Ws) {q:RS} {y:Nd} (he:r.node w=.ok (q,y)):KW r q:=by
 unfold RS.node at he;simp only[] at he;split at he;grind [dR];split at he
 .have hc:=ff h (.of 103) (wd w 2) w;grind [hc.trans,dR,hc.ne]
 split at he
 .have hc:=ff h (.of 112) (wd w 1) w;grind [hc.trans,lz]
 grind [KW.refl]
structure LG (R:RS) (n:Nat):Prop where
 inv:Ps R n
 tl:J R.p.Ap=J R.p.Aa
 fl:J R.first=J R.Ax
 ne:R.Ad≠[]->R.p.Aa≠[]
 lt:∀k,k∈R.Ad->k<J R.CF
 ol:J R.Ad<=3
 s0:0<=R.Ai
 s1:R.Ai<=14
 nl:R.p.Aa≠[]->(J R.CF:Int)+J R.Ad<=2*R.Ai
theorem LG.ue (h:LG R n):WX R:=by
 refine⟨h.ne,h.lt,h.ol,?_⟩;by_cases ht:R.p.Aa=[]<;>grind [RS.CF,LG]
theorem LG.Dq:LG .Dq 0:=by
 refine⟨⟨?_,Y,?_,?_,?_,?_⟩,rfl,rfl,?_,?_,?_,?_,?_,?_⟩<;>simp[RS.Dq]
theorem IW (r:RS) (l:List Nd):(r.BB l).CF=l:=by simp[RS.CF,RS.BB]
theorem Is (h:r.p.Aa≠[]) (l:List Nd):(r.BB l).p.Aa.length=J r.p.Aa:=by
 have:=JI.2 h;simp[RS.BB];omega
theorem TJ (r:RS) (l:List Nd):(r.BB l).p.Aa≠[]:=by simp[RS.BB]
theorem LG.Ec (h:LG R n) (hn:n+1<=2500) {l:Ws} (hl:Bv l=V) (hne:l≠[]) (hk:bs (wd l 0)=AQ) {R':RS} (he:R.Ec l=.ok R'):LG R' (n+1):=by
 unfold RS.Ec at he;have hlen:J l=2\/(J l=3/\GL (bs (wd l 2)) 6=V):=by
  grind [Bv,Fy]
 obtain⟨z,KZ,hz6,hz⟩:∃z:Int,1<=z/\z<=6/\(if 2<J l then (number (bs (wd l 2))).getD 0 else 1)=z:=by
  rcases hlen with h2|⟨h3,h4⟩
  .exact⟨1,Y,Y,by simp[h2]⟩
  .unfold GL at h4;cases hnn:number (bs (wd l 2)) with
   |none=>rw[hnn] at h4;cases h4
   |some v=>
    rw[hnn] at h4;simp only[JB,JD] at h4;exact⟨v,Y,Y,by simp[h3]⟩
 rw[hz] at he;by_cases ht:R.p.Aa=[]
 .rw[In AC] at he;split at he
  .cases he
  .cases he;obtain⟨⟨b1,b2,b3,b4,b5,b6⟩,a1,a2,a3,a4,a5,a6,a7,a8⟩:=h;refine⟨⟨by simp;omega,hn,by simp;omega,by simp;omega,λc hc=>?_,λt hh=>?_⟩,a1,by simp[a2],a3,a4,a5,a6,a7,a8⟩<;>grind
 grind
theorem LG.PD (h:LG R n) (hn:n+1<=2500) {R':RS} (he:R.PD=.ok R'):LG R' (n+1):=by
 unfold RS.PD at he;rcases Jw R.Ad with h0|⟨os,a,h0⟩;grind
 .rw[Jz] at h0;rw[h0] at he;simp only[Qm,Pi,QP,Qa,Except.ok.injEq] at he;have hT:=h.ne (by rw[h0];simp);generalize rU:(if (R.CF.getD a (.of 0)).kind=40 then R.CF++[Nd.of 41] else if (R.CF.getD a (.of 0)).kind=108 then R.CF++[{Nd.of 98 with CN:=a+1,Ah:=(R.CF.getD a (.of 0)).Ah}] else R.CF)=l' at he;have hlen:J R.CF<=J l'/\J l'<=J R.CF+1:=by
   grind
  subst he;obtain⟨⟨b1,b2,b3,b4,b5,b6⟩,a1,a2,a3,a4,a5,a6,a7,a8⟩:=h;have e1:∀q:RS,(q.BB (l'.set a {l'.getD a (.of 0) with CN:=J l'})).CF.length=J l':=λq=>by rw[IW,Jp]
  have e2:({R with Ad:=os}:RS).p.Aa≠[]:=hT;have Wv:J R.Ad=J os+1:=by rw[h0];simp
  have:=a8 hT;refine⟨⟨?_,hn,b3,b4,b5,b6⟩,?_,a2,λ_=>TJ _ _,?_,?_,a6,a7,λ_=>?_⟩
  .rw[Is e2];show J R.Ax+J R.p.Aa<=n+1;omega
  .rw[Is e2];exact a1
  .intro k hk;rw[e1];have:=a4 k (by rw[h0];exact IR _ hk);omega
  .show J os<=3;omega
  .rw[e1];show(J l':Int)+J os<=2*R.Ai;omega
theorem LG.Ahh (h:LG R n) (hn:n+1<=2500) (ho:R.Ad=[]):
  LG {R with p:={R.p with Aa:=R.p.Aa++[[]],Ap:=R.p.Ap++[List.replicate R.p.cells.toNat I],BX:=R.p.BX++[I]},AA:=[],Ai:=0} (n+1):=by
 obtain⟨⟨b1,b2,b3,b4,b5,b6⟩,a1,a2,a3,a4,a5,a6,a7,a8⟩:=h;refine⟨⟨by simp;omega,hn,b3,b4,b5,λt ht=>?_⟩,by simp[a1],a2,λ_=>EQ,λk hk=>?_,a5,EQ,EQ,λ_=>?_⟩<;>grind [RS.CF]
theorem LG.Ajy (h:LG R n) (hn:n+1<=2500) (hT:R.p.Aa≠[]) {q:RS} (k:KW R q) (x:Nd) (O2:¬14<q.Ai+1):
  LG ({q with Ai:=q.Ai+1}.BB (q.CF++[x])) (n+1)/\(¬J q.Ad=3->LG ({q with Ai:=q.Ai+1,Ad:=q.Ad++[J q.CF]}.BB (q.CF++[x])) (n+1)):=by
 obtain⟨⟨b1,b2,b3,b4,b5,b6⟩,a1,a2,a3,a4,a5,a6,a7,a8⟩:=h;obtain⟨k1,k2,k3,k4,k5,k6,k7,k8,k9⟩:=k;have hl:q.CF=R.CF:=by unfold RS.CF;rw[k6]
 have h8:=a8 hT;have hq:q.p.Aa≠[]:=by rw[k6];exact hT
 constructor
 .refine⟨⟨?_,hn,?_,?_,?_,?_⟩,?_,?_,λ_=>TJ _ _,?_,?_,?_,?_,λ_=>?_⟩
  .rw[Is (r:={q with Ai:=q.Ai+1}) hq];show J q.Ax+J q.p.Aa<=n+1;rw[k1,k6];omega
  .show 0<=q.p.cells;rw[k7];exact b3
  .show q.p.cells<=6*J q.Ax;rw[k7,k1];exact b4
  .show∀c,c∈q.first->0<=c/\c<q.p.cells;rw[k2,k7];exact b5
  .show∀t,t∈q.p.Ap->(J t:Int)=q.p.cells;rw[k7];exact k8 _ b6
  .rw[Is (r:={q with Ai:=q.Ai+1}) hq];show J q.p.Ap=J q.p.Aa;rw[k9,k6];exact a1
  .show J q.first=J q.Ax;rw[k2,k1];exact a2
  .intro k hk;rw[IW,hl];have:=a4 k (by rw[<-k4];exact hk);simp;omega
  .show J q.Ad<=3;rw[k4];exact a5
  .show 0<=q.Ai+1;omega
  .show q.Ai+1<=14;omega
  .rw[IW,hl];show((R.CF++[x]).length:Int)+J q.Ad<=2*(q.Ai+1);rw[k4,k5];simp;omega
 .intro h3;rw[k4] at h3;refine⟨⟨?_,hn,?_,?_,?_,?_⟩,?_,?_,λ_=>TJ _ _,?_,?_,?_,?_,λ_=>?_⟩
  .rw[Is (r:={q with Ai:=q.Ai+1,Ad:=q.Ad++[J q.CF]}) hq];show J q.Ax+J q.p.Aa<=n+1;rw[k1,k6];omega
  .show 0<=q.p.cells;rw[k7];exact b3
  .show q.p.cells<=6*J q.Ax;rw[k7,k1];exact b4
  .show∀c,c∈q.first->0<=c/\c<q.p.cells;rw[k2,k7];exact b5
  .show∀t,t∈q.p.Ap->(J t:Int)=q.p.cells;rw[k7];exact k8 _ b6
  .rw[Is (r:={q with Ai:=q.Ai+1,Ad:=q.Ad++[J q.CF]}) hq];show J q.p.Ap=J q.p.Aa;rw[k9,k6];exact a1
  .show J q.first=J q.Ax;rw[k2,k1];exact a2
  .intro k hk;rw[IW,hl];have LS:k∈q.Ad++[J q.CF]:=hk;rw[k4,hl] at LS;grind
  .show(q.Ad++[J q.CF]).length<=3;rw[k4];simp;omega
  .show 0<=q.Ai+1;omega
  .show q.Ai+1<=14;omega
  .rw[IW,hl];show((R.CF++[x]).length:Int)+(q.Ad++[J R.CF]).length<=2*(q.Ai+1);rw[k4,k5];simp;omega
theorem LG.row (h:LG R n) (hn:n+1<=2500) {l:Ws} (hl:Bv l=V) (hne:l≠[]) {R':RS} (he:R.row l=.ok R'):LG R' (n+1):=by
 unfold RS.row at he;simp only[] at he;split at he;grind [h.Ec];split at he;grind [h.Ahh];split at he
 .exact h.PD hn he
 split at he
 .cases he
 rename_i NL;have hT:R.p.Aa≠[]:=AC;have hu:R.p.Ap≠[]:=λh'=>hT (Jn (by rw[<-h.tl,h'];rfl))
 cases hr:R.node l with
 |error c=>rw[hr] at he;cases he
 |ok qx=>
  obtain⟨q,x⟩:=qx;rw[hr] at he;simp only[] at he;have hk:=xn hu l hr;split at he
  .cases he
  .rename_i O2;split at he
   .split at he
    .cases he
    .rename_i h3;grind [(h.Ajy hn hT hk _ O2).2 h3]
   grind [h.Ajy]
def DP (a:At):Prop:=if a.AX=V then 0<=a.v/\a.v<4 else -9223372036854775808<=a.v/\a.v<=9223372036854775807
def WF (cells:Int):Bj->Nat->Bool->Prop
 |.nil,_,_=>True
 |.set v op a b r,d,i=>(0<=v/\v<4)/\(op.size=0\/op∈B7)/\DP a/\DP b/\WF cells r d i
 |.get v f s a r,d,i=>(0<=v/\v<4)/\(0<=f/\1<=s/\f+s<=cells)/\DP a/\i=V/\WF cells r d i
 |.put f s a b r,d,i=>(0<=f/\1<=s/\f+s<=cells)/\DP a/\DP b/\i=V/\WF cells r d i
 |.out a r,d,i=>DP a/\WF cells r d i
 |.atomic b r,d,i=>i=I/\d<3/\WF cells b (d+1) V/\WF cells r d i
 |.Ew a b r,d,i=>DP a/\d<3/\WF cells b (d+1) i/\WF cells r d i
 |.loop n b r,d,i=>(1<=n/\n<=4)/\d<3/\WF cells b (d+1) i/\WF cells r d i
theorem WF.FY {cells:Int} {s:Bj} {d:Nat} {i:Bool} (h:WF cells s d i) (k:WF cells t d i):WF cells (s.FY t) d i:=by
 induction s generalizing d i with
 |nil=>exact k
 |set v op a b r ih=>exact⟨h.1,h.2.1,h.2.2.1,h.2.2.2.1,ih h.2.2.2.2 k⟩
 |get v f s a r ih=>exact⟨h.1,h.2.1,h.2.2.1,h.2.2.2.1,ih h.2.2.2.2 k⟩
 |put f s a b r ih=>exact⟨h.1,h.2.1,h.2.2.1,h.2.2.2.1,ih h.2.2.2.2 k⟩
 |out a r ih=>exact⟨h.1,ih h.2 k⟩
 |atomic b r _ ih=>exact⟨h.1,h.2.1,h.2.2.1,ih h.2.2.2 k⟩
 |Ew a b r _ ih=>exact⟨h.1,h.2.1,h.2.2.1,ih h.2.2.2 k⟩
 |loop n b r _ ih=>exact⟨h.1,h.2.1,h.2.2.1,ih h.2.2.2 k⟩
structure CB (c:Ez):Prop where
 ll:J c.CV=J c.BY
 l1:1<=J c.CV
 l4:J c.CV<=4
 ob:∀x,x∈c.CV->0<=x/\x<=64
 ib:∀x,x∈c.BY->0<=x/\x<=64
def Mz:Ez->List Nd->Prop
 |c,[]=>CB c
 |c,x::r=>CB c/\(x.kind=108->1<=x.n/\x.n<=4)/\Mz (c.step x) r
theorem NC {a b:List Nd} (h:Mz c a) (k:Mz (a.foldl Ez.step c) b):Mz c (a++b):=by
 induction a generalizing c with
 |nil=>exact k
 |cons x r ih=>exact⟨h.1,h.2.1,ih h.2.2 k⟩
theorem P6 {l:List Nd} (h:Mz c l) (i:Nat):CB ((l.take i).foldl Ez.step c):=by
 induction l generalizing c i with
 |nil=>cases i<;>exact h
 |cons x r ih=>
  cases i with
  |zero=>exact h.1
  |succ i=>exact ih h.2.2 i
theorem Abv {l:List Nd} (h:Mz c l) (i:Nat) (hi:i<J l) (hk:l[i].kind=108):1<=l[i].n/\l[i].n<=4:=by
 induction l generalizing c i with
 |nil=>simp at hi
 |cons x r ih=>
  cases i with
  |zero=>exact h.2.1 hk
  |succ i=>exact ih h.2.2 i AC hk
structure CT (c:Ez) (os is_:List Int) (n m:Int):Prop where
 o:c.CV=os++[n]
 i:c.BY=is_++[m]
 l:J os=J is_
 l3:J os<=3
 ob:∀x,x∈os->0<=x/\x<=64
 ib:∀x,x∈is_->0<=x/\x<=64
 n0:0<=n
 n1:n<=4 ^ J os
 m0:0<=m
 m1:m<=4 ^ J os
theorem Ahy {k:Nat} (h:k<=3):(1:Int)<=4 ^ k/\(4:Int) ^ k<=64:=by
 have:k=0\/k=1\/k=2\/k=3:=Y
 rcases this with rfl|rfl|rfl|rfl<;>decide
theorem CT.cb {n:Int} (h:CT c os is_ n m):CB c:=by
 have hp:=(Ahy h.l3).2;have:=h.n1;have:=h.m1;have:=h.n0;have:=h.m0;have:=h.l3;have:=h.l;refine⟨by rw[h.o,h.i];simp[h.l],by rw[h.o];simp,by rw[h.o];simp;omega,λx hx=>?_,λx hx=>?_⟩<;>grind [CT]
theorem CT.push {n:Int} (h:CT c os is_ n m) (h2:J os<=2) {k:Int} (hk:1<=k/\k<=4) (b:Bool) {c':Ez} (ho:c'.CV=c.CV++[n*k]) (hi:c'.BY=c.BY++[if b then m*k else 1]):
  CT c' (os++[n]) (is_++[m]) (n*k) (if b then m*k else 1):=by
 have hp:=(Ahy h.l3);have hn:=h.n1;have hm:=h.m1;have IL:=h.n0;have ZY:=h.m0;have AmB:(4:Int) ^ (os++[n]).length=4 ^ J os*4:=by rw[GT,JP,Int.pow_succ]
 have hmul:∀x:Int,0<=x->x<=4 ^ J os->0<=x*k/\x*k<=4 ^ J os*4:=λx h0 h1=>⟨jU h0 Y,i9 h1 hk.2 Y Y⟩
 refine⟨by rw[ho,h.o],by rw[hi,h.i],by simp[h.l],by simp;omega,?_,?_,(hmul n IL hn).1,by rw[AmB];exact(hmul n IL hn).2,?_,?_⟩<;>grind [CT]
theorem CT.same {n:Int} (h:CT c os is_ n m) {c':Ez} (ho:c'.CV=c.CV) (hi:c'.BY=c.BY):CT c' os is_ n m:=
 ⟨ho.trans h.o,hi.trans h.i,h.l,h.l3,h.ob,h.ib,h.n0,h.n1,h.m0,h.m1⟩
theorem CT.Pu {n:Int} (h:CT c os is_ n m) {c':Ez} (ho:c'.CV=c.CV) (hi:c'.BY=c.BY.dropLast++[1]):CT c' os is_ n 1:=by
 grind [Ahy,CT]
theorem LL {c:Ez} {x:Nd} (h:x.kind≠108/\x.kind≠98/\x.kind≠40):(c.step x).CV=c.CV/\(c.step x).BY=c.BY:=by
 grind [Ez.step]
theorem wZ (cells:Int) (t:Bj):∀(d p:Nat) (c:Ez) (BY:Bool) (os is_:List Int) (n m:Int),WF cells t d BY->CT c os is_ n m->J os<=d->d<=3->
  Mz c (Ca t d p)/\∃m',CT ((Ca t d p).foldl Ez.step c) os is_ n m':=by
 induction t with
 |nil=>intro d p c BY os is_ n m _ h _ _;exact⟨h.cb,m,h⟩
 |set v op a b r ih=>
  intro d p c BY os is_ n m hw h hd h3;have hs:= @LL c {Nd.of 115 with v:=v,op:=op,a:=a,b:=b} ⟨by simp[Nd.of],by simp[Nd.of],by simp[Nd.of]⟩;exact maL
 |get v f s a r ih=>
  intro d p c BY os is_ n m hw h hd h3;have hs:= @LL c {Nd.of 103 with v:=v,first:=f,size:=s,AN:=a} ⟨by simp[Nd.of],by simp[Nd.of],by simp[Nd.of]⟩;exact maL
 |put f s i a r ih=>
  intro d p c BY os is_ n m hw h hd h3;have hs:= @LL c {Nd.of 112 with a:=a,first:=f,size:=s,AN:=i} ⟨by simp[Nd.of],by simp[Nd.of],by simp[Nd.of]⟩;exact maL
 |out a r ih=>
  intro d p c BY os is_ n m hw h hd h3;have hs:= @LL c {Nd.of 111 with a:=a} ⟨by simp[Nd.of],by simp[Nd.of],by simp[Nd.of]⟩;obtain⟨i1,i2⟩:=ih d (p+1) _ BY os is_ n m hw.2 (h.same hs.1 hs.2) hd h3;exact⟨⟨h.cb,by simp[Nd.of],i1⟩,i2⟩
 |Ew a b r ihb ihr=>
  intro d p c BY os is_ n m hw h hd h3;have hs:= @LL c {Nd.of 122 with a:=a,Ah:=d,CN:=(p+1+Dh b:Nat)} ⟨by simp[Nd.of],by simp[Nd.of],by simp[Nd.of]⟩;obtain⟨i1,m',i2⟩:=ihb (d+1) (p+1) _ BY os is_ n m hw.2.2.1 (h.same hs.1 hs.2) Y (by have:=hw.2.1;omega);obtain⟨j1,j2⟩:=ihr d (p+1+Dh b) _ BY os is_ n m' hw.2.2.2 i2 hd h3;refine⟨⟨h.cb,by simp[Nd.of],NC i1 j1⟩,?_⟩<;>grind [Ca]
 |atomic b r ihb ihr=>
  intro d p c BY os is_ n m hw h hd h3;have h1:CT (c.step {Nd.of 40 with Ah:=d,CN:=(p+1+Dh b+1:Nat)}) os is_ n 1:=h.Pu (by simp[Ez.step,Nd.of]) (by simp[Ez.step,Nd.of]);obtain⟨i1,m',i2⟩:=ihb (d+1) (p+1) _ V os is_ n 1 hw.2.2.1 h1 Y (by have:=hw.2.1;omega);have hs:= @LL ((Ca b (d+1) (p+1)).foldl Ez.step (c.step {Nd.of 40 with Ah:=d,CN:=(p+1+Dh b+1:Nat)})) (.of 41) ⟨by simp[Nd.of],by simp[Nd.of],by simp[Nd.of]⟩;obtain⟨j1,j2⟩:=ihr d (p+1+Dh b+1) _ BY os is_ n m' hw.2.2.2 (i2.same hs.1 hs.2) hd h3;refine⟨⟨h.cb,by simp[Nd.of],NC i1 ⟨i2.cb,by simp[Nd.of],j1⟩⟩,?_⟩<;>grind [Ca]
 |loop k b r ihb ihr=>
  intro d p c BY os is_ n m hw h hd h3;have FR:(c.CV.getLast?).getD 0=n:=by rw[h.o];simp
  have rS:(c.BY.getLast?).getD 0=m:=by rw[h.i];simp
  have h1:CT (c.step {Nd.of 108 with n:=k,Ah:=d,CN:=(p+1+Dh b+1:Nat)}) (os++[n]) (is_++[m]) (n*k) (if c.Fh then m*k else 1):=
   h.push (by have:=hw.2.1;omega) hw.1 c.Fh (by grind [Ez.step,Nd.of]) (by grind [Ez.step,Nd.of])
  obtain⟨i1,m',i2⟩:=ihb (d+1) (p+1) _ BY _ _ _ _ hw.2.2.1 h1 (by simp;omega) (by have:=hw.2.1;omega);have h2:CT (((Ca b (d+1) (p+1)).foldl Ez.step (c.step {Nd.of 108 with n:=k,Ah:=d,CN:=(p+1+Dh b+1:Nat)})).step {Nd.of 98 with CN:=(p+1:Nat),Ah:=d}) os is_ n m:=by
   grind [Ez.step,Nd.of,CT]
  obtain⟨j1,j2⟩:=ihr d (p+1+Dh b+1) _ BY os is_ n m hw.2.2.2 h2 hd h3;refine⟨⟨h.cb,λ_=>hw.1,NC i1 ⟨i2.cb,by simp[Nd.of],j1⟩⟩,?_⟩<;>grind [Ca]
theorem AiW (cells:Int) (t:Bj):∀(d p:Nat) (c:Ez) (os is_:List Int) (n m:Int),WF cells t d V->CT c os is_ n m->J os<=d->d<=3->c.Fh=V->c.Al<=c.Cd->
  ∃o,As t m=U (0,o)/\0<=o/\(Ca t d p).foldl Ez.step c={c with Al:=c.Al+o,Cd:=max c.Cd (c.Al+o)}:=by
 induction t with
 |nil=>intro d p c os is_ n m _ h _ _ hi hm;exact⟨0,rfl,Y,by simp only[Ca,List.foldl_nil];rw[show max c.Cd (c.Al+0)=c.Cd by omega,Int.add_zero]⟩
 |set v op a b r ih=>
  exact maF
 |get v f s a r ih=>
  exact maF
 |put f s i a r ih=>
  exact maF
 |out a r ih=>
  intro d p c os is_ n m hw h hd h3 hi hm;have rS:(c.BY.getLast?).getD 0=m:=by rw[h.i];simp
  have e:c.step {Nd.of 111 with a:=a}={c with Al:=c.Al+m,Cd:=max c.Cd (c.Al+m)}:=by
   unfold Ez.step;simp[Nd.of,hi,rS];split<;>omega
  have ZY:=h.m0;obtain⟨o,i1,i2,i3⟩:=ih d (p+1) {c with Al:=c.Al+m,Cd:=max c.Cd (c.Al+m)} os is_ n m hw.2 (h.same rfl rfl) hd h3 hi (by simp;omega);refine⟨m+o,by simp[As,i1],Y,?_⟩;simp only[Ca,QG];rw[e,i3];exact mbu
 |Ew a b r ihb ihr=>
  intro d p c os is_ n m hw h hd h3 hi hm;obtain⟨o,i1,i2,i3⟩:=ihb (d+1) (p+1) c os is_ n m hw.2.2.1 h Y (by have:=hw.2.1;omega) hi hm;obtain⟨o',j1,j2,j3⟩:=ihr d (p+1+Dh b) {c with Al:=c.Al+o,Cd:=max c.Cd (c.Al+o)} os is_ n m hw.2.2.2 (h.same rfl rfl) hd h3 hi (by simp;omega);refine⟨o+o',by simp[As,i1,j1],Y,?_⟩;simp only[Ca,QG,QE];rw[show c.step {Nd.of 122 with a:=a,Ah:=d,CN:=(p+1+Dh b:Nat)}=c by simp[Ez.step,Nd.of],i3,j3];exact mbu
 |atomic b r ihb ihr=>intro d p c os is_ n m hw;exact Jk hw.1 Do
 |loop k b r ihb ihr=>
  intro d p c os is_ n m hw h hd h3 hi hm;have FR:(c.CV.getLast?).getD 0=n:=by rw[h.o];simp
  have rS:(c.BY.getLast?).getD 0=m:=by rw[h.i];simp
  have h1:CT (c.step {Nd.of 108 with n:=k,Ah:=d,CN:=(p+1+Dh b+1:Nat)}) (os++[n]) (is_++[m]) (n*k) (m*k):=by
   have:=h.push (by have:=hw.2.1;omega) hw.1 V (c':=c.step {Nd.of 108 with n:=k,Ah:=d,CN:=(p+1+Dh b+1:Nat)}) (by grind [Ez.step,Nd.of]) (by grind [Ez.step,Nd.of]);grind
  have e1:c.step {Nd.of 108 with n:=k,Ah:=d,CN:=(p+1+Dh b+1:Nat)}={c with CV:=c.CV++[n*k],BY:=c.BY++[m*k]}:=by grind [Ez.step,CT]
  rw[e1] at h1;obtain⟨o,i1,i2,i3⟩:=ihb (d+1) (p+1) _ _ _ _ _ hw.2.2.1 h1 (by simp;omega) (by have:=hw.2.1;omega) hi hm;obtain⟨o',j1,j2,j3⟩:=ihr d (p+1+Dh b+1) {c with Al:=c.Al+o,Cd:=max c.Cd (c.Al+o)} os is_ n m hw.2.2.2 (h.same rfl rfl) hd h3 hi (by simp;omega);refine⟨o+o',by simp[As,i1,j1],Y,?_⟩;simp only[Ca,QG,QE];rw[e1,i3];rw[show Ez.step {blocks:=c.blocks,Al:=c.Al+o,Cd:=max c.Cd (c.Al+o),CV:=c.CV++[n*k],BY:=c.BY++[m*k],Fh:=c.Fh} {Nd.of 98 with CN:=(p+1:Nat),Ah:=d}={c with Al:=c.Al+o,Cd:=max c.Cd (c.Al+o)} by simp[Ez.step,Nd.of],j3];exact mbu
theorem Af4 (cells:Int) (t:Bj):∀(d p:Nat) (c:Ez) (os is_:List Int) (n:Int),WF cells t d I->CT c os is_ n 1->J os<=d->d<=3->c.Fh=I->0<=c.Cd->
  ∃B O M,(Ca t d p).foldl Ez.step c={c with blocks:=B,Al:=O,Cd:=M}/\0<=M/\(M<=8<->c.Cd<=8/\(As t n).isSome=V)/\∀b o,As t n=U (b,o)->B=c.blocks+b:=by
 induction t with
 |nil=>intro d p c os is_ n _ h _ _ hi hm;exact⟨c.blocks,c.Al,c.Cd,rfl,hm,by simp[As],by simp[As]⟩
 |set v op a b r ih=>
  intro d p c os is_ n hw h hd h3 hi hm;obtain⟨B,O,M,i1,i2⟩:=ih d (p+1) c os is_ n hw.2.2.2.2 h hd h3 hi hm;refine⟨B,O,M,?_,i2⟩<;>grind [Ca,Nd.of,Ez.step]
 |get v f s a r ih=>intro d p c os is_ n hw;exact Jk hw.2.2.2.1 Do
 |put f s i a r ih=>intro d p c os is_ n hw;exact Jk hw.2.2.2.1 Do
 |out a r ih=>
  intro d p c os is_ n hw h hd h3 hi hm;obtain⟨B,O,M,i1,i2,i3,i4⟩:=ih d (p+1) c os is_ n hw.2 h hd h3 hi hm<;>grind [Ca,Nd.of,Ez.step,As]
 |Ew a b r ihb ihr=>
  intro d p c os is_ n hw h hd h3 hi hm;obtain⟨B,O,M,i1,i2,i3,i4⟩:=ihb (d+1) (p+1) c os is_ n hw.2.2.1 h Y (by have:=hw.2.1;omega) hi hm;obtain⟨B',O',M',j1,j2,j3,j4⟩:=ihr d (p+1+Dh b) {c with blocks:=B,Al:=O,Cd:=M} os is_ n hw.2.2.2 (h.same rfl rfl) hd h3 hi i2;refine⟨B',O',M',?_,j2,?_,?_⟩
  .simp only[Ca,QG,QE];rw[show c.step {Nd.of 122 with a:=a,Ah:=d,CN:=(p+1+Dh b:Nat)}=c by simp[Ez.step,Nd.of],i1,j1]
  grind [As];grind [As]
 |atomic b r ihb ihr=>
  intro d p c os is_ n hw h hd h3 hi hm;have FR:(c.CV.getLast?).getD 0=n:=by rw[h.o];simp
  have e1:c.step {Nd.of 40 with Ah:=d,CN:=(p+1+Dh b+1:Nat)}={c with blocks:=c.blocks+n,Al:=0,Fh:=V}:=by
   grind [Ez.step,Nd.of,CT]
  obtain⟨o,a1,a2,a3⟩:=AiW cells b (d+1) (p+1) {c with blocks:=c.blocks+n,Al:=0,Fh:=V} os is_ n 1 hw.2.2.1 (h.same rfl rfl) Y (by have:=hw.2.1;omega) rfl hm;obtain⟨B',O',M',j1,j2,j3,j4⟩:=ihr d (p+1+Dh b+1) {c with blocks:=c.blocks+n,Al:=0+o,Cd:=max c.Cd (0+o)} os is_ n hw.2.2.2 (h.same rfl rfl) hd h3 hi (by simp;omega);refine⟨B',O',M',?_,j2,?_,?_⟩
  .simp only[Ca,QG,QE];rw[e1,a3];rw[show Ez.step {blocks:=c.blocks+n,Al:=0+o,Cd:=max c.Cd (0+o),CV:=c.CV,BY:=c.BY,Fh:=V} (Nd.of 41)={c with blocks:=c.blocks+n,Al:=0+o,Cd:=max c.Cd (0+o)} by simp[Ez.step,Nd.of,hi],j1]
  grind [As];grind [As]
 |loop k b r ihb ihr=>
  intro d p c os is_ n hw h hd h3 hi hm;have FR:(c.CV.getLast?).getD 0=n:=by rw[h.o];simp
  have h1:CT (c.step {Nd.of 108 with n:=k,Ah:=d,CN:=(p+1+Dh b+1:Nat)}) (os++[n]) (is_++[1]) (n*k) 1:=by
   have:=h.push (by have:=hw.2.1;omega) hw.1 I (c':=c.step {Nd.of 108 with n:=k,Ah:=d,CN:=(p+1+Dh b+1:Nat)}) (by grind [Ez.step,Nd.of]) (by simp[Ez.step,Nd.of,hi]);grind
  have e1:c.step {Nd.of 108 with n:=k,Ah:=d,CN:=(p+1+Dh b+1:Nat)}={c with CV:=c.CV++[n*k],BY:=c.BY++[1]}:=by grind [Ez.step,CT]
  rw[e1] at h1;obtain⟨B,O,M,i1,i2,i3,i4⟩:=ihb (d+1) (p+1) _ _ _ _ hw.2.2.1 h1 (by simp;omega) (by have:=hw.2.1;omega) hi hm;obtain⟨B',O',M',j1,j2,j3,j4⟩:=ihr d (p+1+Dh b+1) {c with blocks:=B,Al:=O,Cd:=M} os is_ n hw.2.2.2 (h.same rfl rfl) hd h3 hi i2;refine⟨B',O',M',?_,j2,?_,?_⟩
  .simp only[Ca,QG,QE];rw[e1,i1];rw[show Ez.step {blocks:=B,Al:=O,Cd:=M,CV:=c.CV++[n*k],BY:=c.BY++[1],Fh:=c.Fh} {Nd.of 98 with CN:=(p+1:Nat),Ah:=d}={c with blocks:=B,Al:=O,Cd:=M} by simp[Ez.step,Nd.of],j1]
  .rw[j3];show M<=8/\_<->_;rw[i3];simp only[As];grind
  .intro x o hb;simp only[As] at hb;grind
theorem CT.Dq:CT .Dq [] [] 1 1:=⟨rfl,rfl,rfl,EQ,EQ,EQ,Y,EQ,Y,EQ⟩
theorem sC {cells:Int} (h:WF cells t 0 I):(decide (3<(Ik (Ca t 0 0)).1) || decide (8<(Ik (Ca t 0 0)).2))= !(match As t 1 with|none=>I|some (b,_)=>decide (b<=3)):=by
 obtain⟨B,O,M,h1,h2,h3,h4⟩:=Af4 cells t 0 0 .Dq [] [] 1 h .Dq EQ Y rfl (by simp[Ez.Dq])<;>grind [Ez.Dq,Ik]
theorem AeK {cells:Int} (h:WF cells t 0 I):Mz .Dq (Ca t 0 0):=(wZ cells t 0 0 .Dq I [] [] 1 1 h .Dq EQ Y).1
def ZR (v:Int):Prop:= -9223372036854775808<=v/\v<=9223372036854775807
theorem fL (n:Int):ZR (wrap64 n):=by grind [ZR,wrap64]
theorem bM (b:Bool) (l:By) (v x:Int) (hv:ZR v) (h:ED b l v=U x):ZR x:=by
 induction l generalizing v<;>grind [ED,fL]
theorem gD {l:By} (h:number l=U v):ZR v:=by
 rw[Sh l (l.headD 0==45) (if (l.headD 0==45)=V then l.tail else l) (if (l.headD 0==45)=V then Lm else Ll) rfl rfl rfl] at h;generalize (if (l.headD 0==45)=V then l.tail else l)=T at h;generalize (if (l.headD 0==45)=V then Lm else Ll)=M at h;generalize (l.headD 0==45)=B at h;by_cases hb:Gc B T M=V;grind
 .rw[In hb] at h;exact bM _ _ _ _ (by unfold ZR;omega) h
def PH (w:Wd):Prop:=ZR w.v
theorem vT (a:ByteArray):PH (DI a):=by
 unfold DI;split
 .simp[PH,ZR]
 .unfold PH;cases h:number (bs a)<;>grind [ZR,gD]
theorem L3 {w:Wd} {r:Ws} (h:EV l=U (w,r)):PH w:=by
 cases l with
 |nil=>cases h
 |cons a q=>
  rw[Cu] at h;grind [vT]
theorem PH.zero:PH .zero:=by simp[PH,ZR,Wd.zero]
theorem AdR {w:Wd} {r:Ws} (h:atF l=U (w,r)):PH w:=by
 cases l with
 |nil=>cases h;exact .zero
 |cons a q=>
  rw[FD] at h;split at h
  .exact L3 h
  .cases h;exact .zero
theorem gw (l:List ByteArray) (x:ByteArray) (k:Nat):Ee l x k= -1\/(k<=Ee l x k/\Ee l x k<k+J l):=by
 induction l generalizing k<;>grind [Ee]
theorem P5 (l:List ByteArray) (x:ByteArray):Bg l x<J l:=by
 grind [gw,Bg]
theorem AbB {op:ByteArray} (h:xh a=U op):op∈B7:=by
 unfold xh at h;split at h
 .rename_i h0;cases h;have hb:=P5 Dc a;have e:J Dc=12:=rfl;have:(Bg Dc a).toNat<J B7:=by
   have:J B7=12:=rfl;omega
  grind [wd]
 .cases h
def Ag1:VP->Prop
 |.set _ a op b=>PH a/\(op.size=0\/op∈B7)/\PH b
 |.get _ _ a=>PH a
 |.put _ a i=>PH a/\PH i
 |.out a=>PH a
 |.atomic=>True
 |.Ew a=>PH a
 |.loop n=>1<=n/\n<=4
theorem Fm {α:Type} {x y:α} (h:GP x l=U y):x=y:=by
 cases l with
 |nil=>cases h;rfl
 |cons a r=>cases h
theorem AeJ {w:ByteArray} {r:Ws} {s:VP} (h:IP w r=U s):Ag1 s:=by
 unfold IP at h;split at h
 .unfold Kk at h;split at h
  .cases h
  .split at h
   .cases h
   .rename_i hw;cases h;exact⟨L3 hw,.inl rfl,.zero⟩
   .rename_i hw;split at h
    .cases h
    .rename_i ho;split at h
     .cases h
     .rename_i No;have:=Fm h;subst this;exact⟨L3 hw,.inr (AbB ho),L3 No⟩
 split at h
 .unfold Md at h;split at h
  .cases h
  .split at h
   .cases h
   .split at h
    .cases h
    .rename_i ha;have:=Fm h;subst this;exact AdR ha
 split at h
 .unfold Mb at h;split at h
  .cases h
  .split at h
   .cases h
   .rename_i hw;split at h
    .cases h
    .rename_i ha;have:=Fm h;subst this;exact⟨L3 hw,AdR ha⟩
 split at h
 .exact mbQ
 split at h
 .have:=Fm h;subst this;trivial
 split at h
 .exact mbQ
 split at h
 .unfold Lv at h;split at h
  .cases h
  .rename_i hu;have:=Fm h;subst this;unfold Iq at hu;split at hu
   .cases hu
   .split at hu
    .rename_i hc;cases hu;exact⟨hc.2.1,hc.2.2⟩
    .cases hu
 .cases h
def KY.ok (k:KY) (i:Bool):Prop:=match k with
 |.atomic=>i=I
 |.Ew a=>DP a
 |.loop n=>1<=n/\n<=4
def WFO (cells:Int):List Fr->Nat->Bool->Prop
 |[],_,_=>True
 |f::fs,d,i=>f.kind.ok i/\d<3/\WF cells f.body (d+1) (i || f.kind.Cm)/\WFO cells fs (d+1) (i || f.kind.Cm)
theorem Yw (cells:Int) (fs gs:List Fr) (d:Nat) (i:Bool):WFO cells (fs++gs) d i<->WFO cells fs d i/\WFO cells gs (d+J fs) (i || fs.any λf=>f.kind.Cm):=by
 induction fs generalizing d i<;>grind [WFO,List.length_cons,Bool.or_assoc]
structure FW (x:qL):Prop where
 c0:0<=x.cells
 sh:∀s,s∈x.Ax->0<=s.first/\1<=s.size/\s.first+s.size<=x.cells
 ll:J x.AA<=4
 th:∀t,t∈x.Aa->WF x.cells t 0 I
 wo:WFO x.cells x.Ad 0 I
 te:x.Aa=[]->x.Ad=[]
def IN:Bj->Int
 |.nil=>0
 |.set _ _ _ _ r=>1+IN r
 |.get _ _ _ _ r=>1+IN r
 |.put _ _ _ _ r=>1+IN r
 |.out _ r=>1+IN r
 |.atomic b r=>1+IN b+IN r
 |.Ew _ b r=>1+IN b+IN r
 |.loop _ b r=>1+IN b+IN r
theorem fY (s t:Bj):IN (s.FY t)=IN s+IN t:=by
 induction s<;>simp_all[Bj.FY,IN]<;>omega
def MN:List Fr->Int
 |[]=>0
 |f::fs=>1+IN f.body+MN fs
theorem YV (a b:List Fr):MN (a++b)=MN a+MN b:=by
 induction a<;>grind [MN]
theorem TE (s:Bj):0<=IN s:=by induction s<;>simp_all[IN]<;>omega
theorem fZ (l:List Fr):0<=MN l:=by
 induction l with
 |nil=>simp[MN]
 |cons f fs ih=>have:=TE f.body;grind [MN]
structure FN (x:qL):Prop where
 s0:0<=x.Ai
 s1:x.Ai<=14
 all:∀t,t∈x.Aa->IN t<=14
 tot:∀ts t,x.Aa=ts++[t]->IN t+MN x.Ad<=x.Ai
theorem FW.Dq:FW .Dq:=by
 refine⟨?_,?_,?_,?_,?_,?_⟩<;>simp[qL.Dq,WFO]
theorem FN.Dq:FN .Dq:=by
 refine⟨?_,?_,?_,?_⟩<;>simp[qL.Dq]
theorem fz (ht:x.Aa=ts++[t]) (s:Bj->Bj):
  (x.Ad=[]/\x.add s={x with Aa:=ts++[t.FY (s .nil)]})\/∃fs f,x.Ad=fs++[f]/\x.add s={x with Ad:=fs++[{f with body:=f.body.FY (s .nil)}]}:=by
 grind [List.eq_nil_or_concat x.Ad,qL.add]
theorem Yn {α:Type} {l:List α} (h:l≠[]):∃a b,l=a++[b]:=by
 grind [List.eq_nil_or_concat l]
theorem FW.add (h:FW x) (ht:x.Aa≠[]) (s:Bj->Bj) (hs:WF x.cells (s .nil) (J x.Ad) x.BC):FW (x.add s):=by
 obtain⟨ts,t,ht⟩:=Yn ht;obtain⟨c0,sh,ll,th,wo,te⟩:=h;rcases fz ht s with⟨h0,e⟩|⟨fs,f,h0,e⟩
 .rw[e];unfold qL.BC at hs;rw[h0] at hs;refine⟨c0,sh,ll,λu hu=>?_,wo,λhh=>by simp at hh⟩<;>grind [WF.FY]
 .rw[e];unfold qL.BC at hs;rw[h0] at hs wo;rw[Yw] at wo;refine⟨c0,sh,ll,th,?_,λhh=>by rw[ht] at hh;simp at hh⟩<;>grind [WFO,Yw,WF.FY]
theorem FN.add (ht:x.Aa=ts++[t]) (Da:∀t,t∈ts->IN t<=14) (s:Bj->Bj) (n:Int) (h0:0<=n) (O2:n<=14)
  (gO:IN t+MN x.Ad+IN (s .nil)<=n):FN {x.add s with Ai:=n}:=by
 have hnn:=fZ x.Ad;rcases fz ht s with⟨ho,e⟩|⟨fs,f,ho,e⟩
 .rw[e];rw[ho] at gO;refine⟨h0,O2,λu hu=>?_,λus u hu=>?_⟩
  .simp only[Jq,GE] at hu;grind [fY]
  .have mu:ts++[t.FY (s .nil)]=us++[u]:=hu;grind [List.append_inj' mu rfl,fY]
 .rw[e];refine⟨h0,O2,λu hu=>?_,λus u hu=>?_⟩;grind [TE (s .nil)]
  .have mu:x.Aa=us++[u]:=hu;rw[ht] at mu;obtain⟨rfl,Ami⟩:=QN mu rfl;cases Ami;show IN t+MN (fs++[_])<=n;rw[ho] at gO;rw[YV] at gO⊢;grind [MN,fY]
theorem FW.DV (h:FW x) (ht:x.Aa≠[]) (k:KY) (hk:k.ok x.BC) (h3:J x.Ad<3):FW (x.DV k):=by
 obtain⟨c0,sh,ll,th,wo,te⟩:=h;refine⟨c0,sh,ll,th,?_,λhh=>Jk hh ht⟩;show WFO x.cells (x.Ad++[⟨k,.nil⟩]) 0 I;rw[Yw];refine⟨wo,?_,Y,trivial,trivial⟩<;>grind [qL.BC]
theorem Sz (h:J x.AA<=4) {w:Wd} (hw:PH w) {a:At} (he:x.CC w=.ok a):DP a:=by
 grind [qL.CC,DP,PH,ZR,P5 x.AA w.name]
theorem lX (h:FW x) {n:ByteArray} {v:Int} {y:qL} (he:x.Df n=.ok (v,y)):FW y/\(0<=v/\v<4)/\y.Aa=x.Aa/\y.Ad=x.Ad/\y.Ai=x.Ai/\y.cells=x.cells:=by
 unfold qL.Df at he;split at he
 .cases he
 .split at he;grind [P5 x.AA n,FW]
  .split at he
   .cases he
   .cases he<;>grind [FW]
theorem u5 (h:FW x) {n:ByteArray} {w:Wd} (hw:PH w) {f z:Int} {a:At} (he:x.cell n w=.ok (f,z,a)):(0<=f/\1<=z/\f+z<=x.cells)/\DP a:=by
 unfold qL.cell at he;cases hf:x.WE n with
 |none=>rw[hf] at he;cases he
 |some s=>
  rw[hf] at he;grind [List.mem_of_find?_eq_some hf,Sz,FW]
theorem ia (h:FW x) (ht:x.Aa≠[]) {s:VP} (hs:Ag1 s) (hb:s.Cm=V->x.BC=V) (ha:s=.atomic->x.BC=I) (he:x.finish s=.ok y):
  ∃x',FW x'/\x'.Aa=x.Aa/\x'.Ad=x.Ad/\x'.Ai=x.Ai/\x'.cells=x.cells/\
   ((∃f,y=x'.add f/\WF x.cells (f .nil) (J x.Ad) x.BC/\IN (f .nil)=1)\/∃k,y=x'.DV k/\k.ok x.BC):=by
 cases s with
 |set n a op b=>
  unfold qL.finish at he;simp only[] at he;cases h1:x.CC a with
  |error c=>rw[h1] at he;cases he
  |ok a'=>
   rw[h1] at he;simp only[] at he;cases h2:x.CC b with
   |error c=>rw[h2] at he;cases he
   |ok b'=>
    rw[h2] at he;simp only[] at he;cases h3:x.Df n with
    |error c=>rw[h3] at he;cases he
    |ok q=>
     obtain⟨v,x'⟩:=q;rw[h3] at he;cases he;obtain⟨k1,k2,k3,k4,k5,k6⟩:=lX h h3;exact⟨x',k1,k3,k4,k5,k6,.inl ⟨_,rfl,⟨k2,hs.2.1,Sz h.ll hs.1 h1,Sz h.ll hs.2.2 h2,trivial⟩,by simp[IN]⟩⟩
 |get n s AN=>
  unfold qL.finish at he;simp only[] at he;cases h1:x.cell s AN with
  |error c=>rw[h1] at he;cases he
  |ok q=>
   obtain⟨f,z,a⟩:=q;rw[h1] at he;simp only[] at he;cases h3:x.Df n with
   |error c=>rw[h3] at he;cases he
   |ok q=>
    obtain⟨v,x'⟩:=q;rw[h3] at he;cases he;obtain⟨k1,k2,k3,k4,k5,k6⟩:=lX h h3;obtain⟨c1,c2⟩:=u5 h hs h1;exact⟨x',k1,k3,k4,k5,k6,.inl ⟨_,rfl,⟨k2,c1,c2,hb rfl,trivial⟩,by simp[IN]⟩⟩
 |put s a AN=>
  unfold qL.finish at he;simp only[] at he;cases h1:x.cell s AN with
  |error c=>rw[h1] at he;cases he
  |ok q=>
   obtain⟨f,z,i⟩:=q;rw[h1] at he;simp only[] at he;cases h2:x.CC a with
   |error c=>rw[h2] at he;cases he
   |ok a'=>
    rw[h2] at he;cases he;obtain⟨c1,c2⟩:=u5 h hs.2 h1;exact⟨x,h,rfl,rfl,rfl,rfl,.inl ⟨_,rfl,⟨c1,c2,Sz h.ll hs.1 h2,hb rfl,trivial⟩,by simp[IN]⟩⟩
 |out a=>
  unfold qL.finish at he;simp only[] at he;cases h1:x.CC a with
  |error c=>rw[h1] at he;cases he
  |ok a'=>
   rw[h1] at he;cases he;exact⟨x,h,rfl,rfl,rfl,rfl,.inl ⟨_,rfl,⟨Sz h.ll hs h1,trivial⟩,by simp[IN]⟩⟩
 |atomic=>
  unfold qL.finish at he;cases he;exact⟨x,h,rfl,rfl,rfl,rfl,.inr ⟨_,rfl,ha rfl⟩⟩
 |Ew a=>
  unfold qL.finish at he;simp only[] at he;cases h1:x.CC a with
  |error c=>rw[h1] at he;cases he
  |ok a'=>
   rw[h1] at he;cases he;exact⟨x,h,rfl,rfl,rfl,rfl,.inr ⟨_,rfl,Sz h.ll hs h1⟩⟩
 |loop n=>
  unfold qL.finish at he;cases he;exact⟨x,h,rfl,rfl,rfl,rfl,.inr ⟨_,rfl,hs⟩⟩
theorem ly {w:ByteArray} {r:Ws} (h:IP w r=U .atomic):bs w=A8:=by
 unfold IP at h;split at h
 .unfold Kk at h;split at h<;>grind [Fm]
 grind [Md,Fm,Mb,Fq,Lv]
theorem FW.kX (h:FW x) (n:Int):FW {x with Ai:=n}:=⟨h.c0,h.sh,h.ll,h.th,h.wo,h.te⟩
theorem fW (h:FW x) (k:FN x) {w:ByteArray} {r:Ws} (he:x.Bf w r=.ok y):FW y/\FN y:=by
 unfold qL.Bf at he;cases hr:IP w r with
 |none=>rw[hr] at he;cases he
 |some s=>
  rw[hr] at he;simp only[] at he;split at he
  .cases he
  .rename_i NL;cases hf:x.finish s with
   |error c=>rw[hf] at he;cases he
   |ok z=>
    rw[hf] at he;simp only[] at he;split at he
    .cases he
    .rename_i Em;cases he;have ht:x.Aa≠[]:=AC;have hb:s.Cm=V->x.BC=V:=AC;have ha:s=.atomic->x.BC=I:=λh1=>by
      grind [ly]
     obtain⟨x',g1,g2,g3,g4,g5,mM⟩:=ia h ht (AeJ hr) hb ha hf;have IJ:x'.Aa≠[]:=by rw[g2];exact ht
     obtain⟨ts,t,htt⟩:=Yn IJ;have Akf:x.Aa=ts++[t]:=by rw[<-g2];exact htt
     have LU:x'.BC=x.BC:=by unfold qL.BC;rw[g3]
     have gO:=k.tot ts t Akf;have Tj:=k.s0;rcases mM with⟨f,rfl,c1,c2⟩|⟨q,rfl,c1⟩
     .have Ay:(x'.add f).Ai=x.Ai:=by rw[WV IJ,g4]
      rw[Ay] at Em⊢;have hl:x.Ai+1<=14:=by
       grind
      refine⟨(g1.add IJ f (by rw[g5,g3,LU];exact c1)).kX _,FN.add htt (λu hu=>k.all u (by rw[Akf];simp[hu])) f _ Y hl ?_⟩<;>grind
     .have Ay:(x'.DV q).Ai=x.Ai:=g4;have SN:(x'.DV q).EX=J x.Ad+2:=by
       rw[Zt (x:=x'.DV q) IJ];grind [qL.DV]
      rw[Ay,SN] at Em;rw[Ay];have hl:x.Ai+1<=14/\J x.Ad<3:=by
       grind
      refine⟨(g1.DV IJ q (by rw[LU];exact c1) (by rw[g3];exact hl.2)).kX _,⟨AC,hl.1,λu hu=>k.all u (by rw[<-g2];exact hu),λus u hu=>?_⟩⟩;have mu:x'.Aa=us++[u]:=hu;rw[g2] at mu;have:=k.tot us u mu;show IN u+MN (x'.Ad++[⟨q,.nil⟩])<=x.Ai+1;rw[YV,g3];grind [MN,IN]
theorem pr {r:Ws} {z:Int} {q:Ws} (h:(match r with|[]=>U ((1:Int),([]:Ws))|a::r=>Iq 6 (a::r))=U (z,q)):1<=z:=by
 grind [Iq]
theorem qL.pG (h:FW x) (k:FN x) {l:Ws} (he:x.row l=.ok y):FW y/\FN y:=by
 cases l with
 |nil=>cases he
 |cons w r=>
  unfold qL.row at he;simp only[] at he;split at he
  .unfold qL.Ec at he;split at he
   .cases he
   .split at he
    .cases he
    .cases he
    .rename_i hz;split at he
     .cases he
     .rename_i ht;split at he
      .cases he
      .cases he;have IJ:x.Aa=[]:=AC
       have KZ:=pr hz;refine⟨⟨by have:=h.c0;simp;omega,λs hs=>?_,h.ll,by simp[IJ],by simp[h.te IJ,WFO],λ_=>h.te IJ⟩,⟨k.s0,k.s1,k.all,k.tot⟩⟩<;>grind [FW]
  split at he
  .split at he
   .cases he
   .split at he
    .cases he
    .cases he;refine⟨⟨h.c0,h.sh,EQ,λt ht=>?_,trivial,AC⟩,⟨EQ,EQ,λt ht=>?_,λts t ht=>?_⟩⟩
     .simp only[Jq,GE] at ht;rcases ht with ht|rfl
      .exact h.th t ht
      .trivial
     grind [IN,FN];grind [List.append_inj',IN,MN]
  split at he
  .split at he
   .cases he
   .cases ho:x.Ad.getLast? with
    |none=>rw[ho] at he;cases he
    |some f=>
     rw[ho] at he;cases he;have hne:x.Ad≠[]:=AC;obtain⟨fs,f',hfs⟩:=Yn hne;have:f'=f:=by rw[hfs] at ho;grind
     subst this;have ht:x.Aa≠[]:=λh'=>hne (h.te h')
     obtain⟨ts,t,htt⟩:=Yn ht;have hwo:=h.wo;rw[hfs,Yw] at hwo;obtain⟨w1,w2,w3,w4,_⟩:=hwo;have hx:FW {x with Ad:=x.Ad.dropLast}:=⟨h.c0,h.sh,h.ll,h.th,by rw[hfs];grind,AC⟩;have gO:=k.tot ts t htt;refine⟨hx.add ht f'.done ?_,?_⟩
     .show WF x.cells (f'.done .nil) (J x.Ad.dropLast) (x.Ad.dropLast.any _);rw[hfs,Qa];rw[JU] at w3 w4;rw[Q6] at w2 w4;rcases f' with⟨kd,body⟩;cases kd with
      |atomic=>
       have h2:(fs.any λf=>f.kind.Cm)=I:=w2;exact⟨h2,w3,by grind [KY.Cm],trivial⟩
      |Ew a=>exact⟨w2,w3,by grind [KY.Cm],trivial⟩
      |loop n=>exact⟨w2,w3,by grind [KY.Cm],trivial⟩
     .have Ay:(({x with Ad:=x.Ad.dropLast}:qL).add f'.done).Ai=x.Ai:=WV (x:={x with Ad:=x.Ad.dropLast}) ht _;have:=FN.add (x:={x with Ad:=x.Ad.dropLast}) htt (λu hu=>k.all u (by rw[htt];simp[hu])) f'.done x.Ai k.s0 k.s1 (by
        show IN t+MN x.Ad.dropLast+IN (f'.done .nil)<=x.Ai;rw[hfs] at gO⊢;rw[Qa];rw[YV] at gO;rcases f' with⟨kd,body⟩;cases kd<;>simp[Fr.done,IN,MN] at gO⊢<;>omega)
      grind [FN]
  grind [fW]
structure PS (y:qL) (p:RP):Prop where
 Aa:p.Aa=y.Aa.map (Ca · 0 0)
 cells:p.cells=y.cells
 B8:Ei y=V
 fw:FW y
 fn:FN y
 op:y.Ad=[]
 ne:y.Aa≠[]
def vL (a:Except (Int×Nat) qL) (b:Except (Int×Nat) RP):Prop:=match a,b with
 |.error c,.error d=>c=d
 |.ok y,.ok p=>PS y p
 |_,_=>False
theorem l9 (h:M6 x r) (hw:FW x) (ho:x.Ad=[]):
  ((r.p.Aa.any λt=>decide (3<(Ik t).1) || decide (8<(Ik t).2)) || (decide (6<r.p.cells) || decide (3<J r.p.Aa)))= !Ei x/\r.p.Aa=x.Aa.map (Ca · 0 0):=by
 have e:r.p.Aa=x.Aa.map (Ca · 0 0):=by
  grind [GF,M6]
 refine⟨?_,e⟩;rw[e,h.cells,JY];unfold Ei;have e2:∀l:List Bj,(∀t,t∈l->WF x.cells t 0 I)->((l.map (Ca · 0 0)).any λt=>decide (3<(Ik t).1) || decide (8<(Ik t).2))= !(l.all λt=>match As t 1 with|none=>I|some (b,_)=>decide (b<=3)):=by
  intro l hl;induction l<;>grind [sC]
 rw[e2 _ hw.th];generalize (x.Aa.all λt=>match As t 1 with|none=>I|some (b,_)=>decide (b<=3))=A;have e3:decide (x.cells<=6)= !decide (6<x.cells):=by by_cases h:6<x.cells<;>simp[h]<;>omega
 have e4:decide (J x.Aa<=3)= !decide (3<J x.Aa):=by by_cases h:3<J x.Aa<;>simp[h]<;>omega
 rw[e3,e4];cases A<;>cases decide (6<x.cells)<;>cases decide (3<J x.Aa)<;>rfl
theorem np (h:M6 x r) (hw:FW x) (hn:FN x) (n:Nat):vL (IT n x) (KB n r):=by
 have ho:r.Ad=[]<->x.Ad=[]:=by
  have:=N8 h;constructor
  .intro h';rw[h'] at this;exact Jn this.symm
  .intro h';rw[h'] at this;exact Jn this
 have ht:=M9 h;unfold IT KB;by_cases hb:x.Ad≠[]\/x.Aa=[]
 .rw[Jd hb,Jd (show r.Ad≠[]\/r.p.Aa=[] by rw[ht,ne_eq,ho];exact hb)];exact rfl
 .rw[In hb,In (show¬(r.Ad≠[]\/r.p.Aa=[]) by rw[ht,ne_eq,ho];exact hb)];have I7:x.Ad=[]:=by
   apply Classical.byContradiction;intro h';exact hb (.inl h')
  have hne:x.Aa≠[]:=λh'=>hb (.inr h')
  obtain⟨l1,l2⟩:=l9 h hw I7;rw[l1];cases hl:Ei x with
  |true=>exact⟨l2,h.cells,hl,hw,hn,I7,hne⟩
  |false=>exact rfl
theorem go_same (l:List By):∀(n:Nat) (x:qL) (r:RS),M6 x r->FW x->FN x->vL (IS l n x) (NA l n r):=by
 induction l with
 |nil=>intro n x r h hw hn;exact np h hw hn n
 |cons p q ih=>
  intro n x r h hw hn;cases q with
  |nil=>
   unfold IS NA;by_cases hp:p=[]/\0<n;grind [np]
   .rw[In hp,In hp];exact rfl
  |cons q' qs=>
   unfold IS NA;obtain⟨w,l,hwl⟩:∃w l,Bu p=w::l:=by
    unfold Bu;cases hs:AD 32 p with
    |nil=>grind [Cc]
    |cons a b=>exact⟨_,_,rfl⟩
   rw[hwl];cases hl:Bv (w::l) with
   |false=>rw[yP x w l hl];exact rfl
   |true=>
    have hs:=tT h w l hl;rw[Jd rfl];unfold VT at hs;cases hx:x.row (w::l) with
    |error c=>
     cases hr:r.row (w::l) with
     |error d=>rw[hx,hr] at hs;simp only[] at hs⊢;subst hs;exact rfl
     |ok r'=>rw[hx,hr] at hs;grind
    |ok y=>
     grind [qL.pG]
theorem dx (s:By):vL (Fs s) (FP s):=by
 unfold Fs FP;by_cases h:2000<J s
 .rw[Jd h,Jd h];exact rfl
 .rw[In h,In h];exact go_same _ 0 _ _ .Dq .Dq .Dq
def Ai9 (c Ae:Int) (e:Ending) (w':World):Prop:=
 ∃fb,e=.panicked [{v:=.iface 123 (iJ fb),recovered:=I}]/\w'.heap[fb]?=U (qK #[iI c,iI Ae] 127 (0,0))
def Kf (M:List Nat) (c Ae:Int) (w:World) (e:Ending) (w':World):Prop:=Ai9 c Ae e w'/\Aw M w w'
theorem AO (c Ae:Int) (w:World):Calls prog 69 #[iI c,iI Ae] w (Kf [] c Ae w):=by
 go_enter func69,ntmps69;go_wp2;exact⟨rfl,⟨_,rfl,by show(w.heap.push _)[w.heap.size]?=_;simp⟩,(Aw.refl _ _).alloc _⟩
structure PV where
 p:Value
 s:Value
 l:Value
 o:Value
 n:Value
def PV.cells (r:PV) (wv:Value) (Ae:Int):Array Value:= #[wv,iI Ae,r.p,r.s,r.l,r.o,r.n]
abbrev km (w:World) (xb:Nat) (r:PV) (wv:Value) (Ae:Int):Prop:=Ch w xb (r.cells wv Ae) 151
structure PxF (w:World) (xb:Nat) (r:PV) (wv:Value) (Ae:Int):Prop where
 c:∀i:Nat,w.cell? ⟨xb,i,Z⟩=(#[wv,iI Ae,r.p,r.s,r.l,r.o,r.n]:Array Value)[i]?
 f:∀i:Nat,w.frozen? ⟨xb,i,Z⟩=I
 lt:xb<w.heap.size
theorem N6 {xb:Nat} {r:PV} {wv:Value} {Ae:Int} (h:km w xb r wv Ae):PxF w xb r wv Ae:=⟨h.cell,h.free,h.lt⟩
theorem Fb (w:World) (xb:Nat) (r:PV) (wv:Value) (Ae:Int) (h:km w xb r wv Ae):
  Calls prog 73 #[iJ xb] w (Kf [] 2 Ae w):=by
 obtain⟨hc,hf,hlt⟩:=N6 h;clear h;go_enter func73,ntmps73;go_wp2_with fail;refine(AO _ _ _).mono ?_;rintro e w1 ⟨⟨fb,rfl,hb⟩,hm⟩;go_wp2;exact ma3
def Pc (res:Option (Value×Ws)) (xb:Nat) (r:PV) (Ae:Int) (ok:Nat->Prop) (w:World) (e:Ending) (w':World):Prop:=
 match res with
 |none=>Kf [xb] 2 Ae w e w'
 |some (v,l')=>e= qJ v/\∃wv',km w' xb r wv' Ae/\Sl w' ok wv' (Bp l')/\Aw [xb] w w'
def AjT:Ws->Option (ByteArray×Ws)
 |[]=>Z
 |a::r=>U (a,r)
theorem Sl.tail {ok:Nat->Prop} {b off cap:Nat} {x:Value} {xs:List Value} (h:Sl w ok (qD (U ⟨b,off,Z⟩) n cap) (x::xs)) (p:Option Addr) (hp:p=U ⟨b,off,Z⟩/\cap=1\/p=U ⟨b,off+1,Z⟩):
  Sl w ok (qD p (J xs) (cap-1)) xs:=by
 obtain⟨hl,⟨h1,_⟩|⟨b',off',cap',h1,h2,h3,h4,h5,h6⟩⟩:=h
 .cases h1
 .cases h1;simp only[Jg] at hl h2;refine⟨Y,.inr ?_⟩;rcases hp with⟨rfl,h7⟩|rfl
  .refine⟨b,off,cap-1,rfl,Y,Y,h4,h5,λi hi=>Y⟩
  .refine⟨b,off+1,cap-1,rfl,Y,Y,h4,h5,λi hi=>?_⟩;have:=h6 (i+1) (by simp;omega);rw[show off+(i+1)=off+1+i by omega] at this;simpa using this
theorem Kp (l:Ws) (w:World) (xb:Nat) (r:PV) (wv:Value) (Ae:Int) (ok:Nat->Prop) (h:km w xb r wv Ae) (hs:Sl w ok wv (Bp l)) (hx:¬ok xb):
  Calls prog 96 #[iJ xb] w (Pc ((AjT l).map λp=>(qE p.1,p.2)) xb r Ae ok w):=by
 obtain⟨hc,hf,hlt⟩:=N6 h;cases l with
 |nil=>
  obtain⟨p,cap,rfl,_,_⟩:=hs.Mq;have H:=D h;clear h hs;simp only[Bp,QJ,Jx] at hc;go_enter func96,ntmps96;exact mbj
 |cons a l=>
  have Tj:=hs;obtain⟨hl,⟨h1,h2⟩|⟨b,off,cap,rfl,h2,h3,h4,h5,h6⟩⟩:=hs
  .cases h2
  .have bz:=h6 0 (by simp[Bp]);simp only[J4,Bp,Jt,List.getElem_cons_zero] at bz;have hlen:(Bp (a::l)).length=J l+1:=by simp[Bp]
   rw[hlen] at hc h2 hl Tj;have H:=D h;have HS:=D Tj;have HX:=D hx;have O0:0<J l+1:=Y
   unfold maxLen at h3;clear h Tj h6 hlen hx h4;by_cases mN:cap=1
   .subst mN;have Le:l=[]:=Jn Y;subst Le;clear h2 O0 hl;simp only[Jx,JU] at hc HS⊢;go_enter func96,ntmps96;go_wp2;go_ret;have k:=H.set 0 (qD (U ⟨b,off,Z⟩) 0 0);have m:Aw [xb] w (w.setCell ⟨xb,0,Z⟩ (qD (U ⟨b,off,Z⟩) 0 0)):=(Aw.refl _ _).setCell (.inl EQ) _;exact⟨rfl,_,k,(HS.tail (U ⟨b,off,Z⟩) (.inl ⟨rfl,rfl⟩)).mod m (λb hb hm=>HX.out (by rw[GE] at hm;rw[<-hm];exact hb)),m⟩
   .have AgU:1<cap:=Y
    clear mN;go_enter func96,ntmps96;go_wp2;go_ret;have k:=H.set 0 (qD (U ⟨b,off+1,Z⟩) (J l) (cap-1));have m:Aw [xb] w (w.setCell ⟨xb,0,Z⟩ (qD (U ⟨b,off+1,Z⟩) (J l) (cap-1))):=(Aw.refl _ _).setCell (.inl EQ) _;have e:=Cj l;have t:=HS.tail (U ⟨b,off+1,Z⟩) (.inr rfl);rw[show(l.map Value.string)=Bp l from rfl,e] at t;exact⟨rfl,_,k,t.mod m (λb hb hm=>HX.out (by rw[GE] at hm;rw[<-hm];exact hb)),m⟩
theorem DG (l:Ws) (w:World) (xb:Nat) (r:PV) (wv:Value) (Ae:Int) (ok:Nat->Prop) (h:km w xb r wv Ae) (hs:Sl w ok wv (Bp l)):
  Calls prog 99 #[iJ xb] w (Pc (GP (qG #[],([]:Ws)) l) xb r Ae ok w):=by
 obtain⟨hc,hf,hlt⟩:=N6 h;obtain⟨p,cap,rfl,_,_⟩:=hs.Mq;have H:=D h;have HS:=D hs;clear h hs;cases l with
 |nil=>
  simp only[Bp,QJ,Jx] at hc;go_enter func99,ntmps99;go_wp2
  go_end0
  exact⟨rfl,_,H,HS,Aw.refl _ _⟩
 |cons a l=>
  have hlen:(Bp (a::l)).length=J l+1:=by simp[Bp]
  rw[hlen] at hc;clear hlen;go_enter func99,ntmps99;exact mbj
def isF (k:By):Ws->Bool×Ws
 |[]=>(I,[])
 |a::r=>if bs a=k then (V,r) else (I,a::r)
theorem Acm {r:Ws} (h:bs a=k):isF k (a::r)=(V,r):=by simp[isF,h]
theorem AgF {r:Ws} (h:¬bs a=k):isF k (a::r)=(I,a::r):=by simp[isF,h]
theorem AfP (k:ByteArray) (l:Ws) (w:World) (xb:Nat) (r:PV) (wv:Value) (Ae:Int) (ok:Nat->Prop) (h:km w xb r wv Ae) (hs:Sl w ok wv (Bp l)) (hx:¬ok xb):
  Calls prog 150 #[iJ xb,qE k] w (Pc (U (qF (isF (bs k) l).1,(isF (bs k) l).2)) xb r Ae ok w):=by
 obtain⟨hc,hf,hlt⟩:=N6 h;cases l with
 |nil=>
  obtain⟨p,cap,rfl,_,_⟩:=hs.Mq;have H:=D h;have HS:=D hs;clear h hs;simp only[Bp,QJ,Jx] at hc;go_enter func150,ntmps150;go_wp2;go_ret;exact⟨rfl,_,H,HS,Aw.refl _ _⟩
 |cons a l=>
  have Tj:=hs;obtain⟨hl,⟨h1,h2⟩|⟨b,off,cap,rfl,h2,h3,h4,h5,h6⟩⟩:=hs
  .cases h2
  .have bz:=h6 0 (by simp[Bp]);simp only[J4,Bp,Jt,List.getElem_cons_zero] at bz;have hlen:(Bp (a::l)).length=J l+1:=by simp[Bp]
   rw[hlen] at hc h2 hl Tj;have H:=D h;have HS:=D Tj;have HX:=D hx;have O0:0<J l+1:=Y
   unfold maxLen at h3;rw[hlen] at H;clear h Tj h6 hlen hx h4;by_cases ha:bs a=bs k
   .have q:=Xb ha;have HA:=D ha;clear ha;by_cases mN:cap=1
    .subst mN;have Le:l=[]:=Jn Y;subst Le;clear h2 O0 hl;simp only[Jx,JU] at hc HS H⊢;go_enter func150,ntmps150;go_wp2;go_ret;have k2:=H.set 0 (qD (U ⟨b,off,Z⟩) 0 0);have m:Aw [xb] w (w.setCell ⟨xb,0,Z⟩ (qD (U ⟨b,off,Z⟩) 0 0)):=(Aw.refl _ _).setCell (.inl EQ) _;rw[Acm HA.out];exact⟨rfl,_,k2,(HS.tail (U ⟨b,off,Z⟩) (.inl ⟨rfl,rfl⟩)).mod m (λb hb hm=>HX.out (by rw[GE] at hm;rw[<-hm];exact hb)),m⟩
    .have AgU:1<cap:=Y
     clear mN;go_enter func150,ntmps150;go_wp2;go_ret;have k2:=H.set 0 (qD (U ⟨b,off+1,Z⟩) (J l) (cap-1));have m:Aw [xb] w (w.setCell ⟨xb,0,Z⟩ (qD (U ⟨b,off+1,Z⟩) (J l) (cap-1))):=(Aw.refl _ _).setCell (.inl EQ) _;have e:=Cj l;have t:=HS.tail (U ⟨b,off+1,Z⟩) (.inr rfl);rw[show(l.map Value.string)=Bp l from rfl,e] at t;rw[Acm HA.out];exact⟨rfl,_,k2,t.mod m (λb hb hm=>HX.out (by rw[GE] at hm;rw[<-hm];exact hb)),m⟩
   .have q:=UK ha;have HA:=D ha;clear ha;go_enter func150,ntmps150;go_wp2;go_ret;rw[AgF HA.out];exact⟨rfl,_,H,HS,Aw.refl _ _⟩
def GI.val:GI->Value
 |.Zv d a=> .iface 316 (qH #[iI d,qF a.Dd,iI a.v])
 |.op n d a b=> .iface 290 (qH #[qE n,iI d,qF a.Dd,iI a.v,qF b.Dd,iI b.v])
 |.load d a k=> .iface 297 (qH #[iI d,qF a.Dd,iI a.v,iI k])
 |.store a k b=> .iface 292 (qH #[qF a.Dd,iI a.v,iI k,qF b.Dd,iI b.v])
 |.La d a k b c=> .iface 312 (qH #[iI d,qF a.Dd,iI a.v,iI k,qF b.Dd,iI b.v,qF c.Dd,iI c.v])
 |.El d a k b=> .iface 314 (qH #[iI d,qF a.Dd,iI a.v,iI k,qF b.Dd,iI b.v])
 |.Mr=> .iface 173 (qH #[])
 |.out a=> .iface 276 (qH #[qF a.Dd,iI a.v])
 |.GN q=> .iface 280 (qH #[iI q])
 |.jz a q=> .iface 299 (qH #[qF a.Dd,iI a.v,iI q])
 |.CS k=> .iface 294 (qH #[iI k])
 |.halt=> .iface 173 (qH #[])
def ki (l:List GI):List Value:=l.map GI.val
structure MG where
 mb:Nat
 c:SG
 a:SG
 av:List Value
def DS (a:SG) (l:List GI):Ob:=.row (qD a.p (J l) a.c) 162 1 (J l) (ki l)
def MG.Az (g:MG) (G:GS):List Ob:=
 [.Ao g.mb #[qD g.c.p (J G.Ab) g.c.c,iI G.Ac,iI G.cells,qF G.block,qD g.a.p (J g.av) g.a.c,iI G.Ah] 169,
  DS g.c G.Ab,.row (qD g.a.p (J g.av) g.a.c) 1 1 (J g.av) g.av]
theorem LC (l:List GI):(ki l).length=J l:=by simp[ki]
theorem mq (p:Option Addr) (c:Nat) (l:List GI) (i:GI):Ob.row (qD p (J l+1) c) 162 1 (J l+1) (ki l++(#[i.val]:Array Value).toList)=DS ⟨p,c⟩ (l++[i]):=by simp[DS,ki]
structure Agl (w:World) (g:MG) (G:GS):Prop where
 c:∀i:Nat,w.cell? ⟨g.mb,i,Z⟩=(#[qD g.c.p (J G.Ab) g.c.c,iI G.Ac,iI G.cells,qF G.block,qD g.a.p (J g.av) g.a.c,iI G.Ah]:Array Value)[i]?
 f:∀i:Nat,w.frozen? ⟨g.mb,i,Z⟩=I
 lt:g.mb<w.heap.size
theorem Dj {g:MG} {G:GS} (h:Aq w (g.Az G)):Agl w g G where
 c:=(h.Ao (i:=0) rfl).cell
 f:=(h.Ao (i:=0) rfl).free
 lt:=(h.Ao (i:=0) rfl).lt
theorem GI.shape (i:GI):∃T u,i.val=.iface T u:=by cases i<;>exact⟨_,_,rfl⟩
theorem yt:(prog.info? 162).map (λi=>(i.zero,i.size,i.bytes))=U (U .nilIface,1,16):=Fd
def zS (ret:Value) (G':GS) (g:MG) (G:GS) (w:World) (e:Ending) (w':World):Prop:=
 e= qJ ret/\∃c:SG,Af w (g.Az G) w' (MG.Az {g with c:=c} G')
theorem Mi (i:GI) (w:World) (g:MG) (G:GS) (h:Aq w (g.Az G)) (hn:J G.Ab<=1000000):
  Calls prog 81 #[iJ g.mb,i.val] w (zS (qG #[]) (G.AP i) g G w):=by
 obtain⟨j0,hj,LP,KZ,MH⟩:=info_parts yt;obtain⟨hc,hf,hlt⟩:=Dj h;obtain⟨T,u,hv⟩:=GI.shape i;rw[hv];have H:=D h;have Hv:=D hv;clear h hv;go_enter func81,ntmps81;go_wp2_with (first|(at_builtin;refine A6 16 _ _ _ j0 _ #[.iface T u] _ H (k:=1) rfl Eq Eq underlying158 hj LP KZ MH rfl Y Eq Eq rfl (by simp[Value.oneCell']) (by unfold maxLen;omega) Y ?_;intro g6 AI w6 Ay _;rw[<-Hv.out,mq] at Ay;have q1:=(Ay.Ak.Ao (i:=0) rfl).cell;have q2:=(Ay.Ak.Ao (i:=0) rfl).free;have q3:=(Ay.Ak.Ao (i:=0) rfl).lt;have FZ:=D Ay;clear Ay hc hf hlt))
 go_end0
 have Ay:=FZ.out;have t1:=Ay.Ak.set (i:=0) rfl 0 (qD (U ⟨g6,0,Z⟩) (J G.Ab+1) AI);refine⟨rfl,⟨U ⟨g6,0,Z⟩,AI⟩,?_⟩;have e:(G.Ab++[i]).length=J G.Ab+1:=EQ
 have:=Ay.trans t1;unfold MG.Az GS.AP;unfold MG.Az at this;rw[e];exact this
structure AY (w:World) (L:List Ob) (F:List (Nat×Obj)):Prop where
 heap:∀b o,(b,o)∈F->w.heap[b]?=U o
 out:∀b o,(b,o)∈F->b∉Er L
theorem AY.step (h:AY w L F) (k:Af w L w' L'):AY w' L' F:=
 ⟨λb o hb=>k.mod.heap (h.heap b o hb) (h.out b o hb),λb o hb hl=>by
   rcases k.fp b hl with h1|h1
   · exact h.out b o hb h1
   · have:=Dp (h.heap b o hb);omega⟩
theorem AY.quiet (h:AY w L F) (k:Aw [] w w'):AY w' L F:=
 ⟨λb o hb=>k.heap (h.heap b o hb) EQ,h.out⟩
theorem AY.new (h:AY w L F) (hL:Aq w L) (o:Obj):AY (w.alloc o) L ((w.heap.size,o)::F):=by
 refine⟨λb p hb=>?_,λb p hb hl=>?_⟩
 .rcases Jl.1 hb with hb|hb
  .cases hb;show(w.heap.push o)[w.heap.size]?=U o;simp
  .exact((Aw.refl [] w).alloc o).heap (h.heap b p hb) EQ
 .rcases Jl.1 hb with hb|hb
  .cases hb;have:=hL.lt _ hl;omega
  .exact h.out b p hb hl
theorem AY.nil (w:World) (L:List Ob):AY w L []:=⟨λb o h=>by simp at h,λb o h=>by simp at h⟩
theorem AY.gJ (h:AY w L F) (k:AY w L E):AY w L (E++F):=
 ⟨λb o hb=>(Jq.1 hb).elim (k.heap b o) (h.heap b o),λb o hb=>(Jq.1 hb).elim (k.out b o) (h.out b o)⟩
theorem AY.sub (h:AY w L F) (k:∀x,x∈E->x∈F):AY w L E:=
 ⟨λb o hb=>h.heap b o (k _ hb),λb o hb=>h.out b o (k _ hb)⟩
theorem AY.cell (h:AY w L F) {b:Nat} {c:Array Value} {T:TypeId} (hb:(b,qK c T (0,0))∈F):∀i:Nat,w.cell? ⟨b,i,Z⟩=c[i]?:=
 Ch.cell (h.heap b _ hb)
theorem AY.lt (h:AY w L F) {b:Nat} {o:Obj} (hb:(b,o)∈F):b<w.heap.size:=Dp (h.heap b _ hb)
def Kv (v:Value) (w:World) (e:Ending) (w':World):Prop:=e= qJ v/\Aw [] w w'
theorem Aq.quiet (h:Aq w L) (k:Aw [] w w'):Aq w' L:=(Af.quiet h k).Ak
theorem AY.free (h:AY w L F) {b:Nat} {c:Array Value} {T:TypeId} (hb:(b,qK c T (0,0))∈F):∀i:Nat,w.frozen? ⟨b,i,Z⟩=I:=
 Ch.free (h.heap b _ hb)
theorem IX (hm:Aw [] (w.alloc o) w1):AY w1 [] [(w.heap.size,o)]:=
 (AY.new (AY.nil w []) (Aq.nil w) o).quiet hm
theorem cell_far (hm:Aw [] (w.alloc o) w1) {b:Nat} (hb:b<w.heap.size) (i:Nat):w1.cell? ⟨b,i,Z⟩=w.cell? ⟨b,i,Z⟩:=by
 have h2:=(hm.block b (by show b<(w.heap.push o).size;simp;omega) EQ).trans (((Aw.refl [] w).alloc o).block b hb EQ);show w1.cell? _=w.cell? _;unfold World.cell?;rw[h2]
theorem Aw.AjU (hm:Aw [] (w.alloc o) w1) {i j k:Nat} {x y z:Value}:Aw [] w (((w1.setCell ⟨w.heap.size,i,Z⟩ x).setCell ⟨w.heap.size,j,Z⟩ y).setCell ⟨w.heap.size,k,Z⟩ z):=by
 have h:=((Aw.refl [] w).alloc o).Aj hm;exact((h.setCell (.inr (Jf _)) _).setCell (.inr (Jf _)) _).setCell (.inr (Jf _)) _
theorem ZO (v:Int) (w:World):Calls prog 139 #[iI v] w (Kv (qH #[qF I,iI v]) w):=by
 go_enter func139,ntmps139;go_wp2_with fail;refine bodyPost_ret (by simp[results,results139,go_sem]) rfl ⟨rfl,?_⟩;exact mbM
theorem Vt (v:Int) (w:World):Calls prog 133 #[iI v] w (Kv (qH #[qF V,iI v]) w):=by
 go_enter func133,ntmps133;go_wp2_with fail;refine bodyPost_ret (by simp[results,results133,go_sem]) rfl ⟨rfl,?_⟩;exact mbM
theorem lN (k:Int) (w:World) (g:MG) (G:GS) (h:Aq w (g.Az G)) (hb:wrap64 (G.Ac+k)=G.Ac+k):
  Calls prog 135 #[iJ g.mb,iI k] w (Kv (qH #[qF I,iI (G.Ac+k),iI 0]) w):=by
 obtain⟨hc,hf,hlt⟩:=Dj h;have Hb:=D hb;clear h hb;go_enter func135,ntmps135;go_wp2_with fail;rw[Hb.out];refine(ZO _ _).mono ?_;rintro e w1 ⟨rfl,hm⟩;have K:=IX hm;have k0:=K.cell (GE.2 rfl);have k1:=K.free (GE.2 rfl);go_wp2_with fail;refine bodyPost_ret (by simp[results,results135,go_sem,k0]) rfl ⟨rfl,?_⟩;exact Aw.AjU hm
theorem Ae6 (k r:Int) (w:World) (g:MG) (G:GS) (h:Aq w (g.Az G)) (hb:wrap64 (G.Ac+k)=G.Ac+k):
  Calls prog 138 #[iJ g.mb,iI k,iI r] w (Kv (qH #[qF V,iI r,iI (G.Ac+k)]) w):=by
 obtain⟨hc,hf,hlt⟩:=Dj h;have Hb:=D hb;clear h hb;go_enter func138,ntmps138;go_upto_region 1 with fail
 have Cy:=hlt;have Ix:w.cell? ⟨g.mb,1,Z⟩=U (iI G.Ac):=hc 1;refine Cg (l:=[(0,V),(2,V),(3,V),(4,V),(5,V),(6,V),(7,V),(1,I),(8,V),(9,I)]) (λW=>W.cell? ⟨g.mb,1,Z⟩=U (iI G.Ac)) 9 ?_ ?_
 .go_simp
 refine Dr ?_;intro K hK;refine(Vt _ _).mono ?_;rintro e w1 ⟨rfl,ZY⟩;have hm:=((Aw.refl [] (w.alloc (qK #[qF I,iI 0,iI 0] 270))).drew).Aj ZY;have K1:=IX hm;have k0:=K1.cell (GE.2 rfl);have k1:=K1.free (GE.2 rfl);refine hK _ _ (λ_=>(cell_far hm Cy 1).trans Ix) ?_;clear hK ZY;refine Dr ?_;intro K hK;refine hK _ _ (λh=>Jk rfl h) ?_;simp only[BO];go_wp2_with fail;rw[IntWalk.i64_left,Hb.out];refine bodyPost_ret (by simp[results,results138,go_sem,k0]) rfl ⟨rfl,?_⟩;exact Aw.AjU hm
theorem Od (r:Int) (a:Ag) (k:Int) (w:World) (g:MG) (G:GS) (h:Aq w (g.Az G)) (hn:J G.Ab<=1000000):
  Calls prog 140 #[iJ g.mb,iI r,qH #[qF a.Dd,iI a.v,iI k]] w (zS (qG #[]) (G.AP (.load r a k)) g G w):=by
 have H:=D h;clear h;go_enter func140,ntmps140;go_wp2_with fail;refine(Mi (.load r a k) _ g G (H.quiet ((Aw.refl _ _).alloc _)) hn).mono ?_;rintro e w1 ⟨rfl,c,Ay⟩;go_wp2_with fail
 go_end0
 exact⟨rfl,c,(Af.alloc H _).trans Ay⟩
theorem OW (a:Ag) (k:Int) (b:Ag) (w:World) (g:MG) (G:GS) (h:Aq w (g.Az G)) (hn:J G.Ab<=1000000):
  Calls prog 134 #[iJ g.mb,qH #[qF a.Dd,iI a.v,iI k],qH #[qF b.Dd,iI b.v]] w (zS (qG #[]) (G.AP (.store a k b)) g G w):=by
 have H:=D h;clear h;go_enter func134,ntmps134;go_wp2_with fail;refine(Mi (.store a k b) _ g G (H.quiet (((Aw.refl _ _).alloc _).alloc _)) hn).mono ?_;exact mbl
theorem Ae4 (n:ByteArray) (d:Int) (a b:Ag) (w:World) (g:MG) (G:GS) (h:Aq w (g.Az G)) (hn:J G.Ab<=1000000):
  Calls prog 132 #[iJ g.mb,qE n,iI d,qH #[qF a.Dd,iI a.v],qH #[qF b.Dd,iI b.v]] w (zS (qG #[]) (G.II n d a b) g G w):=by
 have H:=D h;clear h;go_enter func132,ntmps132;go_wp2_with fail;refine(Mi (.op n d a b) _ g G (H.quiet (((Aw.refl _ _).alloc _).alloc _)) hn).mono ?_;exact mbl
theorem Rt (w:World) (o:Obj):(w.alloc o).heap.size=w.heap.size+1:=by show(w.heap.push o).size=_;simp
theorem uO (l:List GI) (k:Nat) (i:GI):(ki l).set k i.val=ki (l.set k i):=by simp[ki,Qx]
def WY (F:List (Nat×Obj)) (v:Value) (mb:Nat) (l:Io):Prop:=match l.a with
 |none=>∃bm bk,v=.func (.func 174) #[] #[iJ bm,iJ bk]/\
   (bm,qK #[iJ mb] 166 (0,0))∈F/\(bk,qK #[iI (l.k:Int)] 3 (0,0))∈F
 |some a=>∃ba bm bk,v=.func (.func 154) #[] #[iJ ba,iJ bm,iJ bk]/\
   (ba,qK #[qF a.Dd,iI a.v] 264 (0,0))∈F/\(bm,qK #[iJ mb] 166 (0,0))∈F/\(bk,qK #[iI (l.k:Int)] 3 (0,0))∈F
theorem WY.sub {v:Value} {l:Io} (h:WY F v mb l) (k:∀x,x∈F->x∈E):WY E v mb l:=by
 unfold WY at h⊢;split at h
 .obtain⟨bm,bk,h1,h2,h3⟩:=h;exact⟨bm,bk,h1,k _ h2,k _ h3⟩
 .obtain⟨ba,bm,bk,h1,h2,h3,h4⟩:=h;exact⟨ba,bm,bk,h1,k _ h2,k _ h3,k _ h4⟩
def Pr (b:Nat) (a:Ag):Nat×Obj:=(b,qK #[qF a.Dd,iI a.v] 264 (0,0))
def Ge (b mb:Nat):Nat×Obj:=(b,qK #[iJ mb] 166 (0,0))
def Gf (b k:Nat):Nat×Obj:=(b,qK #[iI (k:Int)] 3 (0,0))
def Alx (a:Ag) (g:MG) (G:GS) (w:World) (e:Ending) (w':World):Prop:=
 ∃ba bm bk c,e= qJ (.func (.func 154) #[] #[iJ ba,iJ bm,iJ bk])/\
  Af w (g.Az G) w' (MG.Az {g with c:=c} (G.CL a))/\AY w' (MG.Az {g with c:=c} (G.CL a)) [Gf bk (J G.Ab),Pr ba a,Ge bm g.mb]/\(w.heap.size<=ba/\w.heap.size<=bm/\w.heap.size<=bk)
def AlG (g:MG) (G:GS) (w:World) (e:Ending) (w':World):Prop:=
 ∃bm bk c,e= qJ (.func (.func 174) #[] #[iJ bm,iJ bk])/\
  Af w (g.Az G) w' (MG.Az {g with c:=c} G.CW)/\AY w' (MG.Az {g with c:=c} G.CW) [Gf bk (J G.Ab),Ge bm g.mb]
theorem dP (a:Ag) (w:World) (g:MG) (G:GS) (h:Aq w (g.Az G)) (hn:J G.Ab<=1000000):
  Calls prog 141 #[iJ g.mb,qH #[qF a.Dd,iI a.v]] w (Alx a g G w):=by
 obtain⟨hc,hf,hlt⟩:=Dj h;have H:=D h;clear h;go_enter func141,ntmps141;go_wp2_with fail;have a1:=Af.alloc H (qK #[iJ g.mb] 166);have K1:=(AY.nil w (g.Az G)).new H (qK #[iJ g.mb] 166);have a2:=a1.trans (Af.alloc a1.Ak (qK #[qF a.Dd,iI a.v] 264));have K2:=K1.new a1.Ak (qK #[qF a.Dd,iI a.v] 264);have a3:=a2.trans (Af.alloc a2.Ak (qK #[iI (J G.Ab)] 3));have K3:=K2.new a2.Ak (qK #[iI (J G.Ab)] 3);refine(Mi (.jz a 0) _ g G a3.Ak hn).mono ?_;rintro e w1 ⟨rfl,c,Ay⟩;have K4:=K3.step Ay;rw[Rt,Rt] at K4;go_wp2_with fail;go_ret;exact⟨w.heap.size+1,w.heap.size,w.heap.size+1+1,c,rfl,a3.trans Ay,K4,Y⟩
theorem xG (w:World) (g:MG) (G:GS) (h:Aq w (g.Az G)) (hn:J G.Ab<=1000000):
  Calls prog 151 #[iJ g.mb] w (AlG g G w):=by
 obtain⟨hc,hf,hlt⟩:=Dj h;have H:=D h;clear h;go_enter func151,ntmps151;go_wp2_with fail;have a1:=Af.alloc H (qK #[iJ g.mb] 166);have K1:=(AY.nil w (g.Az G)).new H (qK #[iJ g.mb] 166);have a2:=a1.trans (Af.alloc a1.Ak (qK #[iI (J G.Ab)] 3));have K2:=K1.new a1.Ak (qK #[iI (J G.Ab)] 3);refine(Mi (.GN 0) _ g G a2.Ak hn).mono ?_;rintro e w1 ⟨rfl,c,Ay⟩;have K4:=K2.step Ay;rw[Rt] at K4;go_wp2_with fail;go_ret;exact⟨w.heap.size,w.heap.size+1,c,rfl,a2.trans Ay,K4⟩
theorem T2 (a:Ag) (ba bm bk k:Nat) (w:World) (g:MG) (G:GS) (F:List (Nat×Obj)) (h:Aq w (g.Az G)) (hK:AY w (g.Az G) F) (h1:Gf bk k∈F) (h2:Pr ba a∈F) (h3:Ge bm g.mb∈F) (hn:J G.Ab<=1000000) (hk:k<J G.Ab):
  Calls prog 154 #[iJ ba,iJ bm,iJ bk] w (zS (qG #[]) (G.Bd ⟨k,U a⟩) g G w):=by
 obtain⟨hc,hf,hlt⟩:=Dj h;have c1:=hK.cell h1;have c2:=hK.cell h2;have c3:=hK.cell h3;have DH:=h.row (i:=1) rfl;obtain⟨gb,gc,bX,_,hgl,AmY,AmX,Z1,ZZ⟩:=Av DH Y;have H:=D h;have mz:(g.Az G)[1]?=U (.row (qD (U ⟨gb,0,Z⟩) (J G.Ab) gc) 162 1 (J G.Ab) (ki G.Ab)):=by
  show U (DS g.c G.Ab)=_;unfold DS;rw[bX]
 have Ay:=λv=>Aq.Eu h mz k (by rw[LC];exact hk) v
 rw[bX] at hc;have SO:k<(J G.Ab:Int):=Y
 have Yr:=Z1 k (by rw[LC];exact hk);generalize hov:(ki G.Ab)[k]'(by rw[LC];exact hk)=ov at Yr;have PL:=ZZ k;have Hge:=D bX;have Hk:=D hk;have d1:=c1 0;have d2:=c2 0;have d2':=c2 1;clear c2;have d3:=c3 0;have d4:=hc 0;clear h hK DH bX Z1 ZZ mz Ay hov hk c1 c3 hc hf;go_enter func154,ntmps154;go_upto_region 0 with fail
 refine AG [] 15 (λW=>W.cell? ⟨bk,0,Z⟩=U (iI k)/\W.cell? ⟨bm,0,Z⟩=U (iJ g.mb)/\W.cell? ⟨g.mb,0,Z⟩=U (qD (U ⟨gb,0,Z⟩) (J G.Ab) gc)/\W.cell? ⟨ba,0,Z⟩=U (qF a.Dd)/\W.cell? ⟨ba,1,Z⟩=U (iI a.v)) ?_ ?_
 .exact⟨by go_simp,by go_simp,by go_simp,by go_simp,by go_simp⟩
 refine Dr ?_;intro K hK;refine hK _ _ (λh=>Jk rfl h) ?_;simp only[BO];go_wp2_with fail
 go_end0
 refine⟨rfl,g.c,?_⟩;have s1:=Af.drew H.out;have s2:=s1.trans (Aq.Eu s1.Ak (show(g.Az G)[1]?=U (.row (qD (U ⟨gb,0,Z⟩) (J G.Ab) gc) 162 1 (J G.Ab) (ki G.Ab)) by
   show U (DS g.c G.Ab)=_;unfold DS;rw[Hge.out]) k (by rw[LC];exact Hk.out) (GI.val (.jz a (J G.Ab))))
 have e:(g.Az G).set 1 (.row (qD (U ⟨gb,0,Z⟩) (J G.Ab) gc) 162 1 (J G.Ab) ((ki G.Ab).set k (GI.val (.jz a (J G.Ab)))))=MG.Az g (G.Bd ⟨k,U a⟩):=by
  exact mbw
 rw[e] at s2;exact s2
theorem Wi (bm bk k:Nat) (w:World) (g:MG) (G:GS) (F:List (Nat×Obj)) (h:Aq w (g.Az G)) (hK:AY w (g.Az G) F) (h1:Gf bk k∈F) (h3:Ge bm g.mb∈F) (hn:J G.Ab<=1000000) (hk:k<J G.Ab):
  Calls prog 174 #[iJ bm,iJ bk] w (zS (qG #[]) (G.Bd ⟨k,Z⟩) g G w):=by
 obtain⟨hc,hf,hlt⟩:=Dj h;have c1:=hK.cell h1;have c3:=hK.cell h3;have DH:=h.row (i:=1) rfl;obtain⟨gb,gc,bX,_,hgl,AmY,AmX,Z1,ZZ⟩:=Av DH Y;have H:=D h;have mz:(g.Az G)[1]?=U (.row (qD (U ⟨gb,0,Z⟩) (J G.Ab) gc) 162 1 (J G.Ab) (ki G.Ab)):=by
  show U (DS g.c G.Ab)=_;unfold DS;rw[bX]
 have Ay:=λv=>Aq.Eu h mz k (by rw[LC];exact hk) v
 rw[bX] at hc;have SO:k<(J G.Ab:Int):=Y
 have Yr:=Z1 k (by rw[LC];exact hk);generalize hov:(ki G.Ab)[k]'(by rw[LC];exact hk)=ov at Yr;have PL:=ZZ k;have Hge:=D bX;have Hk:=D hk;have d1:=c1 0
 skip
 have d3:=c3 0;have d4:=hc 0;clear h hK DH bX Z1 ZZ mz Ay hov hk c1 c3 hc hf;go_enter func174,ntmps174;go_upto_region 0 with fail
 refine AG [] 13 (λW=>W.cell? ⟨bk,0,Z⟩=U (iI k)/\W.cell? ⟨bm,0,Z⟩=U (iJ g.mb)/\W.cell? ⟨g.mb,0,Z⟩=U (qD (U ⟨gb,0,Z⟩) (J G.Ab) gc)) ?_ ?_
 .exact mbU
 refine Dr ?_;intro K hK;refine hK _ _ (λh=>Jk rfl h) ?_;simp only[BO];go_wp2_with fail
 go_end0
 refine⟨rfl,g.c,?_⟩;have s1:=Af.drew H.out;have s2:=s1.trans (Aq.Eu s1.Ak (show(g.Az G)[1]?=U (.row (qD (U ⟨gb,0,Z⟩) (J G.Ab) gc) 162 1 (J G.Ab) (ki G.Ab)) by
   show U (DS g.c G.Ab)=_;unfold DS;rw[Hge.out]) k (by rw[LC];exact Hk.out) (GI.val (.GN (J G.Ab))))
 have e:(g.Az G).set 1 (.row (qD (U ⟨gb,0,Z⟩) (J G.Ab) gc) 162 1 (J G.Ab) ((ki G.Ab).set k (GI.val (.GN (J G.Ab)))))=MG.Az g (G.Bd ⟨k,Z⟩):=by
  exact mbw
 rw[e] at s2;exact s2
theorem GS.BS (g:GS) (i:GI):(g.AP i).Ab.length=J g.Ab+1:=by
 simp[GS.AP]
theorem GS.eR (g:GS) (i:GI):(g.AP i).Ac=g.Ac:=rfl
theorem GS.ss (g:GS) (i:GI):(g.AP i).BN=g.BN:=rfl
theorem GS.Lx (g:GS) (n:ByteArray) (d:Int) (a b:Ag):(g.II n d a b).Ab.length=J g.Ab+1:=by
 exact GS.BS _ _
theorem GS.lF (g:GS) (n:ByteArray) (d:Int) (a b:Ag):(g.II n d a b).Ac=g.Ac:=rfl
theorem GS.dE (g:GS) (n:ByteArray) (d:Int) (a b:Ag):(g.II n d a b).BN=g.BN:=rfl
theorem GS.LH (g:GS) (a:Ag):(g.CL a).Ab.length=J g.Ab+1:=by
 exact GS.BS _ _
theorem GS.oE (g:GS) (a:Ag):(g.CL a).Ac=g.Ac:=rfl
theorem GS.kx (g:GS) (a:Ag):(g.CL a).BN=g.BN:=rfl
theorem GS.FJ (g:GS):(g.CW).Ab.length=J g.Ab+1:=by
 exact GS.BS _ _
theorem GS.rE (g:GS):(g.CW).Ac=g.Ac:=rfl
theorem GS.Eg (g:GS) (l:Io):(g.Bd l).Ab.length=J g.Ab:=by
 simp[GS.Bd]
theorem GS.yA (g:GS) (l:Io):(g.Bd l).Ac=g.Ac:=rfl
theorem GS.rY (g:GS) (l:Io):(g.Bd l).BN=g.BN:=rfl
theorem GS.Rf (g:GS) (r k:Int):(g.lo r k).Ab.length=J g.Ab+1:=by
 exact GS.BS _ _
theorem GS.Aff (g:GS) (r k:Int):(g.lo r k).Ac=g.Ac:=rfl
theorem GS.ZD (g:GS) (r t i:Int):(g.SL r t i).Ab.length=J g.Ab+1:=by
 exact GS.BS _ _
theorem GS.yd (g:GS) (r t i:Int):(g.SL r t i).Ac=g.Ac:=rfl
theorem GS.l7 (g:GS) (r k:Int):(g.Pw r k).Ab.length=J g.Ab+1:=by
 exact GS.BS _ _
theorem GS.L8 (g:GS) (k:Int) (a:Ag):(g.st k a).Ab.length=J g.Ab+1:=by
 exact GS.BS _ _
theorem GS.kP (g:GS) (k:Int) (a:Ag):(g.st k a).BN=g.BN:=rfl
theorem GS.UO (g:GS) (t i:Int) (a:Ag):(g.I8 t i a).Ab.length=J g.Ab+1:=by
 exact GS.BS _ _
theorem GS.wA (g:GS) (t i:Int) (a:Ag):(g.I8 t i a).Ac=g.Ac:=rfl
theorem GS.AaO (g:GS) (k:Int) (a:Ag):(g.UP k a).Ab.length=J g.Ab+1:=by
 exact GS.BS _ _
theorem GS.Ov (g:GS) (r:Int):(g.Kd r).Ab.length=J g.Ab+1:=by
 exact GS.BS _ _
theorem GS.ax (g:GS) (r:Int):(g.Kd r).Ac=g.Ac:=rfl
theorem GS.dD (g:GS) (r:Int):(g.KJ r).Ab.length=J g.Ab+8:=by
 unfold GS.KJ;simp only[GS.Ov,GS.Lx,GS.Rf]
theorem GS.Zk (g:GS) (r:Int):(g.KJ r).Ac=g.Ac:=by unfold GS.KJ;simp only[GS.ax,GS.lF,GS.Aff]
theorem GS.cN (g:GS) (a:At) (r:Int):(g.Cn a r).Ac=g.Ac:=by unfold GS.Cn;split<;>rfl
theorem GS.L4 (g:GS) (a:At) (r:Int):(g.Cn a r).BN=g.BN:=by unfold GS.Cn;split<;>rfl
theorem GS.mT (g:GS):J g.SR.Ab=J g.Ab+18:=by
 unfold GS.SR;simp only[GS.Ov,GS.Lx,GS.dD,GS.LH,GS.FJ,GS.Eg,GS.ZD,GS.UO,GS.BS]
def GS.Ady (g:GS):GS:={g with Ah:=g.Ah+1}
def GS.fQ (g:GS):GS:={g with Ah:=g.Ah-1}
theorem GS.sA (g:GS):J g.Ady.Ab=J g.Ab:=rfl
theorem GS.oK (g:GS):J g.fQ.Ab=J g.Ab:=rfl
theorem GS.yO (g:GS):g.SR.Ac=g.Ac:=by
 unfold GS.SR;simp only[GS.ax,GS.lF,GS.Zk,GS.oE,GS.rE,GS.yA,GS.yd,GS.wA,GS.eR]
theorem GS.Dw (g:GS) (a:At) (r:Int):(g.Cn a r).Ab.length<=J g.Ab+1:=by
 unfold GS.Cn;split
 .rw[GS.Rf];omega
 .omega
def CK (b:Int):Prop:=0<=b/\b<=100000
theorem CK.eq {a:Int} (h:CK a) (e:b=a):CK b:=e▸h
theorem fM {k:Int} (h:CK b) (hk: -1000<=k/\k<=1000):wrap64 (b+k)=b+k:=by
 obtain⟨h1,h2⟩:=h;exact IntWalk.wrap64_in _ Y
theorem Af.YY (h:Af w L w' L') {b:Nat} (hb:w.heap.size<=b) (hn:b∉Er L') (i:Nat) (v:Value):Af w L (w'.setCell ⟨b,i,Z⟩ v) L':=
 ⟨h.Ak.mod ((Aw.refl [b] w').setCell (.inl EQ) v) (λx hx hm=>by rw[GE] at hm;subst hm;exact hn hx),h.mod.setCell (.inr hb) v,h.fp⟩
inductive tA (F:List (Nat×Obj)) (mb:Nat):List Value->List Io->Prop
 |nil:tA F mb [] []
 |cons {v:Value} {l:Io} {vs:List Value} {ls:List Io}:WY F v mb l->tA F mb vs ls->tA F mb (v::vs) (l::ls)
theorem tA.sub (h:tA F mb vs ls) (k:∀x,x∈F->x∈E):tA E mb vs ls:=by
 induction h with
 |nil=>exact .nil
 |cons a b ih=>exact .cons (a.sub k) ih
theorem tA.FY (h:tA F mb vs ls) (k:tA F mb us ms):tA F mb (vs++us) (ls++ms):=by
 induction h with
 |nil=>exact k
 |cons a b ih=>exact .cons a ih
structure VV (F:List (Nat×Obj)) (mb n:Nat) (vs:List Value) (ls:List Io):Prop where
 all:tA F mb vs ls
 lt:∀l,l∈ls->l.k<n
theorem VV.nil (F:List (Nat×Obj)) (mb n:Nat):VV F mb n [] []:=⟨.nil,EQ⟩
theorem VV.up {m:Nat} (h:VV F mb n vs ls) (k:∀x,x∈F->x∈E) (hn:n<=m):VV E mb m vs ls:=
 ⟨h.all.sub k,λl hl=>JQ (h.lt l hl) hn⟩
theorem VV.FY {m:Nat} (h:VV F mb n vs ls) (k:VV E mb m us ms) (hn:n<=m):VV (E++F) mb m (vs++us) (ls++ms):=
 ⟨(h.all.sub λ_ hx=>Jc _ hx).FY (k.all.sub λ_ hx=>IR _ hx),λl hl=>(Jq.1 hl).elim (λh1=>JQ (h.lt l h1) hn) (k.lt l)⟩
def StS (G':GS) (g:MG) (G:GS) (w:World) (e:Ending) (w':World):Prop:=
 e= qJ (qG #[])/\∃c a vs ls E,G'.BN=G.BN++ls/\Af w (g.Az G) w' (MG.Az {g with c:=c,a:=a,av:=g.av++vs} G')/\
  AY w' (MG.Az {g with c:=c,a:=a,av:=g.av++vs} G') E/\VV E g.mb (J G'.Ab) vs ls/\J vs+J G.Ab<=J G'.Ab
theorem Ad1 {x y z l1 l2:List Io} (h:y=x++l1) (k:z=y++l2):z=x++(l1++l2):=by rw[k,h,Jj]
theorem uA:(prog.info? 1).map (λi=>(i.zero,i.size,i.bytes))=U (U .nilFunc,1,8):=Fd
theorem NF (l:List Value) (v:Value):l++(#[v]:Array Value).toList=l++[v]:=rfl
theorem p9 (r:Int) (w:World) (g:MG) (G:GS) (h:Aq w (g.Az G)) (hn:J G.Ab<=1000000) (ha:J g.av<=J G.Ab):
  Calls prog 153 #[iJ g.mb,iI r] w (StS (G.Kd r) g G w):=by
 obtain⟨j0,hj,LP,KZ,MH⟩:=info_parts uA;have H:=D h;clear h;go_enter func153,ntmps153;go_wp2_with fail;refine(Vt _ _).mono ?_;rintro e w1 ⟨rfl,hm⟩;have S:=D (Af.quiet H hm);go_wp2_with fail;refine(dP (.r r) _ g G S.Ak hn).mono ?_;rintro e w2 ⟨ba,bm,bk,c,rfl,st,kn,_⟩;replace S:=D (S.trans st);have K:=D kn;obtain⟨hc,hf,hlt⟩:=Dj S.Ak;clear kn st hm;go_wp2_with (first|(at_builtin;refine A6 8 _ _ _ j0 _ #[.func (.func 154) #[] #[iJ ba,iJ bm,iJ bk]] _ S.Ak (k:=2) rfl Eq Eq underlying167 hj LP KZ MH rfl Y Eq Eq rfl (by simp[Value.oneCell']) (show J g.av+1<=maxLen by unfold maxLen;omega) (show(J g.av+1)*8<=_ by omega) ?_;intro g6 AI w6 Ay _;rw[NF] at Ay;have q1:=(Ay.Ak.Ao (i:=0) rfl).cell;have q2:=(Ay.Ak.Ao (i:=0) rfl).free;have q3:=(Ay.Ak.Ao (i:=0) rfl).lt;have FZ:=D Ay;clear Ay hc hf hlt))
 go_end0
 have Ay:=FZ.out;have t1:=Ay.Ak.set (i:=0) rfl 4 (qD (U ⟨g6,0,Z⟩) (J g.av+1) AI);have s2:=Ay.trans t1;have e:∀v,(g.av++[v]).length=J g.av+1:=λv=>EQ
 have s3:Af w2 (MG.Az {g with c:=c} (G.CL (.r r))) (w6.setCell ⟨g.mb,4,Z⟩ (qD (U ⟨g6,0,Z⟩) (J g.av+1) AI)) (MG.Az {g with c:=c,a:=⟨U ⟨g6,0,Z⟩,AI⟩,av:=g.av++[.func (.func 154) #[] #[iJ ba,iJ bm,iJ bk]]} (G.Kd r)):=by
  unfold MG.Az at s2⊢;rw[e];exact s2
 refine⟨rfl,c,⟨U ⟨g6,0,Z⟩,AI⟩,[.func (.func 154) #[] #[iJ ba,iJ bm,iJ bk]],[G.EN (.r r)],_,rfl,S.trans s3,K.step s3,?_⟩;refine⟨⟨.cons ?_ .nil,λl hl=>?_⟩,by rw[GS.Ov];simp;omega⟩
 .exact⟨ba,bm,bk,rfl,by simp[Pr],by simp[Ge],by simp[Gf,GS.EN]⟩
 .rw[GE] at hl;subst hl;rw[GS.Ov];exact JG _
theorem pV (a:At) (r:Int) (w:World) (g:MG) (G:GS) (h:Aq w (g.Az G)) (hn:J G.Ab<=1000000) (Fu:CK G.Ac) (hok:DP a):
  Calls prog 131 #[iJ g.mb,qH #[qF a.AX,iI a.v],iI r] w (zS (qH #[qF (GS.BF a r).Dd,iI (GS.BF a r).v]) (G.Cn a r) g G w):=by
 obtain⟨lc,v⟩:=a;have H:=D h;have hb:=D Fu;clear Fu;cases lc with
 |false=>
  clear h hok;go_enter func131,ntmps131;go_wp2_with fail;refine(ZO _ _).mono ?_;rintro e w1 ⟨rfl,hm⟩;have K:=(AY.new (AY.nil (w.alloc (qK #[qF I,iI v] 235)) []) (Aq.nil _) (qK #[qF I,iI 0] 264)).quiet hm;rw[Rt] at K;have k0:=K.cell (GE.2 rfl);have k1:=K.free (GE.2 rfl);go_wp2_with fail;refine bodyPost_ret (v:= qH #[qF I,iI v]) (by simp[results,results131,go_sem,k0]) rfl ⟨rfl,g.c,?_⟩;have m:=(((Aw.refl [] w).alloc _).alloc _).Aj hm;exact Af.quiet H ((m.setCell (.inr EQ) _).setCell (.inr EQ) _)
 |true=>
  have hv:0<=v/\v<4:=by simpa[DP] using hok
  clear h hok;go_enter func131,ntmps131;go_wp2_with fail;have m0:=((Aw.refl [] w).alloc (qK #[qF V,iI v] 235)).alloc (qK #[qF I,iI 0] 264);have S:=D (Af.quiet H m0);have kk:=(AY.new (AY.nil (w.alloc (qK #[qF V,iI v] 235)) (g.Az G)) (Af.alloc H _).Ak (qK #[qF I,iI 0] 264));rw[Rt] at kk;have K:=D kk;clear kk m0;refine(lN v _ g G S.Ak (fM hb Y)).mono ?_;rintro e w1 ⟨rfl,hm⟩;replace K:=D (K.quiet hm);replace S:=D (S.trans (Af.quiet S.Ak hm));clear hm;go_wp2_with fail;refine(Od r (.n (G.Ac+v)) 0 _ g G S.Ak hn).mono ?_;rintro e w2 ⟨rfl,c,st⟩;replace K:=D (K.step st);replace S:=D (S.trans st);clear st;go_wp2_with fail;refine(Vt r _).mono ?_;rintro e w3 ⟨rfl,hm⟩;replace K:=D (K.quiet hm);replace S:=D (S.trans (Af.quiet S.Ak hm));clear hm;have k0:=K.cell (GE.2 rfl);have k1:=K.free (GE.2 rfl);go_wp2_with fail;refine bodyPost_ret (v:= qH #[qF V,iI r]) (by simp[results,results131,go_sem,k0]) rfl ⟨rfl,c,?_⟩;have hk:=K.out.out _ _ (GE.2 rfl);have hle:w.heap.size<=w.heap.size+1:=JJ _;exact(S.YY hle hk 0 _).YY hle hk 1 _
def Et (F:List (Nat×Obj)) (sl:Value) (ws:List Value):Prop:=
 (ws=[]/\∃p c,sl= qD p 0 c)\/∃b c T,∃IZ:Array Value,sl= qD (U ⟨b,0,Z⟩) (J ws) c/\(b,qK IZ T (0,0))∈F/\ws=IZ.toList.take (J ws)
def D8 (F:List (Nat×Obj)):Bj->List Value->Prop
 |.nil,vs=>vs=[]
 |.set v op a b r,vs=>∃p us,vs=.iface 233 (iJ p)::us/\(p,qK #[iI v,qE op,qF a.AX,iI a.v,qF b.AX,iI b.v] 238 (0,0))∈F/\D8 F r us
 |.get v f s a r,vs=>∃p us,vs=.iface 243 (iJ p)::us/\(p,qK #[iI v,iI f,iI s,qF a.AX,iI a.v] 245 (0,0))∈F/\D8 F r us
 |.put f s i a r,vs=>∃p us,vs=.iface 246 (iJ p)::us/\(p,qK #[iI f,iI s,qF i.AX,iI i.v,qF a.AX,iI a.v] 248 (0,0))∈F/\D8 F r us
 |.out a r,vs=>∃p us,vs=.iface 249 (iJ p)::us/\(p,qK #[qF a.AX,iI a.v] 251 (0,0))∈F/\D8 F r us
 |.atomic b r,vs=>∃p us sl ws,vs=.iface 253 (iJ p)::us/\(p,qK #[sl] 255 (0,0))∈F/\Et F sl ws/\D8 F b ws/\D8 F r us
 |.Ew a b r,vs=>∃p us sl ws,vs=.iface 256 (iJ p)::us/\(p,qK #[qF a.AX,iI a.v,sl] 258 (0,0))∈F/\Et F sl ws/\D8 F b ws/\D8 F r us
 |.loop n b r,vs=>∃p us sl ws,vs=.iface 259 (iJ p)::us/\(p,qK #[iI n,sl] 261 (0,0))∈F/\Et F sl ws/\D8 F b ws/\D8 F r us
theorem Et.sub (h:Et F sl ws) (k:∀x,x∈F->x∈E):Et E sl ws:=by
 rcases h with h|⟨b,c,T,IZ,h1,h2,h3⟩
 .exact .inl h
 .exact .inr ⟨b,c,T,IZ,h1,k _ h2,h3⟩
theorem D8.sub (h:D8 F t vs) (k:∀x,x∈F->x∈E):D8 E t vs:=by
 induction t generalizing vs with
 |nil=>exact h
 |set v op a b r ih=>obtain⟨p,us,h1,h2,h3⟩:=h;exact⟨p,us,h1,k _ h2,ih h3⟩
 |get v f s a r ih=>obtain⟨p,us,h1,h2,h3⟩:=h;exact⟨p,us,h1,k _ h2,ih h3⟩
 |put f s i a r ih=>obtain⟨p,us,h1,h2,h3⟩:=h;exact⟨p,us,h1,k _ h2,ih h3⟩
 |out a r ih=>obtain⟨p,us,h1,h2,h3⟩:=h;exact⟨p,us,h1,k _ h2,ih h3⟩
 |atomic b r ib ih=>obtain⟨p,us,sl,ws,h1,h2,h3,h4,h5⟩:=h;exact⟨p,us,sl,ws,h1,k _ h2,h3.sub k,ib h4,ih h5⟩
 |Ew a b r ib ih=>obtain⟨p,us,sl,ws,h1,h2,h3,h4,h5⟩:=h;exact⟨p,us,sl,ws,h1,k _ h2,h3.sub k,ib h4,ih h5⟩
 |loop n b r ib ih=>obtain⟨p,us,sl,ws,h1,h2,h3,h4,h5⟩:=h;exact⟨p,us,sl,ws,h1,k _ h2,h3.sub k,ib h4,ih h5⟩
theorem Et.Mq (h:Et F sl ws):∃p c,sl= qD p (J ws) c:=by
 rcases h with⟨rfl,p,c,rfl⟩|⟨b,c,T,IZ,h1,_,_⟩
 .exact⟨p,c,rfl⟩
 .exact⟨_,c,h1⟩
theorem Et.AN {p:Option Addr} {c:Nat} (h:Et F (qD p n c) ws) {w:World} {L:List Ob} (K:AY w L F) {k:Nat} {v:Value} {us:List Value} (hk:ws.drop k=v::us):
  n=J ws/\k<n/\∃b,p=U ⟨b,0,Z⟩/\w.cell? ⟨b,k,Z⟩=U v:=by
 have hlt:k<J ws:=by
  rcases jR k (J ws) with h|h
  .exact h
  .rw[List.drop_eq_nil_of_le h] at hk;cases hk
 have hv:ws[k]?=U v:=by
  have:=JM List.head? hk;rwa[List.head?_drop,j9] at this
 rcases h with⟨rfl,_⟩|⟨b,c',T,IZ,h1,h2,h3⟩
 .simp at hlt
 .cases h1;refine⟨rfl,hlt,b,rfl,?_⟩;rw[K.cell h2];rw[h3,jV,Jd hlt,Array.getElem?_toList] at hv;exact hv
def Fx:Bj->Nat
 |.nil=>0
 |.set _ _ _ _ r=>1+Fx r
 |.get _ _ _ _ r=>1+Fx r
 |.put _ _ _ _ r=>1+Fx r
 |.out _ r=>1+Fx r
 |.atomic b r=>1+Fx b+Fx r
 |.Ew _ b r=>1+Fx b+Fx r
 |.loop _ b r=>1+Fx b+Fx r
def ox:Bj->Bj
 |.nil=> .nil
 |.set v op a b _=> .set v op a b .nil
 |.get v f s a _=> .get v f s a .nil
 |.put f s i a _=> .put f s i a .nil
 |.out a _=> .out a .nil
 |.atomic b _=> .atomic b .nil
 |.Ew a b _=> .Ew a b .nil
 |.loop n b _=> .loop n b .nil
def tlS:Bj->Bj
 |.nil=> .nil
 |.set _ _ _ _ r=>r
 |.get _ _ _ _ r=>r
 |.put _ _ _ _ r=>r
 |.out _ r=>r
 |.atomic _ r=>r
 |.Ew _ _ r=>r
 |.loop _ _ r=>r
theorem D8.len (h:D8 F t vs):J vs<=Fx t:=by
 induction t generalizing vs with
 |nil=>rw[h];simp
 |set v op a b r ih=>obtain⟨p,us,rfl,_,h3⟩:=h;have:=ih h3;simp[Fx];omega
 |get v f s a r ih=>obtain⟨p,us,rfl,_,h3⟩:=h;have:=ih h3;simp[Fx];omega
 |put f s i a r ih=>obtain⟨p,us,rfl,_,h3⟩:=h;have:=ih h3;simp[Fx];omega
 |out a r ih=>obtain⟨p,us,rfl,_,h3⟩:=h;have:=ih h3;simp[Fx];omega
 |atomic b r _ ih=>obtain⟨p,us,sl,ws,rfl,_,_,_,h3⟩:=h;have:=ih h3;simp[Fx];omega
 |Ew a b r _ ih=>obtain⟨p,us,sl,ws,rfl,_,_,_,h3⟩:=h;have:=ih h3;simp[Fx];omega
 |loop n b r _ ih=>obtain⟨p,us,sl,ws,rfl,_,_,_,h3⟩:=h;have:=ih h3;simp[Fx];omega
theorem gM (k:Nat) (hk:k<=1000):wrap64 ((k:Int)+1)=k+1:=IntWalk.wrap64_in _ Y
theorem D8.hd {v:Value} (h:D8 F t (v::us)):D8 F (ox t) [v]/\D8 F (tlS t) us:=by
 cases t with
 |nil=>cases h
 |set _ op a b r=>obtain⟨p,q,h1,h2,h3⟩:=h;cases h1;exact⟨⟨p,[],rfl,h2,rfl⟩,h3⟩
 |get _ f s a r=>obtain⟨p,q,h1,h2,h3⟩:=h;cases h1;exact⟨⟨p,[],rfl,h2,rfl⟩,h3⟩
 |put f s i a r=>obtain⟨p,q,h1,h2,h3⟩:=h;cases h1;exact⟨⟨p,[],rfl,h2,rfl⟩,h3⟩
 |out a r=>obtain⟨p,q,h1,h2,h3⟩:=h;cases h1;exact⟨⟨p,[],rfl,h2,rfl⟩,h3⟩
 |atomic b r=>obtain⟨p,q,sl,ws,h1,h2,h3,h4,h5⟩:=h;cases h1;exact⟨⟨p,[],sl,ws,rfl,h2,h3,h4,rfl⟩,h5⟩
 |Ew a b r=>obtain⟨p,q,sl,ws,h1,h2,h3,h4,h5⟩:=h;cases h1;exact⟨⟨p,[],sl,ws,rfl,h2,h3,h4,rfl⟩,h5⟩
 |loop n b r=>obtain⟨p,q,sl,ws,h1,h2,h3,h4,h5⟩:=h;cases h1;exact⟨⟨p,[],sl,ws,rfl,h2,h3,h4,rfl⟩,h5⟩
abbrev TaY (T:TypeId):Prop:=∀(p:Value) (w:World),(Instr.typeAssert (.iface T p) 208 T V).run prog w=.ok (qG #[p,qF V]) w
abbrev PJ (T Z99:TypeId):Prop:=∀(p:Value) (w:World),(Instr.typeAssert (.iface T p) 208 Z99 V).run prog w=.ok (qG #[qI Z,qF I]) w
theorem YL:TaY 233:=λ_ _=>Fd
theorem oS:PJ 233 246:=λ_ _=>Fd
theorem oT:PJ 233 249:=λ_ _=>Fd
theorem cQ:PJ 233 256:=λ_ _=>Fd
theorem W7:PJ 233 259:=λ_ _=>Fd
theorem bB:PJ 233 253:=λ_ _=>Fd
theorem oY:PJ 243 233:=λ_ _=>Fd
theorem o5:TaY 243:=λ_ _=>Fd
theorem oZ:PJ 243 246:=λ_ _=>Fd
theorem o4:PJ 243 249:=λ_ _=>Fd
theorem cT:PJ 243 256:=λ_ _=>Fd
theorem Xa:PJ 243 259:=λ_ _=>Fd
theorem bD:PJ 243 253:=λ_ _=>Fd
theorem oU:PJ 246 233:=λ_ _=>Fd
theorem oX:PJ 246 243:=λ_ _=>Fd
theorem YM:TaY 246:=λ_ _=>Fd
theorem oW:PJ 246 249:=λ_ _=>Fd
theorem wh:PJ 246 256:=λ_ _=>Fd
theorem kI:PJ 246 259:=λ_ _=>Fd
theorem bC:PJ 246 253:=λ_ _=>Fd
theorem YN:PJ 249 233:=λ_ _=>Fd
theorem YO:PJ 249 243:=λ_ _=>Fd
theorem TB:PJ 249 246:=λ_ _=>Fd
theorem TC:TaY 249:=λ_ _=>Fd
theorem wj:PJ 249 256:=λ_ _=>Fd
theorem kJ:PJ 249 259:=λ_ _=>Fd
theorem wk:PJ 256 233:=λ_ _=>Fd
theorem wq:PJ 256 243:=λ_ _=>Fd
theorem cR:PJ 256 246:=λ_ _=>Fd
theorem cS:PJ 256 249:=λ_ _=>Fd
theorem YP:TaY 256:=λ_ _=>Fd
theorem kK:PJ 259 233:=λ_ _=>Fd
theorem kL:PJ 259 243:=λ_ _=>Fd
theorem W8:PJ 259 246:=λ_ _=>Fd
theorem W9:PJ 259 249:=λ_ _=>Fd
theorem TD:PJ 259 256:=λ_ _=>Fd
theorem OL:TaY 259:=λ_ _=>Fd
theorem bE:PJ 253 233:=λ_ _=>Fd
theorem bF:PJ 253 243:=λ_ _=>Fd
theorem Tb:PJ 253 246:=λ_ _=>Fd
theorem Tc:PJ 253 249:=λ_ _=>Fd
theorem OM:PJ 253 256:=λ_ _=>Fd
theorem L6:PJ 253 259:=λ_ _=>Fd
theorem NX:TaY 253:=λ_ _=>Fd
theorem Abn (F:List (Nat×Obj)) (w:World) (L:List Ob) (hK:AY w L F) (n:Nat) (hn9:n<=1000):∀(t:Bj) (sl:Value) (vs:List Value),Fx t<=n->Et F sl vs->D8 F t vs->
  Calls prog 155 #[sl] w λe w'=>e= qJ (qF (BV t))/\w'=w:=by
 induction n using Nat.strongRecOn with
 |_ n ih=>
 intro t sl vs hn hr hs;have hlen:J vs<=1000:=by have:=hs.len;omega
 obtain⟨p,c,rfl⟩:=hr.Mq;have Hr:=D hr;have Hs:=D hs;have HK:=D hK;have IH:=D ih;clear hr hs hK ih;go_enter func155,ntmps155;go_wp2
 go_loop [10] (λi=>∃(k:Nat) (t':Bj),i= iI k/\k<=J vs/\D8 F t' (vs.drop k)/\BV t=BV t'/\Fx t'<=n) (λi=>J vs-(intOf i).toNat)
 case atStart=>exact⟨0,t,rfl,Jo _,Hs,rfl,hn⟩
 case round=>
  obtain⟨k,t',rfl,hk,Ay,hpt,Ib⟩:=hrel;have aT:=D hpt;clear hpt;cases hd:vs.drop k with
  |nil=>
   rw[hd] at Ay;have Lo:¬k<(J vs:Int):=by have:=RK.1 hd;omega
   have ht:BV t'=I:=by
    exact man
   have Ht:=D ht;clear ht Ay hd;go_wp2;go_ret;rw[aT.out,Ht.out];exact⟨rfl,rfl⟩
  |cons v us=>
   obtain⟨_,VX,b,hp,KT⟩:=Hr.AN HK hd;subst hp;have Lo:k<(J vs:Int):=Y
   have eE:us=vs.drop (k+1):=by rw[<-i7,hd];rfl
   rw[hd] at Ay;have vD:=D eE;clear hd eE;have inc:=gM k Y;cases t' with
   |nil=>cases Ay
   |set v0 op a b0 r=>
    obtain⟨q,us',h1,h2,h3⟩:=Ay;cases h1;have ta1:=oS;have ta2:=cQ;have ta3:=W7;have H3:=D h3;clear h3 h2;simp only[Fx] at Ib;go_wp2_with fail
    go_round
    case rel=>(try rw[inc]);exact⟨k+1,r,rfl,Y,vD.out▸H3.out,aT,Y⟩
    case measure=>(try rw[inc]);simp[intOf];omega
   |get v0 f s a r=>
    obtain⟨q,us',h1,h2,h3⟩:=Ay;cases h1;have ta1:=oZ;have ta2:=cT;have ta3:=Xa;have H3:=D h3;clear h3 h2;simp only[Fx] at Ib;go_wp2_with fail
    go_round
    case rel=>(try rw[inc]);exact⟨k+1,r,rfl,Y,vD.out▸H3.out,aT,Y⟩
    case measure=>(try rw[inc]);simp[intOf];omega
   |out a r=>
    obtain⟨q,us',h1,h2,h3⟩:=Ay;cases h1;have ta1:=TB;have ta2:=wj;have ta3:=kJ;have H3:=D h3;clear h3 h2;simp only[Fx] at Ib;go_wp2_with fail
    go_round
    case rel=>(try rw[inc]);exact⟨k+1,r,rfl,Y,vD.out▸H3.out,aT,Y⟩
    case measure=>(try rw[inc]);simp[intOf];omega
   |atomic b r=>
    obtain⟨q,us',sl',ws,h1,h2,h3,h4,h5⟩:=Ay;cases h1;have ta1:=Tb;have ta2:=OM;have ta3:=L6;have H5:=D h5;clear h3 h4 h5 h2;simp only[Fx] at Ib;go_wp2_with fail
    go_round
    case rel=>(try rw[inc]);exact⟨k+1,r,rfl,Y,vD.out▸H5.out,aT,Y⟩
    case measure=>(try rw[inc]);simp[intOf];omega
   |put f s i a r=>
    obtain⟨q,us',h1,h2,h3⟩:=Ay;cases h1;have ta1:=YM;clear h3 h2;go_wp2;go_ret;rw[aT.out];exact⟨rfl,rfl⟩
   |Ew a b r=>
    obtain⟨q,us',sl',ws,h1,h2,h3,h4,h5⟩:=Ay;cases h1;have ta1:=cR;have ta2:=YP;have H3:=D h3;have H4:=D h4;have H5:=D h5;have kq:=HK.cell h2;clear h3 h4 h5 h2;simp only[Fx] at Ib;obtain⟨p',c',rfl⟩:=H3.Mq;go_wp2_with fail;refine(IH (Fx b) Y Y b _ ws (Jf _) H3 H4).mono ?_;rintro e w' ⟨rfl,rfl⟩;cases MS:BV b with
    |true=>
     go_wp2_with fail;go_ret;rw[aT.out];simp[BV,MS]
    |false=>
     exact maS
   |loop m b r=>
    obtain⟨q,us',sl',ws,h1,h2,h3,h4,h5⟩:=Ay;cases h1;have ta1:=W8;have ta2:=TD;have ta3:=OL;have H3:=D h3;have H4:=D h4;have H5:=D h5;have kq:=HK.cell h2;clear h3 h4 h5 h2;simp only[Fx] at Ib;obtain⟨p',c',rfl⟩:=H3.Mq;go_wp2_with fail;refine(IH (Fx b) Y Y b _ ws (Jf _) H3 H4).mono ?_;rintro e w' ⟨rfl,rfl⟩;cases MS:BV b with
    |true=>
     go_wp2_with fail;go_ret;rw[aT.out];simp[BV,MS]
    |false=>
     exact maS
def HY (F:List (Nat×Obj)):List Bj->List Value->Prop
 |[],vs=>vs=[]
 |t::r,vs=>∃sl ws us,vs=sl::us/\Et F sl ws/\D8 F t ws/\HY F r us
theorem HY.len (h:HY F ts vs):J vs=J ts:=by
 induction ts generalizing vs with
 |nil=>rw[h];rfl
 |cons t r ih=>obtain⟨sl,ws,us,rfl,_,_,h3⟩:=h;rw[Jg,Jg,ih h3]
theorem HY.AN (h:HY F ts vs) (k:Nat) (hk:k<J ts):∃sl ws us,vs.drop k=sl::us/\Et F sl ws/\D8 F (ts.getD k .nil) ws:=by
 induction ts generalizing vs k with
 |nil=>simp at hk
 |cons t r ih=>
  obtain⟨sl,ws,us,rfl,h1,h2,h3⟩:=h;cases k with
  |zero=>exact⟨sl,ws,us,rfl,h1,h2⟩
  |succ k=>exact ih h3 k (by simpa using hk)
def Eo (c:UInt8):Prop:=48<=c.toNat/\c.toNat<=57
instance Aj7 (c:UInt8):Decidable (Eo c):=inferInstanceAs (Decidable (_/\_))
def stp (a:Nat) (c:UInt8):Nat:=10*a+(c.toNat-48)
theorem Ahn (a:Nat) (c:UInt8):stp a c=10*a+(c.toNat-48):=by grind [stp]
def Pn (a:Nat) (l:By):Nat:=l.foldl stp a
theorem IY (a:Nat):Pn a []=a:=by grind [Pn]
theorem FB (a:Nat) (c:UInt8) (r:By):Pn a (c::r)=Pn (10*a+(c.toNat-48)) r:=by rw[<-Ahn];grind [Pn]
theorem su (l:By):∀a,a<=Pn a l:=by
 induction l<;>grind [IY,FB]
theorem aC (l m:By):∀a,Pn a (l++m)=Pn (Pn a l) m:=by
 induction l with
 |nil=>intro a;rfl
 |cons c r ih=>grind [FB]
theorem Sv (l:By):∀a,Pn a l=a*10 ^ J l+Pn 0 l:=by
 induction l<;>grind [IY,FB]
theorem aB (l:By) (h:∀c,c∈l->Eo c):Pn 0 l<10 ^ J l:=by
 induction l with
 |nil=>simp[IY]
 |cons c r ih=>
  simp only[IY,FB,Jg];rw[Sv,Nat.pow_succ];have h1:=ih λc hc=>h c (Id _ hc)
  have h2:Eo c:=h c (Je ..);have h3:c.toNat-48<=9:=by have:=h2.2;omega
  have h4:(10*0+(c.toNat-48))*10 ^ J r<=9*10 ^ J r:=Qu _ Y;omega
theorem Hh (u:Nat):∀c,c∈Lib.decDigits u->Eo c:=by
 induction u using Nat.strongRecOn<;>grind [Lib.decDigits,Eo,UInt8.toNat_ofNat']
theorem Gy (u:Nat):Pn 0 (Lib.decDigits u)=u:=by
 induction u using Nat.strongRecOn<;>grind [Lib.decDigits,IY,FB,UInt8.toNat_ofNat',aC]
theorem O8 (u:Nat):Lib.decDigits u≠[]:=by
 rw[Lib.decDigits];split<;>simp
theorem RH (u:Nat):(Lib.decDigits u).headD 0=48->u=0:=by
 induction u using Nat.strongRecOn with
 |_ u ih=>
  intro h;rw[Lib.decDigits] at h;grind [congrArg UInt8.toNat h,UInt8.toNat_ofNat',Lib.decDigits]
theorem VF (l:By) (h:∀c,c∈l->Eo c) (hne:l≠[]) (hh:l.headD 0=48->J l=1):Lib.decDigits (Pn 0 l)=l:=by
 obtain⟨n,hn⟩:∃n,n=J l:=⟨_,rfl⟩;induction n generalizing l with
 |zero=>exact Jk (Jn hn.symm) hne
 |succ n ih=>
  rcases Jw l with h0|⟨r,c,h0⟩
  .exact Jk h0 hne
  .rw[Jz] at h0;subst h0;have hc:Eo c:=h c EQ;have e:c=UInt8.ofNat (48+(c.toNat-48)):=by
    have:=hc.1;rw[show 48+(c.toNat-48)=c.toNat by omega,UInt8.ofNat_toNat]
   have Ys:=hc.1;have Wy:=hc.2;cases r with
   |nil=>
    simp only[JF,IY,FB,Nat.mul_zero,JU];rw[Lib.decDigits,dif_pos Y,<-e]
   |cons a q=>
    have hr:=ih (a::q) (λx hx=>h x (IR _ hx)) EQ (λh1=>by
      have:=hh (by simpa using h1);simp at this) (by simp at hn⊢;omega)
    rw[aC];simp only[IY,FB] at hr⊢;generalize hz:Pn (10*0+(a.toNat-48)) q=z at hr⊢;have LP:1<=z:=by
     have ha:Eo a:=h a EQ;have h1:=su q (10*0+(a.toNat-48));have:a.toNat≠48:=λh2=>by
      have:a=48:=UInt8.toNat_inj.1 h2;have:=hh (by simpa using this);grind
     have:=ha.1;omega
    rw[Lib.decDigits,dif_neg Y,show(10*z+(c.toNat-48)) / 10=z by omega,show(10*z+(c.toNat-48)) % 10=c.toNat-48 by omega,hr,<-e]
theorem lJ (b:Bool) (l:By):∀(a:Int) (v:Int),ED b l a=U v->∀c,c∈l->Eo c:=by
 induction l<;>grind [ED,Eo]
theorem TU (b:Bool) (l:By) (h:∀c,c∈l->Eo c):∀a:Nat,(Pn a l<=if b then 9223372036854775808 else 9223372036854775807)->ED b l (if b then -(a:Int) else a)=U (if b then -(Pn a l:Int) else (Pn a l:Int)):=by
 induction l with
 |nil=>intro a _;rw[IY];rfl
 |cons c r ih=>
  intro a ha;have hc:Eo c:=AC;obtain⟨h1,h2⟩:=hc;have bX:=su r (10*a+(c.toNat-48));simp only[FB] at ha⊢;rw[<-ih AC _ ha]
  conv=>lhs;unfold ED
  rw[In Y];congr 1;grind [wrap64]
theorem Afl (l m:By) (hl:∀c,c∈l->Eo c) (hm:∀c,c∈m->Eo c) (he:J l=J m):Op.bytesLess l m=decide (Pn 0 l<Pn 0 m):=by
 induction l generalizing m with
 |nil=>
  cases m with
  |nil=>rfl
  |cons=>cases he
 |cons a x ih=>
  cases m with
  |nil=>cases he
  |cons b y=>
   have ha:Eo a:=AC;have hb:Eo b:=AC;have hx:=aB x AC;have hy:=aB y AC;have BG:J x=J y:=AC
   have ih:=ih y (λc hc=>hl c (Id _ hc)) (λc hc=>hm c (Id _ hc)) BG;simp only[Op.bytesLess,FB];rw[Sv x,Sv y,ih,<-BG];rw[<-BG] at hy;obtain⟨a1,a2⟩:=ha;obtain⟨b1,b2⟩:=hb;generalize 10 ^ J x=P at*;generalize Pn 0 x=u at*;generalize Pn 0 y=v at*;have e1:a<b<->a.toNat<b.toNat:=UInt8.lt_iff_toNat_lt;have e2:a=b<->a.toNat=b.toNat:=UInt8.toNat_inj.symm;rw[Q5];simp only[QU,JB,JD,Q4,e1,e2];generalize a.toNat=i at*;generalize b.toNat=j at*;simp only[Nat.mul_zero,JU];constructor
   .rintro(h|⟨rfl,h⟩)
    .exact mbD
    .omega
   .intro h;rcases jA i j with h'|h'|h';grind;grind
    .exact mbE
theorem AbX:Pn 0 Ll=9223372036854775807:=by decide+kernel
theorem AbY:Pn 0 Lm=9223372036854775808:=by decide+kernel
theorem xA:∀c,c∈Ll->Eo c:=by decide+kernel
theorem xB:∀c,c∈Lm->Eo c:=by decide+kernel
theorem AiQ (l m:By) (hl:∀c,c∈l->Eo c) (hm:∀c,c∈m->Eo c) (he:J l=J m) (h:Pn 0 l=Pn 0 m):l=m:=by
 induction l generalizing m with
 |nil=>
  grind
 |cons a x ih=>
  cases m with
  |nil=>cases he
  |cons b y=>
   have ha:Eo a:=AC;have hb:Eo b:=AC;have hx:=aB x AC;have hy:=aB y AC;have BG:J x=J y:=AC
   simp only[IY,FB] at h;rw[Sv x,Sv y,<-BG] at h;rw[<-BG] at hy;have ih:=ih y (λc hc=>hl c (Id _ hc)) (λc hc=>hm c (Id _ hc)) BG;obtain⟨a1,a2⟩:=ha;obtain⟨b1,b2⟩:=hb;have e2:a=b<->a.toNat=b.toNat:=UInt8.toNat_inj.symm;have UG:a=b:=by
    rw[e2];generalize a.toNat=i at*;generalize b.toNat=j at*;generalize 10 ^ J x=P at*;generalize Pn 0 x=u at*;generalize Pn 0 y=v at*;simp only[Nat.mul_zero,JU] at h;rcases jA i j with h'|h'|h'
    .exact mbD
    .exact h'
    .exact mbE
   subst UG;rw[ih Y]
theorem xC (b:Bool):(if b then Lm else Ll).length=19:=by cases b<;>rfl
theorem AbZ (b:Bool):Pn 0 (if b then Lm else Ll)=if b then 9223372036854775808 else 9223372036854775807:=by
 grind [AbX,AbY]
theorem xD (b:Bool):∀c,c∈(if b then Lm else Ll)->Eo c:=by
 grind [xA,xB]
theorem TW (b:Bool) (t:By) (h:∀c,c∈t->Eo c):Gc b t (if b then Lm else Ll)=I<->t≠[]/\Pn 0 t<=(if b then 9223372036854775808 else 9223372036854775807)/\(t.headD 0=48->J t=1/\b=I):=by
 have hl:=xC b;have hd:=AbZ b;have hg:=xD b;generalize (if b then Lm else Ll)=m at*;rw[<-hd];by_cases hn:t=[];grind [Gc]
 .have hp:0<J t:=AC;have hle:(¬J m<J t/\¬(J t=J m/\Op.bytesLess t m=I/\t≠m))<->(J t<=19/\Pn 0 t<=Pn 0 m):=by
   rw[hl];by_cases h1:19<J t;grind
   .by_cases h2:J t=19;grind [Afl,AiQ]
    .constructor
     .intro hh;refine⟨Y,?_⟩;have h3:=aB t h;have h4:10 ^ J t<=10 ^ 18:=Nat.pow_le_pow_right Do Y;rw[hd];split<;>omega
     grind
  have hlen:Pn 0 t<=Pn 0 m->(t.headD 0=48->J t=1/\b=I)->J t<=19:=by
   intro h1 h2;cases t with
   |nil=>grind
   |cons a x=>
    by_cases ha:a=48;grind
    .have had:Eo a:=AC;have:a.toNat≠48:=λe=>ha (UInt8.toNat_inj.1 e)
     have h48:=had.1;simp only[IY,FB] at h1;rw[Sv] at h1;rcases jR 19 (a::x).length with h3|h3
     .exfalso;simp only[Jg] at h3;have h4:10 ^ 19<=10 ^ J x:=Nat.pow_le_pow_right Do Y;have h5:1*10 ^ J x<=(10*0+(a.toNat-48))*10 ^ J x:=Qu _ Y;rw[hd] at h1;have h6:(if b=V then 9223372036854775808 else 9223372036854775807)<=9223372036854775808:=by cases b<;>decide
      omega
     .exact h3
  have hne:t.isEmpty=I:=AC
  have hr:Gc b t m=I<->(¬J m<J t/\¬(J t=J m/\Op.bytesLess t m=I/\t≠m))/\(t.headD 0=48->J t=1/\b=I):=by
   grind [Gc]
  rw[hr,hle];grind
theorem Adx (t:By) (h:∀c,c∈t->Eo c):(t.headD 0==45)=I:=by
 cases t with
 |nil=>rfl
 |cons a r=>
  have:=(h a AC).1;rw[Jh];intro h';have:a=45:=h';subst this<;>grind
theorem KM (v:Int) (h0: -9223372036854775808<=v) (h1:v<=9223372036854775807):number (Lib.itoa v)=U v:=by
 unfold Lib.itoa;by_cases hv:v<0
 .rw[Jd hv];obtain⟨n,hn⟩:∃n,n=v.natAbs:=AC;rw[<-hn];have hd:=Hh n;unfold number;simp only[List.headD_cons,beq_self_eq_true,Qf,List.tail_cons];have hb:=(TW V (Lib.decDigits n) hd).2 ⟨O8 n,by rw[Gy];grind,λhh=>by have:=RH n hh;omega⟩;simp only[Qf] at hb;rw[hb];have:=TU V (Lib.decDigits n) hd 0 (by rw[Gy];grind);simp only[Qf,Int.natCast_zero,Int.neg_zero,Gy] at this;grind
 grind [Hh,number,Adx,TW,Lib.decDigits,Gy,RH,TU]
theorem lH {l:By} (h:number l=U v): -9223372036854775808<=v/\v<=9223372036854775807/\Lib.itoa v=l:=by
 unfold number at h;simp only[] at h;generalize hb:(l.headD 0==45)=b at h;by_cases NL:Gc b (if b=V then l.tail else l) (if b=V then Lm else Ll)=V
 .rw[Jd NL] at h;cases h
 .rw[In NL] at h;have NL:=i6.2 NL;have hd:=lJ _ _ _ _ h;obtain⟨n1,n2,n3⟩:=(TW b _ hd).1 NL;have hv:=TU b _ hd 0 n2;have e0:(if b then -((0:Nat):Int) else ((0:Nat):Int))=0:=by cases b<;>rfl
  rw[e0,h] at hv;have hv:=Option.some.inj hv;cases b with
  |false=>
   simp only[Qd,J7] at*;have e:=VF l hd n1 λhh=>(n3 hh).1
   refine⟨Y,Y,?_⟩;unfold Lib.itoa;rw[In Y,hv,JW,e]
  |true=>
   simp only[Qf] at*;have e:=VF l.tail hd n1 λhh=>Jk (n3 hh).2 Do
   have XH:0<Pn 0 l.tail:=by
    rcases Q1 (Pn 0 l.tail) with h0|h0
    .rw[h0] at e;have e':Lib.decDigits 0=[48]:=by rw[Lib.decDigits];rfl
     rw[e'] at e;exact Jk (n3 (by rw[<-e];rfl)).2 Do
    .exact h0
   refine⟨Y,Y,?_⟩;unfold Lib.itoa;rw[Jd Y,hv,Int.natAbs_neg,Int.natAbs_natCast,e];cases l<;>grind
theorem lC (l:By) (h:∀c,c∈l->Eo c):∀a:Nat,Pn a l<18446744073709551616->Lib.parseUint10 a l=.ok (Pn a l):=by
 induction l<;>grind [IY,Eo,List.mem_cons_self,su,FB,Lib.parseUint10]
theorem zE (v:Int) (h0: -9223372036854775808<=v) (h1:v<=9223372036854775807):Lib.atoiAll (Lib.itoa v)=.ok v:=by
 unfold Lib.itoa;by_cases hv:v<0;grind [Hh,Lib.atoiAll,Lib.parseMag,O8,lC,Gy]
 .rw[In hv];have hd:=Hh v.toNat;cases hl:Lib.decDigits v.toNat<;>grind [O8,Eo,List.mem_cons_self,Lib.atoiAll,Lib.parseMag,lC,Gy]
theorem TT (l:By) (v:Int):number l=U v<->Lib.parseIntB 64 l=.ok v/\Lib.itoa v=l:=by
 rw[Lib.parseIntB_64];constructor;grind [lH,zE]
 .rintro⟨h1,h2⟩;rw[<-Lib.parseIntB_64] at h1;grind [Lib.parseIntB_bounds h1,KM]
