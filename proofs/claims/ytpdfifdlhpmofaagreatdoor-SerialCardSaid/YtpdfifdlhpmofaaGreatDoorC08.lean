/- Part 8 of the proof. -/
import Derived.Test.YtpdfifdlhpmofaaGreatDoorC05
set_option linter.unusedVariables false
set_option linter.unusedSimpArgs false
set_option maxHeartbeats 0
set_option maxRecDepth 99999
namespace Go.Proofs.YtpdfifdlhpmofaaGreatDoor
open Go.RowKit Tryz
open Value renaming slice->m9,string->qA,bool->qB,tuple->qC,agg->qD,pointer->qE
open Ending renaming returned->qF
open Obj renaming cells->qG
open Option renaming none->Z,some->U
open Bool renaming true->V,false->I
open Go.Lib renaming hid->D
open List renaming length->J
theorem mak {p:Prop} (h:p:=by
 refine(uC _ (RJ s1.Ak N.hL)).mono ?_;rintro e w2 ⟨rfl,FM⟩;have s2:=s1.trans (Ai.quiet s1.Ak FM);clear s1 FM c0 c1 hlt hpl Ni uC;obtain⟨⟨hXc,hXf,hxl,hx1,hx2⟩,⟨hrc,hrpc,hrf,hrpf,hlt,hpl,hne⟩,hyc,hyf,hyl⟩:=F4 s2;have S:=D s2;clear s2;simp only[At.val];go_upto_region 41 with fail
 have s3:=oE S al ai;clear hXc hXf hxl hx1 hx2 hrc hrpc hrf hrpf hlt hpl hne hyc hyf hyl S;generalize World.alloc _ _=w3 at s3⊢;obtain⟨g2,R2,x2,hg,hR,hx,s4⟩:=NO s3;have HL2:=D (show C9 g2 R2 by rw[hg,hR];exact N.hL);have HRB:=D (show g2.rb=g.rb by rw[hg]);have Ab5:((x2.kind:Int)==115)=I:=by rw[hx];rfl
 have AhP:((x2.kind:Int)==103)=I:=by rw[hx];rfl
 replace Hres:=D (show R.node l=if ab then .ok (R2,x2) else .error 4 by rw[hx,hR];simpa using Hres.out);clear hx hR hg s3;rw[<-HRB.out];obtain⟨⟨hXc,hXf,hxl,hx1,hx2⟩,⟨hrc,hrpc,hrf,hrpf,hlt,hpl,hne⟩,hyc,hyf,hyl⟩:=F4 s4;have S:=D s4;clear s4;cases ab
 .exact Sf
 .exact YX):p:=h
theorem maA {p:Prop} (h:p:=by
 rw[hr] at he;obtain⟨rfl,hm⟩:=he;have Hr:=D hr;have Hm:=D hm;clear hr hm hrc hrpc hrf hrpf c0;go_wp2;go_ret;rw[Hr.out];exact⟨rfl,Hm⟩):p:=h
theorem mbI {p:Prop} (h:p:=by
 rw[Hres.out];exact⟨rfl,g,rfl,N.hL,Ai.quiet N.h (((Az.refl _ _).alloc _).alloc _)⟩):p:=h
variable {w W w' w'':World} {R:RS} {b yb n lb lc tb tc AN:Nat} {x:Nd} {T:TypeId} {a:Ob} {L E M:List Ob} {l:Ws} {ds vs:List SG} {d c:SG} {us:List (List Bool)} {u:List Bool} {tmps:Array Value} {lw v:Value} {xs:List Value} {p:Prop} {ts:List (List Nd)}
def CD (l:List Int):List Value:=l.map (Value.int .i64)
def Iw (l:List Bool):List Value:=l.map Value.bool
def At.val (a:At):Value:= qD #[qB a.AX,iI a.v]
def Nd.cells (x:Nd):List Value:=[.int .u8 x.kind,iI x.v,qA x.op,qB x.a.AX,iI x.a.v,qB x.b.AX,iI x.b.v,qB x.AN.AX,iI x.AN.v,
  iI x.first,iI x.size,iI x.CL,iI x.n,iI x.Af]
def Nd.val (x:Nd):Value:= qD x.cells.toArray
def Bk (l:List Nd):List Value:=l.flatMap Nd.cells
structure RG where
 rb:Nat
 pb:Nat
 s:SG
 f:SG
 z:SG
 l:SG
 o:SG
 t:SG
 u:SG
 q:SG
 cv:List SG
 dv:List SG
variable {g:RG}
def CK (a:SG) (l:List Nd):Ob:=.row (m9 a.p (J l) a.c) 110 14 (J l) (Bk l)
def LP (a:SG) (l:List ByteArray):Ob:=.row (m9 a.p (J l) a.c) 9 1 (J l) (Bq l)
def P9 (a:SG) (l:List Int):Ob:=.row (m9 a.p (J l) a.c) 3 1 (J l) (CD l)
def Fc (l:List Nat):List Int:=l.map λ(k:Nat)=>(k:Int)
def IK (a:SG) (l:List Nat):Ob:=.row (m9 a.p (J l) a.c) 3 1 (J l) (CD (Fc l))
def Cq (a:SG) (l:List Bool):Ob:=.row (m9 a.p (J l) a.c) 4 1 (J l) (Iw l)
theorem WS (p:Option Addr) (c:Nat) (l:List ByteArray) (s:ByteArray):Ob.row (m9 p (J l+1) c) 9 1 (J l+1) (Bq l++(#[qA s]:Array Value).toList)=LP ⟨p,c⟩ (l++[s]):=by simp[LP,Bq]
theorem Xa (p:Option Addr) (c:Nat) (l:List Int) (s:Int):Ob.row (m9 p (J l+1) c) 3 1 (J l+1) (CD l++(#[iI s]:Array Value).toList)=P9 ⟨p,c⟩ (l++[s]):=by simp[P9,CD]
theorem P1 (p:Option Addr) (c:Nat) (l:List Nat) (s:Nat):Ob.row (m9 p (J l+1) c) 3 1 (J l+1) (CD (Fc l)++(#[iI (s:Int)]:Array Value).toList)=IK ⟨p,c⟩ (l++[s]):=by simp[IK,Fc,CD]
theorem gA (p:Option Addr) (c:Nat) (l:List Bool) (s:Bool):Ob.row (m9 p (J l+1) c) 4 1 (J l+1) (Iw l++(#[qB s]:Array Value).toList)=Cq ⟨p,c⟩ (l++[s]):=by simp[Cq,Iw]
def RG.Ay (g:RG) (R:RS):List Ob:=
 [.Ao g.rb #[iJ g.pb,m9 g.s.p (J R.Ax) g.s.c,m9 g.f.p (J R.first) g.f.c,m9 g.z.p (J R.size) g.z.c,m9 g.l.p (J R.AA) g.l.c,m9 g.o.p (J R.Ad) g.o.c,iI R.Ah,qB I,iI 0] 94,
  .Ao g.pb #[m9 g.t.p (J R.p.Aa) g.t.c,iI R.p.cells,m9 g.u.p (J R.p.Ap) g.u.c,m9 g.q.p (J R.p.BX) g.q.c] 53,
  LP g.s R.Ax,P9 g.f R.first,P9 g.z R.size,LP g.l R.AA,IK g.o R.Ad,
  .row (m9 g.t.p (J R.p.Aa) g.t.c) 72 1 (J R.p.Aa) (BF g.cv R.p.Aa),
  .row (m9 g.u.p (J R.p.Ap) g.u.c) 51 1 (J R.p.Ap) (BF g.dv R.p.Ap),
  Cq g.q R.p.BX]++(List.zipWith CK g.cv R.p.Aa++List.zipWith Cq g.dv R.p.Ap)
structure C9 (g:RG) (R:RS):Prop where
 cl:J g.cv=J R.p.Aa
 dl:J g.dv=J R.p.Ap
 ql:J R.p.BX=J R.p.Aa
 tl:J R.p.Ap=J R.p.Aa
 fl:J R.first=J R.Ax
 zl:J R.size=J R.Ax
 ll:J R.AA<=4
def AgE (w:World) (g:RG) (R:RS):Prop:=Aq w (g.Ay R)/\C9 g R
structure uw (w:World) (g:RG) (R:RS):Prop where
 c:∀i:Nat,w.cell? ⟨g.rb,i,Z⟩=(#[iJ g.pb,m9 g.s.p (J R.Ax) g.s.c,m9 g.f.p (J R.first) g.f.c,m9 g.z.p (J R.size) g.z.c,m9 g.l.p (J R.AA) g.l.c,m9 g.o.p (J R.Ad) g.o.c,iI R.Ah,qB I,iI 0]:Array Value)[i]?
 pc:∀i:Nat,w.cell? ⟨g.pb,i,Z⟩=(#[m9 g.t.p (J R.p.Aa) g.t.c,iI R.p.cells,m9 g.u.p (J R.p.Ap) g.u.c,m9 g.q.p (J R.p.BX) g.q.c]:Array Value)[i]?
 f:∀i:Nat,w.frozen? ⟨g.rb,i,Z⟩=I
 pf:∀i:Nat,w.frozen? ⟨g.pb,i,Z⟩=I
 lt:g.rb<w.heap.size
 pl:g.pb<w.heap.size
 ne:g.rb≠g.pb
theorem BL (h:Aq w (g.Ay R)):uw w g R where
 c:=(h.Ao (i:=0) rfl).cell
 pc:=(h.Ao (i:=1) rfl).cell
 f:=(h.Ao (i:=0) rfl).free
 pf:=(h.Ao (i:=1) rfl).free
 lt:=(h.Ao (i:=0) rfl).lt
 pl:=(h.Ao (i:=1) rfl).lt
 ne:=h.ne (i:=0) (j:=1) rfl rfl Do
theorem fI (s:ByteArray) (w:World) (hs:s.size<=maxLen):Calls prog 86 #[qA s] w λe w'=>e= qF (qC #[iI ((number (bs s)).getD 0),qB (number (bs s)).isSome])/\w'=w:=
 L0 s w hs
theorem Lz (s:ByteArray) (w:World) (g:RG) (R:RS) (h:AgE w g R) (hs:s.size<=maxLen):
  Calls prog 87 #[iJ g.rb,qA s] w λe w'=>e= qF (qC #[(R.Cz s).1.val,qB (R.Cz s).2])/\Az [] w w':=by
 have hrf:=BL h.1;have hlt:=hrf.lt;have lg:=Sl.OK (h.1.row (i:=5) rfl);have hn:=λw=>fI s w hs
 unfold RS.Cz;generalize number (bs s)=n at*;have Hn:=D hn;have hc:=hrf.c;cases n with
 |some v=>
  clear hn lg hc hrf;go_enter func87,ntmps87;go_wp2_with (first|(go_at_call 86;refine(Hn _).mono ?_;rintro e w' ⟨rfl,rfl⟩));refine bodyPost_ret (v:= qC #[qD #[qB I,iI v],qB V]) (by simp[results,results87,go_sem]) rfl ⟨rfl,?_⟩;exact mbH
 |none=>
  have eH:=D lg;clear hn lg hrf;go_enter func87,ntmps87;go_wp2_with (first|(go_at_call 86;refine(Hn _).mono ?_;rintro e w' ⟨rfl,rfl⟩));refine(Gh R.AA s (m9 g.l.p (J R.AA) g.l.c) _ _ (eH.mod ((Az.refl [] w).alloc _) EQ)).mono ?_;rintro e w' ⟨rfl,rfl⟩;generalize Rr:Be R.AA s=k;by_cases hk:0<=k
  .have MY:decide (0<=k)=V:=by simpa using hk
   go_wp2;refine bodyPost_ret (v:= qC #[qD #[qB V,iI k],qB V]) (by simp[results,results87,go_sem]) rfl ⟨by rw[Rr,MY];rfl,?_⟩;exact mbH
  .have MY:decide (0<=k)=I:=by simpa using hk
   go_wp2;refine bodyPost_ret (v:= qC #[qD #[qB V,iI k],qB I]) (by simp[results,results87,go_sem]) rfl ⟨by rw[Rr,MY];rfl,?_⟩;exact mbH
def FU (b:Nat) (x:Nd):Ob:=.Ao b x.cells.toArray 110
def AgG (res:Except Int (RS×Nd)) (g:RG) (R:RS) (xb:Nat) (x:Nd) (w:World) (e:Ending) (w':World):Prop:=
 match res with
 |.error c=>e= qF (iI c)/\Az [] w w'
 |.ok (R',x')=>e= qF (iI 0)/\∃g',g'.rb=g.rb/\C9 g' R'/\Ai w (FU xb x::g.Ay R) w' (FU xb x'::g'.Ay R')
theorem fK (h:Ci w b x.cells.toArray T) (i:Nat):w.cell? ⟨b,i,Z⟩=(#[.int .u8 x.kind,iI x.v,qA x.op,qB x.a.AX,iI x.a.v,qB x.b.AX,iI x.b.v,qB x.AN.AX,iI x.AN.v,
  iI x.first,iI x.size,iI x.CL,iI x.n,iI x.Af]:Array Value)[i]?:=h.cell i
structure uy (w:World) (xb:Nat) (g:RG) (x:Nd):Prop where
 c:∀i:Nat,w.cell? ⟨xb,i,Z⟩=(#[.int .u8 x.kind,iI x.v,qA x.op,qB x.a.AX,iI x.a.v,qB x.b.AX,iI x.b.v,qB x.AN.AX,iI x.AN.v,
   iI x.first,iI x.size,iI x.CL,iI x.n,iI x.Af]:Array Value)[i]?
 f:∀i:Nat,w.frozen? ⟨xb,i,Z⟩=I
 lt:xb<w.heap.size
 n1:xb≠g.rb
 n2:xb≠g.pb
theorem UQ {xb:Nat} (h:Aq w (FU xb x::g.Ay R)):uy w xb g x where
 c:=fK (h.Ao (i:=0) rfl)
 f:=(h.Ao (i:=0) rfl).free
 lt:=(h.Ao (i:=0) rfl).lt
 n1:=h.ne (i:=0) (j:=1) rfl rfl Do
 n2:=h.ne (i:=0) (j:=2) rfl rfl Do
theorem Xb:(prog.info? 9).map (λi=>(i.zero,i.size,i.bytes))=U (U (qA ByteArray.empty),1,16):=Fd
theorem Ai.UK (h:Aq w (a::L)):Aq w L:=(Ai.drop (A:=[]) (B:=[a]) (C:=L) h).Ak
theorem vo (s:ByteArray) (w:World) (g:RG) (R:RS) (xb:Nat) (x:Nd) (h:Aq w (FU xb x::g.Ay R)) (hL:C9 g R):
  Calls prog 90 #[iJ g.rb,iJ xb,qA s] w (AgG (R.Ml x s) g R xb x w):=by
 obtain⟨rb,pb,⟨sp,sc⟩,f,z,⟨lp,lc⟩,o,t,u,q,cv,dv⟩:=g;obtain⟨j0,hj,Lc,Lb,Mm⟩:=info_parts Xb;obtain⟨hc,_,hBf,_,hlt,_,_⟩:=BL (Ai.UK h);obtain⟨hXc,hXf,hxl,hne,_⟩:=UQ h;have N0:=λw' (k:Az [] w w')=>Gh R.Ax s (m9 sp (J R.Ax) sc) w' _ ((Sl.OK (h.row (i:=3) rfl)).mod k EQ)
 have Fa:=λw' (k:Az [] w w')=>Gh R.AA s (m9 lp (J R.AA) lc) w' _ ((Sl.OK (h.row (i:=6) rfl)).mod k EQ)
 unfold RS.Ml;generalize GJ:Be R.Ax s=k1 at*;generalize Mo:Be R.AA s=k2 at*;have Hp1:=D N0;have Hp2:=D Fa;have H:=D h;have HL:=D hL;clear N0 Fa h hL GJ Mo;by_cases c1:0<=k1
 .rw[Jb c1];go_enter func90,ntmps90;go_wp2_with fail;refine(Hp1 _ (Az.refl _ _)).mono ?_;rintro e w' ⟨rfl,rfl⟩;go_wp2;go_ret;exact⟨rfl,Az.refl _ _⟩
 .rw[In c1];have c1':k1<0:=Y
  by_cases c2:0<=k2
  .rw[Jb c2];go_enter func90,ntmps90;go_wp2_with fail;refine(Hp1 _ (Az.refl _ _)).mono ?_;rintro e w' ⟨rfl,rfl⟩;go_wp2_with fail;refine(Hp2 _ (Az.refl _ _)).mono ?_;rintro e w' ⟨rfl,rfl⟩;go_wp2;go_ret;exact⟨rfl,_,rfl,HL,H.set (i:=0) rfl 1 _⟩
  .rw[In c2];have c2':k2<0:=Y
   by_cases c3:J R.AA=4
   .rw[Jb c3];have c3':((J R.AA:Int)==4)=V:=by rw[c3];rfl
    clear c3;go_enter func90,ntmps90;go_wp2_with fail;refine(Hp1 _ (Az.refl _ _)).mono ?_;rintro e w' ⟨rfl,rfl⟩;go_wp2_with fail;refine(Hp2 _ (Az.refl _ _)).mono ?_;rintro e w' ⟨rfl,rfl⟩;go_wp2;go_ret;exact⟨rfl,Az.refl _ _⟩
   .rw[In c3];have c3':((J R.AA:Int)==4)=I:=by rw[Jh];omega
    have C3:=D c3;clear c3;go_enter func90,ntmps90;go_wp2_with fail;refine(Hp1 _ (Az.refl _ _)).mono ?_;rintro e w' ⟨rfl,rfl⟩;go_wp2_with fail;refine(Hp2 _ (Az.refl _ _)).mono ?_;rintro e w' ⟨rfl,rfl⟩;go_wp2_with (first|(at_builtin;refine Bm 16 _ _ _ j0 _ #[.string s] _ H (k:=6) rfl Eq Eq underlying90 hj Lc Lb Mm rfl Y Eq Eq rfl (by simp[Value.oneCell']) (by have:=HL.ll;unfold maxLen;omega) (by have:=HL.ll;omega) ?_;intro g6 AL w6 Aw Aku;rw[WS] at Aw;have q1:=(Aw.Ak.Ao (i:=1) rfl).cell;have q2:=(Aw.Ak.Ao (i:=1) rfl).free;have q3:=fK (Aw.Ak.Ao (i:=0) rfl);have q4:=(Aw.Ak.Ao (i:=0) rfl).free;have GK:=D Aw;clear Aw Aku hc hXf hXc hBf));go_ret;have t1:=GK.Ak.set (i:=1) rfl 4 (m9 (U ⟨g6,0,Z⟩) (J R.AA+1) AL);have t2:=t1.Ak.set (i:=0) rfl 1 (iI (J R.AA));have t3:=GK.trans (t1.trans t2);refine⟨rfl,⟨rb,pb,⟨sp,sc⟩,f,z,⟨U ⟨g6,0,Z⟩,AL⟩,o,t,u,q,cv,dv⟩,rfl,⟨HL.cl,HL.dl,HL.ql,HL.tl,HL.fl,HL.zl,?_⟩,?_⟩;rotate_left
    .have e:(R.AA++[s]).length=J R.AA+1:=EQ
     unfold RG.Ay;rw[e];exact t3
    have:=HL.ll;have:=C3.out;simp only[GT,JN] at*;omega
def Aly (res:RS×Nd×Bool) (g:RG) (R:RS) (xb:Nat) (x:Nd) (w:World) (e:Ending) (w':World):Prop:=
 e= qF (qB res.2.2)/\∃g',g'.rb=g.rb/\C9 g' res.1/\Ai w (FU xb x::g.Ay R) w' (FU xb res.2.1::g'.Ay res.1)
theorem eh (l:List Bool) (k:Nat) (b:Bool):(Iw l).set k (qB b)=Iw (l.set k b):=by simp[Iw,QD]
theorem NX {α β:Type} {xs:List α} {ys:List β} (h:J xs=J ys) (hy:ys≠[]):∃p a q b,xs=p++[a]/\ys=q++[b]/\J p=J q:=by
 rcases Jv ys with h0|⟨q,b,h0⟩
 .exact Jk h0 hy
 .rcases Jv xs with h1|⟨p,a,h1⟩
  .rw[h0,h1] at h;simp at h
  .rw[Jy] at h0 h1;exact⟨p,a,q,b,h1,h0,by rw[h0,h1] at h;simpa using h⟩
theorem sZ {l:List Int} (h:∀(i:Nat) (hi:i<(CD l).length),w.cell? ⟨b,i,Z⟩=U (CD l)[i]) (k:Nat) (hk:k<J l):w.cell? ⟨b,k,Z⟩=U (iI (l.getD k 0)):=by
 rw[h k (by simpa[CD] using hk)];simp[CD,Je,hk]
theorem OF (h:Aq w L) {i j:Nat} {b c:Nat} {o:Obj} {e:TypeId} {s n m cap:Nat} {xs:List Value} (hi:L[i]?=U (.W2 b o)) (hj:L[j]?=U (.row (m9 (U ⟨c,0,Z⟩) m cap) e s n xs)) (hij:i≠j):b≠c:=by
 have:=h.Aho hi hj hij;rintro rfl;exact this rfl
def RG.fF (g:RG) (R:RS) (ds:List SG) (us:List (List Bool)):List Ob:=
 [.Ao g.rb #[iJ g.pb,m9 g.s.p (J R.Ax) g.s.c,m9 g.f.p (J R.first) g.f.c,m9 g.z.p (J R.size) g.z.c,m9 g.l.p (J R.AA) g.l.c,m9 g.o.p (J R.Ad) g.o.c,iI R.Ah,qB I,iI 0] 94,
  .Ao g.pb #[m9 g.t.p (J R.p.Aa) g.t.c,iI R.p.cells,m9 g.u.p (J R.p.Ap) g.u.c,m9 g.q.p (J R.p.BX) g.q.c] 53,
  LP g.s R.Ax,P9 g.f R.first,P9 g.z R.size,LP g.l R.AA,IK g.o R.Ad,
  .row (m9 g.t.p (J R.p.Aa) g.t.c) 72 1 (J R.p.Aa) (BF g.cv R.p.Aa),
  .row (m9 g.u.p (J R.p.Ap) g.u.c) 51 1 (J R.p.Ap) (BF g.dv R.p.Ap),
  Cq g.q R.p.BX]++(List.zipWith CK g.cv R.p.Aa++List.zipWith Cq ds us)
theorem Aba (hd:g.dv=ds++[d]) (hu:R.p.Ap=us++[u]) (hl:J ds=J us):g.Ay R=g.fF R ds us++[Cq d u]:=by
 unfold RG.Ay RG.fF;rw[hd,hu,Qs hl];simp
theorem uR (hd:g.dv=ds++[d]) (hu:R.p.Ap=us++[u]) (hl:J ds=J us) (c:Nat):
  g.Ay (R.GN c)=g.fF R ds us++[Cq d (u.set c V)]:=by
 have e:(R.GN c).p.Ap=us++[u.set c V]:=by unfold RS.GN;simp[hu]
 rw[Aba hd e hl];congr 1;unfold RG.fF;rw[e,hd,hu,Bu _ _ _ _ hl,Bu _ _ _ _ hl];simp only[GT,JN,Ju];rfl
theorem RX (h:C9 g R) (hu:R.p.Ap≠[]) (c:Int):C9 g (R.GN c):=by
 rcases Jv R.p.Ap with h0|⟨q,b,h0⟩
 .exact Jk h0 hu
 .rw[Jy] at h0;have e:(R.GN c).p.Ap.length=J R.p.Ap:=by unfold RS.GN;simp[h0]
  exact⟨h.cl,h.dl.trans e.symm,h.ql,e.trans h.tl,h.fl,h.zl,h.ll⟩
theorem nC {db dc c:Nat} (o:Aq w (a::g.Ay R)) (hd:g.dv=ds++[d]) (hu:R.p.Ap=us++[u]) (hl:J ds=J us)
  (bh:m9 d.p (J u) d.c= m9 (U ⟨db,0,Z⟩) (J u) dc) (hc:c<J u):Ai w (a::g.Ay R) (w.setCell ⟨db,c,Z⟩ (qB V)) (a::g.Ay (R.GN c)):=by
 have e:∀v,J v=J u->Cq d v=.row (m9 (U ⟨db,0,Z⟩) (J u) dc) 4 1 (J u) (Iw v):=λv hv=>by
  unfold Cq;rw[hv,bh]
 rw[uR hd hu hl c];rw[Aba hd hu hl] at o⊢;rw[e _ rfl] at o⊢;rw[e _ EQ,<-eh];exact Aq.vf (A:=a::g.fF R ds us) o c (by simpa[Iw] using hc) _
theorem cC (s:ByteArray) (l:Ws) (lw:Value) (w:World) (g:RG) (R:RS) (xb:Nat) (x:Nd) (n:Nat) (h:Aq w (FU xb x::g.Ay R)) (hL:C9 g R) (hI:Pj R n) (hT:R.p.Aa≠[])
  (hw:Sl w (λb=>b∉Et (FU xb x::g.Ay R)) lw (Bq l)) (hs:∀a,a∈l->a.size<=maxLen):
  Calls prog 89 #[iJ g.rb,iJ xb,qA s,lw] w (Aly (R.cell x s l) g R xb x w):=by
 have N0:=λw' (k:Az [] w w')=>Gh R.Ax s (m9 g.s.p (J R.Ax) g.s.c) w' _ ((Sl.OK (h.row (i:=3) rfl)).mod k EQ)
 have SH:=UH R.Ax s;have hrf:=BL (Ai.UK h);have hnf:=UQ h;have Acg:Be R.Ax s<0->R.cell x s l=(R,x,I):=λh=>by unfold RS.cell;simp[h]
 have Acf:∀k:Nat,Be R.Ax s=k->R.cell x s l=(let x:={x with first:=R.first.getD k 0,size:=R.size.getD k 0}
     let r:=R.GN x.first
     if J l=5 then
       let (a,ok):=r.Cz (wd l 4)
       (r,{x with AN:=a},ok)
     else (r,x,V)):=λk h=>by unfold RS.cell;simp only[h,show¬((k:Int)<0) by omega,J1,JW]
 generalize GJ:Be R.Ax s=k1 at*;have Hp1:=D N0;clear N0 GJ;by_cases c1:k1<0
 .rw[Acg c1];clear SH hw Acg Acf;have hc:=hrf.c;have hlt:=hrf.lt;have H:=D h;have HL:=D hL;clear h hL hI hT hnf hrf;go_enter func89,ntmps89;go_wp2_with fail;refine(Hp1 _ (Az.refl _ _)).mono ?_;rintro e w' ⟨rfl,rfl⟩;go_wp2;go_ret;exact⟨rfl,_,rfl,HL,Ai.refl H⟩
 .obtain⟨k,rfl⟩:∃k:Nat,k1=k:=⟨k1.toNat,Y⟩;have Kf:k<J R.Ax:=by rcases SH with h|⟨_,h⟩<;>omega
  clear SH;have hkf:k<J R.first:=by rw[hL.fl];exact Kf
  have hkz:k<J R.size:=by rw[hL.zl];exact Kf
  have Agp:=h.row (i:=4) rfl;have Ago:=h.row (i:=5) rfl;obtain⟨fb,fc,hfe,_,hfl,An2,An1,Acw,Aic⟩:=Av Agp Y;obtain⟨zb,zc,hze,_,hzl,Anv,Anu,Ab4,AhN⟩:=Av Ago Y;have hF:=sZ Acw k hkf;have hZ:=sZ Ab4 k hkz;have AG:=Acf k rfl;clear Acg Acf;have An5:=hI.fi (R.first.getD k 0) (by rw[Je,Ja hkf];exact JP hkf);have hr5:(FU xb x::g.Ay R)[5]?=U (.row (m9 (U ⟨zb,0,Z⟩) (J R.size) zc) 3 1 (J R.size) (CD R.size)):=by rw[<-hze];rfl
  have nxz:=OF h (i:=0) rfl hr5 Do;generalize R.first.getD k 0=c at*
  generalize R.size.getD k 0=z at*;obtain⟨c,rfl⟩:∃m:Nat,c=m:=⟨c.toNat,Y⟩;have Hres:=D AG;clear AG;have hu:R.p.Ap≠[]:=λh0=>hT (Jm (by rw[<-hL.tl,h0];rfl))
  obtain⟨ds,d,us,u,Xv,hus,lE⟩:=NX hL.dl hu;have Agl:=h.row (i:=9) rfl;obtain⟨ub,uc,hue,_,hul,AnA,Anz,Ab6,AhR⟩:=Av Agl (by rw[hus];simp);have hD:w.cell? ⟨ub,J us,Z⟩=U (m9 d.p (J u) d.c):=by
   rw[Ab6 (J us) (by rw[Xv,hus,Bu _ _ _ _ lE,GT,Ch _ _ lE];simp)];simp only[Xv,hus,Bu _ _ _ _ lE];rw[QN (by rw[Ch _ _ lE];omega)];simp
  have Anr:=hI.tc u (by rw[hus];simp);have hcu:c<J u:=Y
  have gU:(FU xb x::g.Ay R)[9]?=U (.row (m9 (U ⟨ub,0,Z⟩) (J R.p.Ap) uc) 51 1 (J R.p.Ap) (BF g.dv R.p.Ap)):=by rw[<-hue];rfl
  have nxu:=OF h (i:=0) rfl gU Do;have Zq:=Aba Xv hus lE;have IP:(FU xb x::g.Ay R)[(FU xb x::g.fF R ds us).length]?=U (Cq d u):=by rw[Zq];simp
  have Agk:=h.row IP;obtain⟨db,dc,bh,_,Amy,An4,An3,Acx,Aie⟩:=Av Agk Y;have hdb:w.cell? ⟨db,c,Z⟩=U (qB (u.getD c I)):=by
   rw[Acx c (by simpa[Iw] using hcu)];simp[Iw,Je,hcu]
  have pH:(FU xb x::g.Ay R)[(FU xb x::g.fF R ds us).length]?=U (.row (m9 (U ⟨db,0,Z⟩) (J u) dc) 4 1 (J u) (Iw u)):=by rw[IP];unfold Cq;rw[bh]
  have nxd:=OF h (i:=0) rfl pH (by unfold RG.fF;simp only[Jg,GT];omega);have nrd:=OF h (i:=1) rfl pH (by unfold RG.fF;simp only[Jg,GT];omega);have ntl:J R.p.Ap=J us+1:=by rw[hus];simp
  rw[hL.tl] at ntl;have hun:J us<=2500:=by have:=hI.bn;have:=hI.nn;omega
  obtain⟨hc,Tb,_,_,hlt,hpl,n12⟩:=hrf;obtain⟨hXc,hXf,hxl,n1,n2⟩:=hnf;rw[hfe,hze] at hc;rw[hue,hL.tl,ntl] at Tb;rw[bh] at hD;have H:=D h;have HL:=D hL;have Hw:=D hw;have Hdd:=D bh;have Hde:=D Xv;have Hus:=D hus;have gO:=D lE;clear Zq h hL hI hT hw pH IP bh Xv hus lE gU hr5 Agp Ago Agl Agk Acw Ab4 Ab6 Acx hfe hze hue hu Aic AhN AhR;go_enter func89,ntmps89;go_wp2_with fail;refine(Hp1 _ (Az.refl _ _)).mono ?_;rintro e w' ⟨rfl,rfl⟩;go_upto_region 7 with fail
  have hcq:0<=(c:Int):=JG _;have hu1:J us<((J us:Int)+1):=Y
  refine AF [] 15 (λW=>W.cell? ⟨g.rb,0,Z⟩=U (iJ g.pb)/\W.cell? ⟨g.pb,2,Z⟩=U (m9 (U ⟨ub,0,Z⟩) (J us+1) uc)/\
    W.cell? ⟨ub,J us,Z⟩=U (m9 (U ⟨db,0,Z⟩) (J u) dc)/\W.cell? ⟨xb,9,Z⟩=U (iI c)) ?_ ?_
  .exact⟨by go_simp,by go_simp,by go_simp,by go_simp⟩
  refine Ds ?_;intro K hK;refine hK _ _ (λh=>Jk rfl h) ?_;simp only[BN];have t1:=H.set (i:=0) rfl 9 (iI c);have t2:=t1.Ak.set (i:=0) rfl 10 (iI z);have t3:=t1.trans (t2.trans (nC (a:=FU xb {x with first:=c,size:=z}) t2.Ak Hde Hus gO Hdd hcu));have t4:=t3.trans (Ai.drew t3.Ak);clear t1 t2 t3;have Fu:=Hw.mod t4.mod (λb hb=>hb);clear hc Tb hXc hXf hlt hpl n12 n1 n2 hZ hF hD hdb Aie hul Amy hfl hzl hxl Hp1 Hw H;generalize (((w'.setCell {block:=xb,off:=9} (Value.int IntKind.i64 ↑c)).setCell {block:=xb,off:=10} (Value.int IntKind.i64 z)).setCell {block:=db,off:=c} (qB V)).drew=w1 at t4 Fu⊢;have T4:=D t4;clear t4;obtain⟨hwm,⟨rfl,hwn⟩|⟨wb,woff,wcap,rfl,w1_,w2_,w3_,w4_,w5_⟩⟩:=Fu
  .have Le:J l=0:=by rw[<-Cj,hwn];rfl
   have AG:R.cell x s l=(R.GN c,{x with first:=c,size:=z},V):=by rw[Hres.out];simp[Le]
   have Hr:=D AG;have hl5:((0:Int)==5)=I:=rfl;clear Hres AG hwn Le;go_wp2;go_ret;rw[Hr.out];exact⟨rfl,g,rfl,RX HL (by rw[Hus.out];simp) c,T4⟩
  .rw[Cj] at hwm w1_⊢;unfold maxLen at hwm w2_;by_cases hl:J l=5
   .have hl5:((J l:Int)==5)=V:=by rw[hl];rfl
    have aU:=Sl.M9 w5_ 4 Y;have AG:R.cell x s l=((R.GN c),{x with first:=c,size:=z,AN:=((R.GN c).Cz (wd l 4)).1},((R.GN c).Cz (wd l 4)).2):=by rw[Hres.out];simp[hl]
    have Hr:=D AG;have hl4:4<(J l:Int):=Y
    clear Hres AG w5_ hl;go_wp2_with fail;refine(Lz (wd l 4) _ g (R.GN c) ⟨Ai.UK T4.Ak,RX HL (by rw[Hus.out];simp) c⟩ (Kr hs 4)).mono ?_;rintro e w2 ⟨rfl,FM⟩;have hr0:=Hr.out;clear Hr;generalize (R.GN c).Cz (wd l 4)=av at hr0⊢;obtain⟨⟨al,ai⟩,ab⟩:=av;have Hr:=D hr0;clear hr0;have t5:=T4.trans (Ai.quiet T4.Ak FM);clear T4 FM aU w4_;obtain⟨hXc,hXf,hxl,n1,_⟩:=UQ t5.Ak;have T5:=D t5;clear t5;simp only[At.val];go_wp2;go_ret;have t7:=T5.Ak.set (i:=0) rfl 7 (qB al);have t8:=t7.Ak.set (i:=0) rfl 8 (iI ai);have t9:=Ai.alloc t8.Ak (qG #[qB al,iI ai] 108);rw[Hr.out];exact⟨rfl,g,rfl,RX HL (by rw[Hus.out];simp) c,T5.trans (t7.trans (t8.trans t9))⟩
   .have hl5:((J l:Int)==5)=I:=by rw[Jh];omega
    have AG:R.cell x s l=(R.GN c,{x with first:=c,size:=z},V):=by rw[Hres.out];simp[hl]
    have Hr:=D AG;clear Hres AG hl w5_;go_wp2;go_ret;rw[Hr.out];exact⟨rfl,g,rfl,RX HL (by rw[Hus.out];simp) c,T4⟩
def mM (res:Except Int (RS×Nd)) (g:RG) (R:RS) (w:World) (e:Ending) (w':World):Prop:=
 match res with
 |.error c=>∃x:Nd,e= qF (qC #[x.val,iI c])/\Az (Et (g.Ay R)) w w'
 |.ok (R',x')=>e= qF (qC #[x'.val,iI 0])/\∃g',g'.rb=g.rb/\C9 g' R'/\Ai w (g.Ay R) w' (g'.Ay R')
def z14:Array Value:= #[.int .u8 0,iI 0,qA ⟨#[]⟩,qB I,iI 0,qB I,iI 0,qB I,iI 0,iI 0,iI 0,iI 0,iI 0,iI 0]
theorem aR {Q:Ending->World->Prop} {c:Int} (h4:tmps[4]?=U (iJ yb)) (h5:tmps[5]?=U (iI c)) (hb:Ci W yb x.cells.toArray 110)
  (hq:Q (qF (qC #[x.val,iI c])) W):bodyPost prog f61 Q Exit.ret ⟨tmps,[]⟩ W:=by
 have k:=fK hb;refine bodyPost_ret ?_ rfl hq;simp[results,results61,go_sem,h4,h5,k];rfl
theorem Ci.sx {a0 a1 a2 a3 a4 a5 a6 a7 a8 a9 a10 a11 a12 a13:Value} (h:Ci w b #[a0,a1,a2,a3,a4,a5,a6,a7,a8,a9,a10,a11,a12,a13] T) (v0 v1 v2 v3 v4 v5 v6 v7 v8 v9 v10 v11 v12 v13:Value):
  Ci ((((((((((((((w.setCell ⟨b,0,Z⟩ v0).setCell ⟨b,1,Z⟩ v1).setCell ⟨b,2,Z⟩ v2).setCell ⟨b,3,Z⟩ v3).setCell ⟨b,4,Z⟩ v4).setCell ⟨b,5,Z⟩ v5).setCell ⟨b,6,Z⟩ v6).setCell ⟨b,7,Z⟩ v7).setCell ⟨b,8,Z⟩ v8).setCell ⟨b,9,Z⟩ v9).setCell ⟨b,10,Z⟩ v10).setCell ⟨b,11,Z⟩ v11).setCell ⟨b,12,Z⟩ v12).setCell ⟨b,13,Z⟩ v13) b #[v0,v1,v2,v3,v4,v5,v6,v7,v8,v9,v10,v11,v12,v13] T:=by
 have h0:=h.set 0 v0;simp only[FH] at h0;have h1:=h0.set 1 v1;simp only[FH] at h1;have h2:=h1.set 2 v2;simp only[FH] at h2;have h3:=h2.set 3 v3;simp only[FH] at h3;have h4:=h3.set 4 v4;simp only[FH] at h4;have h5:=h4.set 5 v5;simp only[FH] at h5;have h6:=h5.set 6 v6;simp only[FH] at h6;have h7:=h6.set 7 v7;simp only[FH] at h7;have h8:=h7.set 8 v8;simp only[FH] at h8;have h9:=h8.set 9 v9;simp only[FH] at h9;have h10:=h9.set 10 v10;simp only[FH] at h10;have h11:=h10.set 11 v11;simp only[FH] at h11;have h12:=h11.set 12 v12;simp only[FH] at h12;have h13:=h12.set 13 v13;simp only[FH] at h13;exact h13
theorem Az.sx (v0 v1 v2 v3 v4 v5 v6 v7 v8 v9 v10 v11 v12 v13:Value):Az [b] w ((((((((((((((w.setCell ⟨b,0,Z⟩ v0).setCell ⟨b,1,Z⟩ v1).setCell ⟨b,2,Z⟩ v2).setCell ⟨b,3,Z⟩ v3).setCell ⟨b,4,Z⟩ v4).setCell ⟨b,5,Z⟩ v5).setCell ⟨b,6,Z⟩ v6).setCell ⟨b,7,Z⟩ v7).setCell ⟨b,8,Z⟩ v8).setCell ⟨b,9,Z⟩ v9).setCell ⟨b,10,Z⟩ v10).setCell ⟨b,11,Z⟩ v11).setCell ⟨b,12,Z⟩ v12).setCell ⟨b,13,Z⟩ v13):=
 ((((((((((((((Az.refl [b] w).setCell (p:=⟨b,0,Z⟩) (.inl (GE.2 rfl)) v0).setCell (p:=⟨b,1,Z⟩) (.inl (GE.2 rfl)) v1).setCell (p:=⟨b,2,Z⟩) (.inl (GE.2 rfl)) v2).setCell (p:=⟨b,3,Z⟩) (.inl (GE.2 rfl)) v3).setCell (p:=⟨b,4,Z⟩) (.inl (GE.2 rfl)) v4).setCell (p:=⟨b,5,Z⟩) (.inl (GE.2 rfl)) v5).setCell (p:=⟨b,6,Z⟩) (.inl (GE.2 rfl)) v6).setCell (p:=⟨b,7,Z⟩) (.inl (GE.2 rfl)) v7).setCell (p:=⟨b,8,Z⟩) (.inl (GE.2 rfl)) v8).setCell (p:=⟨b,9,Z⟩) (.inl (GE.2 rfl)) v9).setCell (p:=⟨b,10,Z⟩) (.inl (GE.2 rfl)) v10).setCell (p:=⟨b,11,Z⟩) (.inl (GE.2 rfl)) v11).setCell (p:=⟨b,12,Z⟩) (.inl (GE.2 rfl)) v12).setCell (p:=⟨b,13,Z⟩) (.inl (GE.2 rfl)) v13
theorem dW (R:RS) (x:Nd) (s:ByteArray) (l:Ws):(R.cell x s l).2.1.kind=x.kind:=by
 unfold RS.cell;simp only[];split
 .rfl
 .split<;>rfl
theorem x8 (R:RS) (x:Nd) (s:ByteArray) (l:Ws):(R.cell x s l).1.p.BX=R.p.BX:=by
 unfold RS.cell;simp only[];split
 .rfl
 .split<;>rfl
theorem ox (h:C9 g R) (hp:R.p.BX≠[]):C9 g R.FX:=by
 have e:J R.FX.p.BX=J R.p.BX:=by
  unfold RS.FX;have:=JE.2 hp;simp;omega
 exact⟨h.cl,h.dl,e.trans h.ql,h.tl,h.fl,h.zl,h.ll⟩
theorem vv {qb qc m:Nat} (o:Aq w ((a::g.Ay R)++E)) (hq:m9 g.q.p (J R.p.BX) g.q.c= m9 (U ⟨qb,0,Z⟩) (m+1) qc) (hm:J R.p.BX=m+1):
  Ai w ((a::g.Ay R)++E) (w.setCell ⟨qb,m,Z⟩ (qB V)) ((a::g.Ay R.FX)++E):=by
 have hr:((a::g.Ay R)++E)[10]?=U (.row (m9 (U ⟨qb,0,Z⟩) (m+1) qc) 4 1 (m+1) (Iw R.p.BX)):=by
  show U (Cq g.q R.p.BX)=_;unfold Cq;rw[hq,hm]
 have k:=o.ET hr m (by simp[Iw,hm]) (qB V);have e:R.FX.p.BX=R.p.BX.set m V:=by
  unfold RS.FX;rcases Jv R.p.BX with h0|⟨q,b,h0⟩
  .rw[h0] at hm;simp at hm
  .rw[Jy] at h0;rw[h0] at hm⊢;simp only[GT,JN,Nat.add_right_cancel_iff] at hm;subst hm;simp
 have e2:((a::g.Ay R)++E).set 10 (.row (m9 (U ⟨qb,0,Z⟩) (m+1) qc) 4 1 (m+1) ((Iw R.p.BX).set m (qB V)))=(a::g.Ay R.FX)++E:=by
  rw[eh,<-e];have e3:Ob.row (m9 (U ⟨qb,0,Z⟩) (m+1) qc) 4 1 (m+1) (Iw R.FX.p.BX)=Cq g.q R.FX.p.BX:=by
   unfold Cq;rw[e,Ju,hq,hm]
  rw[e3];have e4:J R.FX.p.BX=J R.p.BX:=by rw[e,Ju]
  unfold RG.Ay;rw[e4];rfl
 rw[e2] at k;exact k
theorem cM {b:Ob}:((a::L)++[b])[J L+1]?=U b:=EQ
theorem oC (h:Aq w L) (A B:Array Value) (T:TypeId):Ai w L ((w.alloc (qG A T)).alloc (qG B T)) ((.Ao (w.heap.size+1) B T::L)++[.Ao w.heap.size A T]):=by
 have s1:=Ai.new h (qG A T);have s2:=Ai.NP s1.Ak (qG B T);have e:(w.alloc (qG A T)).heap.size=w.heap.size+1:=by show(w.heap.push _).size=_;simp
 rw[e] at s2;exact s1.trans s2
theorem Abh {b:Ob} (k:Ai w L w' ((a::M)++[b])):Ai w L w' M:=by
 have s1:=Ai.AJ k.Ak;have s2:Ai w' (a::M) w' M:=Ai.drop (A:=[]) (B:=[a]) s1.Ak;exact k.trans (s1.trans s2)
theorem RJ (h:Aq w ((a::g.Ay R)++L)) (hL:C9 g R):AgE w g R:=
 ⟨(Ai.drop (A:=[]) (B:=[a]) (C:=g.Ay R) (Ai.AJ h).Ak).Ak,hL⟩
structure mR (w:World) (l:Ws) (wb woff wcap:Nat) (g:RG) (R:RS):Prop where
 n0:J l<=wcap
 n1:wcap<=maxLen
 no:wb∉Et (g.Ay R)
 lt:wb<w.heap.size
 c:∀i,(h:i<J l)->w.cell? ⟨wb,woff+i,Z⟩=U (qA (wd l i))
theorem M3 (hw:Sl w (λb=>b∉Et (g.Ay R)) lw (Bq l)) (hl:0<J l):∃wb woff wcap,lw= m9 (U ⟨wb,woff,Z⟩) (J l) wcap/\mR w l wb woff wcap g R:=by
 obtain⟨hwm,⟨rfl,hwn⟩|⟨wb,woff,wcap,rfl,w1_,w2_,w3_,w4_,w5_⟩⟩:=hw
 .exact Jk (show J l=0 by rw[<-Cj,hwn];rfl) Y
 .rw[Cj] at w1_⊢;exact⟨wb,woff,wcap,rfl,w1_,w2_,w3_,w4_,λi hi=>Sl.M9 w5_ i hi⟩
theorem mR.mod {wb woff wcap:Nat} (h:mR w l wb woff wcap g R) (k:Az (Et (g.Ay R)) w w'):mR w' l wb woff wcap g R:=
 ⟨h.n0,h.n1,h.no,JR h.lt k.size,λi hi=>by rw[<-h.c i hi];exact jE (k.block wb h.lt h.no)⟩
theorem Sl.step {L':List Ob} (h:Sl w (λb=>b∉Et L) v xs) (k:Ai w L w' L'):Sl w' (λb=>b∉Et L') v xs:=
 (h.mono (ok':=λb=>b∉Et L/\b∉Et L') λb hb hn=>⟨hn,λh'=>by
   rcases k.fp b h' with h1|h1
   · exact hn h1
   · omega⟩).mod k.mod (λb hb=>hb.1) |>.mono λb _ hb=>hb.2
theorem Sl.sub (h:Sl w (λb=>b∉Et L) v xs) (hs:∀b,b∈Et M->b∈Et L):Sl w (λb=>b∉Et M) v xs:=
 h.mono λb _ hn hm=>hn (hs b hm)
theorem IJ {b:Ob} (h:Aq w (L++[b])):Aq w L:=(Ai.AJ h).Ak
theorem iD:∀b,b∈Et L->b∈Et (L++E):=λb hb=>by rw[Bo];exact IR _ hb
theorem vK {o:Obj} (k:Ai w L w' ((a::M)++[.W2 yb o])) (hy:w.heap.size<=yb) (m:Az [yb] w' w''):Ai w L w'' M:=by
 have hn:=k.Ak.K7;rw[Bo,GV] at hn;have s:=Abh k;refine⟨s.Ak.mod m λb hb tK=>?_,k.mod.trans m λx hx=> .inr (by rw[GE] at hx;omega),s.fp⟩;rw[GE] at tK;subst tK;exact(Jt.1 hn).2.2 b (Jc _ hb) b (by simp[Et,Ob.fp]) rfl
theorem AeM (k:Az (Et L) w w') (hy:w.heap.size<=yb) (m:Az [yb] w' w''):Az (Et L) w w'':=
 k.trans m λx hx=> .inr (by rw[GE] at hx;omega)
theorem F4 (s:Ai w L w' ((FU (w.heap.size+1) x::g.Ay R)++[FU w.heap.size (.of 0)])):
  uy w' (w.heap.size+1) g x/\uw w' g R/\(∀i:Nat,w'.cell? ⟨w.heap.size,i,Z⟩=(#[.int .u8 0,iI 0,qA ⟨#[]⟩,qB I,iI 0,qB I,iI 0,qB I,iI 0,iI 0,iI 0,iI 0,iI 0,iI 0]:Array Value)[i]?)/\
   (∀i:Nat,w'.frozen? ⟨w.heap.size,i,Z⟩=I)/\w.heap.size<w'.heap.size:=
 have k:=s.Ak.Ao (i:=(g.Ay R).length+1) cM
 ⟨UQ (IJ s.Ak),BL (Ai.UK (IJ s.Ak)),k.cell,k.free,k.lt⟩
theorem YY (k:Nat) (H:Aq w (g.Ay R)):Ai w (g.Ay R) ((w.alloc (qG z14 110)).alloc (qG (z14.set! 0 (.int .u8 k)) 110)) ((FU (w.heap.size+1) (.of k)::g.Ay R)++[FU w.heap.size (.of 0)]):=
 oC H z14 (z14.set! 0 (.int .u8 k)) 110
theorem oE (S:Hid (Ai w L w' ((FU b x::M)++E))) (al:Bool) (ai:Int):Ai w L (((w'.setCell ⟨b,3,Z⟩ (qB al)).setCell ⟨b,4,Z⟩ (iI ai)).alloc (qG #[qB al,iI ai] 108)) ((FU b {x with a:=⟨al,ai⟩}::M)++E):=by
 have t1:=S.Ak.set (i:=0) rfl 3 (qB al);have t2:=t1.Ak.set (i:=0) rfl 4 (iI ai);have t3:Ai w L _ ((FU b {x with a:=⟨al,ai⟩}::M)++E):=S.trans (t1.trans t2);exact t3.trans (Ai.alloc t3.Ak _)
theorem Ahn (S:Hid (Ai w L w' ((FU b x::M)++E))) (al:Bool) (ai:Int):Ai w L (((w'.setCell ⟨b,5,Z⟩ (qB al)).setCell ⟨b,6,Z⟩ (iI ai)).alloc (qG #[qB al,iI ai] 108)) ((FU b {x with b:=⟨al,ai⟩}::M)++E):=by
 have t1:=S.Ak.set (i:=0) rfl 5 (qB al);have t2:=t1.Ak.set (i:=0) rfl 6 (iI ai);have t3:Ai w L _ ((FU b {x with b:=⟨al,ai⟩}::M)++E):=S.trans (t1.trans t2);exact t3.trans (Ai.alloc t3.Ak _)
inductive rP (l:Ws) (g:RG) (R:RS) (g2:RG) (R2:RS) (x:Nd):Int->Prop
 |no {c:Int}:R.node l=.error c->rP l g R g2 R2 x c
 |yes:R.node l=.ok (R2,x)->g2.rb=g.rb->C9 g2 R2->rP l g R g2 R2 x 0
theorem UO {g2:RG} {R2:RS} {c:Int} (h4:tmps[4]?=U (iJ w.heap.size)) (h5:tmps[5]?=U (iI c)) (S:Hid (Ai w (g.Ay R) w' ((FU (w.heap.size+1) x::g2.Ay R2)++[FU w.heap.size (.of 0)])))
  (hr:Hid (rP l g R g2 R2 x c)):
  bodyPost prog f61 (mM (R.node l) g R w) Exit.ret ⟨tmps,[]⟩ ((((((((((((((w'.setCell ⟨w.heap.size,0,Z⟩ (.int .u8 x.kind)).setCell ⟨w.heap.size,1,Z⟩ (iI x.v)).setCell ⟨w.heap.size,2,Z⟩ (qA x.op)).setCell ⟨w.heap.size,3,Z⟩ (qB x.a.AX)).setCell ⟨w.heap.size,4,Z⟩ (iI x.a.v)).setCell ⟨w.heap.size,5,Z⟩ (qB x.b.AX)).setCell ⟨w.heap.size,6,Z⟩ (iI x.b.v)).setCell ⟨w.heap.size,7,Z⟩ (qB x.AN.AX)).setCell ⟨w.heap.size,8,Z⟩ (iI x.AN.v)).setCell ⟨w.heap.size,9,Z⟩ (iI x.first)).setCell ⟨w.heap.size,10,Z⟩ (iI x.size)).setCell ⟨w.heap.size,11,Z⟩ (iI x.CL)).setCell ⟨w.heap.size,12,Z⟩ (iI x.n)).setCell ⟨w.heap.size,13,Z⟩ (iI x.Af)):=by
 refine aR (x:=x) (c:=c) h4 h5 (Ci.sx (S.Ak.Ao (i:=(g2.Ay R2).length+1) cM) ..) ?_;rcases hr.out with k|⟨k,hb,hl⟩
 .rw[k];exact⟨_,rfl,AeM S.mod (Jf _) (Az.sx ..)⟩
 .rw[k];exact⟨rfl,g2,hb,hl,vK S (Jf _) (Az.sx ..)⟩
theorem wS {w:ByteArray} (h:Bv (w::l)=V):
  (bs w=Fw->(w::l).length=3\/((w::l).length=5/\0<=Be Dc (wd (w::l) 3)))/\(bs w=DQ->2<(w::l).length)/\(bs w=EF->2<(w::l).length)/\((bs w=Iz\/bs w=Uj\/bs w=EW)->1<(w::l).length):=by
 refine⟨λhw=>?_,λhw=>?_,λhw=>?_,λhw=>?_⟩
 .simp[Bv,Fv,Iy,Ka,hw,Fw,AR,AE,EK,A8] at h;rcases h.2 with h2|h2
  .left;simp;omega
  .right;refine⟨by simp;omega,?_⟩;rw[Ka];exact h2.2.1
 .simp[Bv,Fv,Iy,Ka,hw,DQ,Fw,AR,AE,EK,A8] at h;have:=h.1.2;simp;omega
 .simp[Bv,Fv,Iy,Ka,hw,EF,DQ,Fw,AR,AE,EK,A8] at h;have:=h.1.2;simp;omega
 .rcases hw with hw|hw|hw<;>simp[Bv,Fv,Iy,Ka,hw,EW,Iz,Uj,EF,DQ,Fw,AR,AE,EK,A8] at h<;>simp<;>omega
theorem Sf (h:p:=by
  replace Hres:=D (show rP l g R g2 R2 x2 4 from .no (by simpa using Hres.out));go_wp2;exact UO (x:=x2) rfl rfl S Hres):p:=h
theorem YX (h:p:=by
  replace Hres:=D (show rP l g R g2 R2 x2 0 from .yes (by simpa using Hres.out) HRB.out HL2.out);go_wp2;exact UO (x:=x2) rfl rfl S Hres):p:=h
theorem VY (h:p:=by
  have Hn:=D (show R.node l=R2.Ml x2 (wd l 1) by simpa using Hres.out);go_wp2_with fail;refine(vo (wd l 1) _ g2 R2 (w.heap.size+1) x2 (IJ S.Ak) HL2.out).mono ?_;intro e w8 hm;unfold AgG at hm;cases hmr:R2.Ml x2 (wd l 1) with
  |error c=>
    rw[hmr] at hm;obtain⟨rfl,gW⟩:=hm;replace Hres:=D (show rP l g R g2 R2 x2 c from .no (Hn.trans hmr));have s3:=S.trans (Ai.quiet S.Ak gW);clear hmr gW hXc hXf hxl hx1 hx2 hrc hrpc hrf hrpf hlt hpl hne hyc hyf hyl S Hn;obtain⟨⟨hXc,hXf,hxl,hx1,hx2⟩,⟨hrc,hrpc,hrf,hrpf,hlt,hpl,hne⟩,hyc,hyf,hyl⟩:=F4 s3;have S:=D s3;clear s3;go_wp2;exact UO (x:=x2) rfl rfl S Hres
  |ok v3=>
    obtain⟨R3,x3⟩:=v3;rw[hmr] at hm;obtain⟨rfl,g3,AhX,gX,AjZ⟩:=hm;replace Hres:=D (show rP l g R g3 R3 x3 0 from .yes (Hn.trans hmr) (AhX.trans HRB.out) gX);have s3:=S.trans (Ai.frame S.Ak AjZ);rw[<-AhX];clear AhX gX hmr AjZ hXc hXf hxl hx1 hx2 hrc hrpc hrf hrpf hlt hpl hne hyc hyf hyl S Hn;obtain⟨⟨hXc,hXf,hxl,hx1,hx2⟩,⟨hrc,hrpc,hrf,hrpf,hlt,hpl,hne⟩,hyc,hyf,hyl⟩:=F4 s3;have S:=D s3;clear s3;go_wp2;exact UO (x:=x3) rfl rfl S Hres):p:=h
theorem wT (hne:l≠[]) (hl:Bv l=V) (h1:¬bs (wd l 0)=AR) (h2:¬bs (wd l 0)=AE) (h3:¬bs (wd l 0)=EK):
  0<J l/\((bs (wd l 0)=Fw/\(J l=3\/J l=5/\0<=Be Dc (wd l 3)))\/(bs (wd l 0)=DQ/\2<J l)\/(bs (wd l 0)=EF/\2<J l)\/(bs (wd l 0)=Iz/\1<J l)\/(bs (wd l 0)=Uj/\1<J l)\/(bs (wd l 0)=EW/\1<J l)\/bs (wd l 0)=A8):=by
 obtain⟨a,r,rfl⟩:=QL hne;obtain⟨l1,l2,l3,l4⟩:=wS hl;refine⟨EQ,?_⟩;rcases Ze a r h1 h2 h3 hl with k|k|k|k|k|k|k
 .exact .inl ⟨k,l1 k⟩
 .exact .inr (.inl ⟨k,l2 k⟩)
 .exact .inr (.inr (.inl ⟨k,l3 k⟩))
 .exact .inr (.inr (.inr (.inl ⟨k,l4 (.inl k)⟩)))
 .exact .inr (.inr (.inr (.inr (.inr (.inr k)))))
 .exact .inr (.inr (.inr (.inr (.inl ⟨k,l4 (.inr (.inl k))⟩))))
 .exact .inr (.inr (.inr (.inr (.inr (.inl ⟨k,l4 (.inr (.inr k))⟩)))))
theorem NO (s:Ai w L w' ((FU b x::g.Ay R)++E)):∃g2 R2 x2,g2=g/\R2=R/\x2=x/\Ai w L w' ((FU b x2::g2.Ay R2)++E):=⟨g,R,x,rfl,rfl,rfl,s⟩
structure yA (l:Ws) (lw:Value) (w:World) (g:RG) (R:RS) (n:Nat):Prop where
 h:Aq w (g.Ay R)
 hL:C9 g R
 hI:Pj R n
 hT:R.p.Aa≠[]
 hw:Sl w (λb=>b∉Et (g.Ay R)) lw (Bq l)
 hs:∀a,a∈l->a.size<=maxLen
 h0:0<J l
theorem yA.pre (k:yA l lw w g R n):∃wb woff wcap,lw= m9 (U ⟨wb,woff,Z⟩) (J l) wcap/\mR w l wb woff wcap g R/\w.cell? ⟨wb,woff,Z⟩=U (qA (wd l 0))/\J l<=wcap/\wcap<=2 ^ 63-1/\wb<w.heap.size/\(0:Int)<(J l:Int)/\g.rb<w.heap.size/\g.pb<w.heap.size:=
 have ⟨wb,woff,wcap,e,hd⟩:=M3 k.hw k.h0;have r:=BL k.h
 ⟨wb,woff,wcap,e,hd,hd.c 0 k.h0,hd.n0,hd.n1,hd.lt,by have:=k.h0;omega,r.lt,r.pl⟩
def Xj (l:Ws) (lw:Value) (w:World) (g:RG) (R:RS):Prop:=Calls prog 61 #[iJ g.rb,lw] w (mM (R.node l) g R w)
theorem vj (k:yA l lw w g R n) (hk:bs (wd l 0)=Fw) (h5:J l=3\/J l=5/\0<=Be Dc (wd l 3)):Xj l lw w g R:=by
 unfold Xj;obtain⟨wb,woff,wcap,rfl,hd,c0,IN,TN,Ni,Le,hlt,hpl⟩:=k.pre;have N:=D k;have Hd:=D hd;have AG:R.node l=R.node l:=rfl
 conv at AG=>rhs;unfold RS.node
 clear k hd;go_enter func61,ntmps61;simp only[hk,P7,Qh,J1] at AG;obtain⟨q0,q1,q2,q3,q4,q5,q6⟩:=Fm hk V I I I I I I rfl;have O9:(2:Int)<(J l:Int):=Y
 have KX:(1:Int)<(J l:Int):=Y
 have c2:=Hd.c 2 Y;have uC:=D (λw hr=>Lz (wd l 2) w g R hr (Kr N.hs 2));generalize R.Cz (wd l 2)=av at*;obtain⟨⟨al,ai⟩,ab⟩:=av;have Hres:=D AG;have H5:=D h5;clear hk AG h5;go_wp2_with fail;have s1:=YY 115 N.h;refine(uC _ (RJ s1.Ak N.hL)).mono ?_;rintro e w2 ⟨rfl,FM⟩;have s2:=s1.trans (Ai.quiet s1.Ak FM);clear s1 FM c0 c2 hlt hpl Ni uC;obtain⟨⟨hXc,hXf,hxl,hx1,hx2⟩,⟨hrc,hrpc,hrf,hrpf,hlt,hpl,hne⟩,hyc,hyf,hyl⟩:=F4 s2;have S:=D s2;clear s2;simp only[At.val];go_upto_region 9 with fail
 have s3:=oE S al ai;clear hXc hXf hxl hx1 hx2 hrc hrpc hrf hrpf hlt hpl hne hyc hyf hyl S;generalize World.alloc _ _=w3 at s3⊢;have yT:=Hd.mod s3.mod;have c1:=yT.c 1 Y;have Ni:=yT.lt;rcases H5.out with h5|⟨h5,gV⟩
 .have hl5:((J l:Int)==5)=I:=by rw[h5];rfl
  have AG:=Hres.out;simp only[h5,show¬(3:Nat)=5 by decide,J1] at AG;obtain⟨g2,R2,x2,hg,hR,hx,s4⟩:=NO s3;have HL2:=D (show C9 g2 R2 by rw[hg,hR];exact N.hL);have HRB:=D (show g2.rb=g.rb by rw[hg]);have Ab5:((x2.kind:Int)==115)=V:=by rw[hx];rfl
  replace Hres:=D (show R.node l=if ab then R2.Ml x2 (wd l 1) else .error 4 by rw[hx,hR];simpa using AG);clear yT h5 H5 AG hx hR hg s3;rw[<-HRB.out];obtain⟨⟨hXc,hXf,hxl,hx1,hx2⟩,⟨hrc,hrpc,hrf,hrpf,hlt,hpl,hne⟩,hyc,hyf,hyl⟩:=F4 s4;have S:=D s4;clear s4;cases ab
  .exact Sf
  .exact VY
 .have hl5:((J l:Int)==5)=V:=by rw[h5];rfl
  have gX:(3:Int)<(J l:Int):=Y
  have hl4:(4:Int)<(J l:Int):=Y
  have AG:=Hres.out;simp only[h5,Qh] at AG;have c3:=yT.c 3 Y;have c4:=yT.c 4 Y;have uC:=D (λw hr=>Lz (wd l 4) w g R hr (Kr N.hs 4));generalize R.Cz (wd l 4)=bv at*;obtain⟨⟨bl,bi⟩,bb⟩:=bv;have Ah5:=UH Dc (wd l 3);have Aj7:=λ(v:Value) (W:World) (ok:Nat->Prop) (h:Sl W ok v (Bq Dc))=>Gh Dc (wd l 3) v W ok h
  generalize Be Dc (wd l 3)=pk at*;obtain⟨pk,rfl⟩:∃m:Nat,pk=m:=⟨pk.toNat,Y⟩;have hpk:pk<12:=by
   rcases Ah5 with h|⟨_,h⟩
   .omega
   .exact Int.ofNat_lt.1 h
  have Alh:=D Aj7;simp only[JW] at AG;replace Hres:=D AG;clear yT h5 H5 Aj7 Ah5 gV AG;obtain⟨⟨hXc,hXf,hxl,hx1,hx2⟩,⟨hrc,hrpc,hrf,hrpf,hlt,hpl,hne⟩,hyc,hyf,hyl⟩:=F4 s3;have S:=D s3;clear s3;go_wp2_with fail;refine(cg _).mono ?_;rintro e w4 ⟨v1,rfl,XZ,Aj3⟩;have s4:=S.trans (Ai.quiet S.Ak XZ);replace c1:=AK XZ c1;replace c3:=AK XZ c3;replace c4:=AK XZ c4;replace Ni:wb<w4.heap.size:=JR Ni XZ.size;clear XZ hXc hXf hxl hx1 hx2 hrc hrpc hrf hrpf hlt hpl hne hyc hyf hyl S;obtain⟨⟨hXc,hXf,hxl,hx1,hx2⟩,⟨hrc,hrpc,hrf,hrpf,hlt,hpl,hne⟩,hyc,hyf,hyl⟩:=F4 s4;have S:=D s4;clear s4;have Af0:=D Aj3;clear Aj3;go_wp2_with fail;refine(bO _).mono ?_;rintro e w5 ⟨v2,rfl,hm5,AlY⟩;have s5:=S.trans (Ai.quiet S.Ak hm5);replace c1:=AK hm5 c1;replace c3:=AK hm5 c3;replace c4:=AK hm5 c4;replace Ni:wb<w5.heap.size:=JR Ni hm5.size;replace Af0:=D (Af0.mod hm5 EQ);clear hm5 hXc hXf hxl hx1 hx2 hrc hrpc hrf hrpf hlt hpl hne hyc hyf hyl S;obtain⟨⟨hXc,hXf,hxl,hx1,hx2⟩,⟨hrc,hrpc,hrf,hrpf,hlt,hpl,hne⟩,hyc,hyf,hyl⟩:=F4 s5;have S:=D s5;clear s5;go_wp2_with fail;refine(Alh v1 _ _ Af0).mono ?_;rintro e w5' ⟨rfl,rfl⟩;obtain⟨_,⟨_,hn⟩|⟨vb,voff,vcap,rfl,v1_,v2_,v3_,v4_,v5_⟩⟩:=AlY
  .exact Jk hn Do
  have AjQ:(Bq B4).length=12:=rfl;have hvc:=Sl.M9 (l:=B4) v5_ pk hpk;rw[AjQ] at v1_⊢;unfold maxLen at v2_;have AnG:(0:Int)<=(pk:Int):=JG _;have AnF:(pk:Int)<12:=Y
  clear v5_ AjQ Af0 Alh v3_;generalize wd B4 pk=vn at*;go_wp2_with fail;have s7:Ai w (g.Ay R) _ ((FU (w.heap.size+1) {Nd.of 115 with a:=⟨al,ai⟩,op:=vn}::g.Ay R)++[FU w.heap.size (.of 0)]):=S.trans (S.Ak.set (i:=0) rfl 2 (qA vn));refine(uC _ (RJ s7.Ak N.hL)).mono ?_;rintro e w6 ⟨rfl,yQ⟩;have s8:=s7.trans (Ai.quiet s7.Ak yQ);clear s7 yQ c1 c3 c4 Ni hvc v4_ uC hXc hXf hxl hx1 hx2 hrc hrpc hrf hrpf hlt hpl hne hyc hyf hyl S;obtain⟨⟨hXc,hXf,hxl,hx1,hx2⟩,⟨hrc,hrpc,hrf,hrpf,hlt,hpl,hne⟩,hyc,hyf,hyl⟩:=F4 s8;have S:=D s8;clear s8;simp only[At.val];replace Hres:=D (show∀x2 R2,x2={Nd.of 115 with a:=⟨al,ai⟩,op:=vn,b:=⟨bl,bi⟩}->R2=R->R.node l=if ab && bb then R2.Ml x2 (wd l 1) else .error 4 by rintro _ _ rfl rfl;simpa using Hres.out);cases ab<;>cases bb;all_goals
   go_upto_region 41 with fail
   have s9:=Ahn S bl bi;clear hXc hXf hxl hx1 hx2 hrc hrpc hrf hrpf hlt hpl hne hyc hyf hyl S;generalize World.alloc _ _=w7 at s9⊢;have hd7:=Hd.mod s9.mod;have c1:=hd7.c 1 Y;have Ni:=hd7.lt;obtain⟨g2,R2,x2,hg,hR,hx,s4⟩:=NO s9;have HL2:=D (show C9 g2 R2 by rw[hg,hR];exact N.hL);have HRB:=D (show g2.rb=g.rb by rw[hg]);have Ab5:((x2.kind:Int)==115)=V:=by rw[hx];rfl
   replace Hres:=D (Hres _ _ hx hR);clear hd7 hx hR hg s9;rw[<-HRB.out];obtain⟨⟨hXc,hXf,hxl,hx1,hx2⟩,⟨hrc,hrpc,hrf,hrpf,hlt,hpl,hne⟩,hyc,hyf,hyl⟩:=F4 s4;have S:=D s4;clear s4;first|exact Sf|exact VY
theorem vm (k:yA l lw w g R n) (hk:bs (wd l 0)=DQ) (hl:2<J l):Xj l lw w g R:=by
 unfold Xj;obtain⟨wb,woff,wcap,rfl,hd,c0,IN,TN,Ni,Le,hlt,hpl⟩:=k.pre;have N:=D k;have Hd:=D hd;have AG:R.node l=R.node l:=rfl
 conv at AG=>rhs;unfold RS.node
 clear k hd;go_enter func61,ntmps61;simp only[hk,P7,Qh,J1] at AG;obtain⟨q0,q1,q2,q3,q4,q5,q6⟩:=Fm hk I V I I I I I rfl;have O9:(2:Int)<(J l:Int):=Y
 have KX:(1:Int)<(J l:Int):=Y
 have c2:=Hd.c 2 hl;have Hres:=D AG;clear hk AG;go_wp2_with fail;have s1:=YY 103 N.h;refine(cC (wd l 2) l _ _ g R _ _ n (IJ s1.Ak) N.hL N.hI N.hT ((N.hw.step s1).sub iD) N.hs).mono ?_;rintro e w2 ⟨rfl,g2,lq,gj,pw⟩;have s2:=s1.trans (Ai.frame s1.Ak pw);have AG:=Hres.out;clear s1 pw c0 c2 hlt hpl Ni Hres;have Tc:(R.cell (.of 103) (wd l 2) l).2.1.kind=103:=dW R _ _ _;generalize R.cell (.of 103) (wd l 2) l=cr at s2 gj AG Tc⊢;obtain⟨R2,x2,ok2⟩:=cr;simp only[] at s2 gj AG Tc⊢;have tG:=Hd.mod s2.mod;have c1:=tG.c 1 Y;have Ni:=tG.lt;obtain⟨⟨hXc,hXf,hxl,hx1,hx2⟩,⟨hrc,hrpc,hrf,hrpf,hlt,hpl,hne⟩,hyc,hyf,hyl⟩:=F4 s2;have HRB:=D lq;rw[<-lq];have S:=D s2;have HL2:=D gj;have Hres:=D AG;have Ab5:((x2.kind:Int)==115)=I:=by rw[Tc];rfl
 have AhP:((x2.kind:Int)==103)=V:=by rw[Tc];rfl
 clear Tc AG gj s2 lq tG;cases ok2
 .exact Sf
 .exact VY
theorem vk (k:yA l lw w g R n) (hk:bs (wd l 0)=EF) (hl:2<J l):Xj l lw w g R:=by
 unfold Xj;obtain⟨wb,woff,wcap,rfl,hd,c0,IN,TN,Ni,Le,hlt,hpl⟩:=k.pre;have N:=D k;have Hd:=D hd;have AG:R.node l=R.node l:=rfl
 conv at AG=>rhs;unfold RS.node
 clear k hd;go_enter func61,ntmps61;simp only[hk,P7,Qh,J1] at AG;obtain⟨q0,q1,q2,q3,q4,q5,q6⟩:=Fm hk I I V I I I I rfl;have O9:(2:Int)<(J l:Int):=Y
 have KX:(1:Int)<(J l:Int):=Y
 have c1:=Hd.c 1 Y;have Hres:=D AG;have Am6:=D (show R.p.BX≠[] from λh0=>N.hT (Jm (by rw[<-N.out.hL.ql,h0];rfl)));have hqn:J R.p.BX<=2500:=by have:=N.hL.ql;have:=N.hI.bn;have:=N.hI.nn;omega
 clear hk AG;go_wp2_with fail;have s1:=YY 112 N.h;refine(cC (wd l 1) l _ _ g R _ _ n (IJ s1.Ak) N.hL N.hI N.hT ((N.hw.step s1).sub iD) N.hs).mono ?_;rintro e w2 ⟨rfl,g2,lq,gj,pw⟩;have s2:=s1.trans (Ai.frame s1.Ak pw);have AG:=Hres.out;clear s1 pw c0 c1 hlt hpl Ni Hres;have Tc:(R.cell (.of 112) (wd l 1) l).2.1.kind=112:=dW R _ _ _;have S8:=x8 R (.of 112) (wd l 1) l;generalize R.cell (.of 112) (wd l 1) l=cr at s2 gj AG Tc S8⊢;obtain⟨R1,x1,ok2⟩:=cr;simp only[] at s2 gj AG Tc S8⊢;have tG:=Hd.mod s2.mod;have c2:=tG.c 2 hl;have Ni:=tG.lt;rw[<-S8] at hqn;have Fa:R1.p.BX≠[]:=by rw[S8];exact Am6.out
 obtain⟨⟨hXc,hXf,hxl,hx1,hx2⟩,⟨hrc,hrpc,hrf,hrpf,hlt,hpl,hne⟩,hyc,hyf,hyl⟩:=F4 s2;rw[<-lq];have AgJ:=D Tc;have HRB:=D lq;have S:=D s2;have HL1:=D gj;have uC:=D (λw hr=>Lz (wd l 2) w g2 R1 hr (Kr N.hs 2));generalize R1.Cz (wd l 2)=av at*;obtain⟨⟨al,ai⟩,ab⟩:=av;have Hres:=D AG;clear AG gj s2 lq Tc S8 tG;go_wp2_with fail;refine(uC _ (RJ S.Ak HL1)).mono ?_;rintro e w3 ⟨rfl,gW⟩;have s3:=S.trans (Ai.quiet S.Ak gW);clear gW uC c2 Ni hXc hXf hxl hx1 hx2 hrc hrpc hrf hrpf hlt hpl hne hyc hyf hyl S;obtain⟨m,hm⟩:∃m,J R1.p.BX=m+1:=⟨J R1.p.BX-1,by have:=JE.2 Fa;omega⟩;have hq9:w3.ownsRow 0 4 1 (m9 g2.q.p (J R1.p.BX) g2.q.c) (J R1.p.BX) (Iw R1.p.BX):=(IJ s3.Ak).row (i:=10) rfl;obtain⟨qb,qc,hqe,_,Al3,AnE,AnD,Aci,Ach⟩:=Av hq9 Y;have hqv:∃v,w3.cell? ⟨qb,m,Z⟩=U v:=⟨_,Aci m (by simp[Iw,hm])⟩;obtain⟨qv,hqv⟩:=hqv;have hqr:(FU (w.heap.size+1) x1::g2.Ay R1)[10]?=U (.row (m9 (U ⟨qb,0,Z⟩) (J R1.p.BX) qc) 4 1 (J R1.p.BX) (Iw R1.p.BX)):=by rw[<-hqe];rfl
 have nxq:=OF (IJ s3.Ak) (i:=0) rfl hqr Do;have nrq:=OF (IJ s3.Ak) (i:=1) rfl hqr Do;have npq:=OF (IJ s3.Ak) (i:=2) rfl hqr Do;obtain⟨⟨hXc,hXf,hxl,hx1,hx2⟩,⟨hrc,hrpc,hrf,hrpf,hlt,hpl,hne⟩,hyc,hyf,hyl⟩:=F4 s3;rw[hqe,hm] at hrpc;have hmn:m<=2500:=Y
 have Dg:(m:Int)<((m:Int)+1):=Y
 have Zt:(0:Int)<=(m:Int):=JG _;have xi:IntKind.i64.wrap (m:Int)=(m:Int):=IntWalk.i64_in _ Y;have hqf:=Ach m;have S:=D s3;have Hqe:=D (hqe.trans (by rw[hm]));have Hm:=D hm;have Hp2:=D Fa;clear hqe hq9 Aci Ach hqr hm hqn Fa s3;simp only[At.val];replace Hres:=D (show∀x2 R2,x2={x1 with a:=⟨al,ai⟩}->R2=R1.FX->R.node l=if ok2 && ab then .ok (R2,x2) else .error 4 by rintro _ _ rfl rfl;simpa using Hres.out);cases ok2<;>cases ab;all_goals
  go_upto_region 26 with fail
  refine AF [] 17 (λW=>W.cell? ⟨g2.rb,0,Z⟩=U (iJ g2.pb)/\W.cell? ⟨g2.pb,3,Z⟩=U (m9 (U ⟨qb,0,Z⟩) (m+1) qc)) ?_ ?_
  .exact⟨by go_simp,by go_simp⟩
  refine Ds ?_;intro K hK;refine hK _ _ (λh=>Jk rfl h) ?_;simp only[BN];have t1:=S.Ak.set (i:=0) rfl 3 (qB al);have t2:=t1.Ak.set (i:=0) rfl 4 (iI ai);have t3:=vv (a:=FU (w.heap.size+1) {x1 with a:=⟨al,ai⟩}) (g:=g2) (R:=R1) (E:=[FU w.heap.size (.of 0)]) t2.Ak Hqe Hm.out;have t4:Ai w (g.Ay R) _ ((FU (w.heap.size+1) {x1 with a:=⟨al,ai⟩}::g2.Ay R1.FX)++[FU w.heap.size (.of 0)]):=S.trans (t1.trans (t2.trans t3));have t5:=t4.trans (Ai.alloc t4.Ak (qG #[qB al,iI ai] 108));have s4:=t5.trans (Ai.drew t5.Ak);clear t1 t2 t3 t4 t5 hqf nxq nrq npq hqv Al3 hXc hXf hxl hx1 hx2 hrc hrpc hrf hrpf hlt hpl hne hyc hyf hyl S;generalize World.drew _=w4 at s4⊢;obtain⟨g2,R2,x2,rfl,hR,hx,s5⟩:=NO s4;have HL2:=D (show C9 g2 R2 by rw[hR];exact ox HL1 Hp2);have Ab5:((x2.kind:Int)==115)=I:=by rw[hx];show((x1.kind:Int)==115)=I;rw[AgJ.out];rfl
  have AhP:((x2.kind:Int)==103)=I:=by rw[hx];show((x1.kind:Int)==103)=I;rw[AgJ.out];rfl
  replace Hres:=D (Hres _ _ hx hR);clear hx hR s4;obtain⟨⟨hXc,hXf,hxl,hx1,hx2⟩,⟨hrc,hrpc,hrf,hrpf,hlt,hpl,hne⟩,hyc,hyf,hyl⟩:=F4 s5;have S:=D s5;clear s5;first|exact Sf|exact YX
theorem cz (l:Ws) (lw:Value) (w:World) (g:RG) (R:RS) (n:Nat) (h:Aq w (g.Ay R)) (hL:C9 g R) (hI:Pj R n) (hT:R.p.Aa≠[])
  (hw:Sl w (λb=>b∉Et (g.Ay R)) lw (Bq l)) (hs:∀a,a∈l->a.size<=maxLen) (hne:l≠[]) (hl:Bv l=V)
  (h1:¬bs (wd l 0)=AR) (h2:¬bs (wd l 0)=AE) (h3:¬bs (wd l 0)=EK):
  Calls prog 61 #[iJ g.rb,lw] w (mM (R.node l) g R w):=by
 show Xj l lw w g R;obtain⟨Le,ho⟩:=wT hne hl h1 h2 h3;have k:yA l lw w g R n:=⟨h,hL,hI,hT,hw,hs,Le⟩;clear h hL hI hT hw hs Le hne hl h1 h2 h3;rcases ho with⟨hk,h5⟩|⟨hk,hl⟩|⟨hk,hl⟩|ho
 .exact vj k hk h5
 .exact vm k hk hl
 .exact vk k hk hl
 unfold Xj;obtain⟨wb,woff,wcap,rfl,hd,c0,IN,TN,Ni,Le,hlt,hpl⟩:=k.pre;have N:=D k;have Hd:=D hd;have AG:R.node l=R.node l:=rfl
 conv at AG=>rhs;unfold RS.node
 clear k hd;go_enter func61,ntmps61;rcases ho with⟨hk,hl⟩|⟨hk,hl⟩|⟨hk,hl⟩|hk;all_goals simp only[hk,P7,Qh,J1] at AG
 .obtain⟨q0,q1,q2,q3,q4,q5,q6⟩:=Fm hk I I I V I I I rfl;have KX:(1:Int)<(J l:Int):=Y
  have c1:=Hd.c 1 hl;have uC:=D (λw hr=>Lz (wd l 1) w g R hr (Kr N.hs 1));generalize R.Cz (wd l 1)=av at*;obtain⟨⟨al,ai⟩,ab⟩:=av;have Hres:=D AG;clear hk AG;go_wp2_with fail;have s1:=YY 111 N.h;exact mak
 .obtain⟨q0,q1,q2,q3,q4,q5,q6⟩:=Fm hk I I I I V I I rfl;have KX:(1:Int)<(J l:Int):=Y
  have c1:=Hd.c 1 hl;have uC:=D (λw hr=>Lz (wd l 1) w g R hr (Kr N.hs 1));generalize R.Cz (wd l 1)=av at*;obtain⟨⟨al,ai⟩,ab⟩:=av;have Hres:=D AG;clear hk AG;go_wp2_with fail;have s1:=YY 122 N.h;exact mak
 .obtain⟨q0,q1,q2,q3,q4,q5,q6⟩:=Fm hk I I I I I V I rfl;have KX:(1:Int)<(J l:Int):=Y
  have c1:=Hd.c 1 hl;have AiO:=D (λw=>fI (wd l 1) w (Kr N.hs 1));generalize (number (bs (wd l 1))).getD 0=nv at*;generalize (number (bs (wd l 1))).isSome=nb at*;have Hres:=D AG;clear hk AG;go_wp2_with fail;refine(AiO _).mono ?_;rintro e w' ⟨rfl,rfl⟩;go_wp2;refine bodyPost_ret (v:= qC #[({Nd.of 108 with n:=nv}:Nd).val,iI 0]) (by simp[results,results61,go_sem];rfl) rfl ?_;exact mbI
 .obtain⟨q0,q1,q2,q3,q4,q5,q6⟩:=Fm hk I I I I I I V rfl;have Hres:=D AG;clear hk AG;go_wp2_with fail;refine bodyPost_ret (v:= qC #[(Nd.of 40).val,iI 0]) (by simp[results,results61,go_sem];rfl) rfl ?_;exact mbI
def Fs (res:Except Int RS) (g:RG) (R:RS) (w:World) (e:Ending) (w':World):Prop:=
 match res with
 |.error c=>e= qF (iI c)/\Az (Et (g.Ay R)) w w'
 |.ok R'=>e= qF (iI 0)/\∃g',g'.rb=g.rb/\C9 g' R'/\Ai w (g.Ay R) w' (g'.Ay R')
theorem NZ:(prog.info? 3).map (λi=>(i.zero,i.size,i.bytes))=U (U (iI 0),1,8):=Fd
theorem oh (l:Ws) (lw:Value) (w:World) (g:RG) (R:RS) (n:Nat) (h:Aq w (g.Ay R)) (hL:C9 g R) (hI:Pj R n)
  (hw:Sl w (λb=>b∉Et (g.Ay R)) lw (Bq l)) (hs:∀a,a∈l->a.size<=maxLen) (hl:J l=2\/(J l=3/\GC (bs (wd l 2)) 6=V)):
  Calls prog 59 #[iJ g.rb,lw] w (Fs (R.Ec l) g R w):=by
 obtain⟨wb,woff,wcap,rfl,hd⟩:=M3 hw Y;obtain⟨j0,hj,Lc,Lb,Mm⟩:=info_parts Xb;obtain⟨i0,hi,Re,Va,U9⟩:=info_parts NZ;have hp:=λw' (k:Az [] w w')=>Gh R.Ax (wd l 1) (m9 g.s.p (J R.Ax) g.s.c) w' _ ((Sl.OK (h.row (i:=2) rfl)).mod k EQ)
 have AG:R.Ec l=R.Ec l:=rfl
 conv at AG=>rhs;unfold RS.Ec
 generalize hpk:Be R.Ax (wd l 1)=pk at*;have c1:=hd.c 1 Y;have Le:0<(J l:Int):=Y
 have KX:1<(J l:Int):=Y
 obtain⟨hrc,hrpc,hrf,hrpf,hlt,hpl,hne⟩:=BL h;have TN:=hd.n1;unfold maxLen at TN;have H:=D h;have HL:=D hL;have HI:=D hI;have Hp:=D hp;have Hs:=D hs;have Hd:=D hd;clear h hL hI hp hw hpk hs hd;by_cases ht:R.p.Aa=[]
 .have ht0:¬0<(J R.p.Aa:Int):=by rw[ht];decide
  rw[In (λh=>h ht)] at AG;clear ht;by_cases hk:0<=pk
  .rw[Jb hk] at AG;have Hres:=D AG;clear AG;go_enter func59,ntmps59;go_upto_region 3 with fail
   go_quiet (((go_at_call 58);(refine Calls.quiet_of_same (Hp _ ((Az.refl _ _).drewN _)))))
   go_wp2;go_ret;rw[Hres.out];exact⟨rfl,((Az.refl _ _).drewN _)⟩
  .rw[In hk] at AG;have MY:pk<0:=Y
   have Gp:∃z:Int,0<z/\z<=6/\R.Ec l=.ok {R with Ax:=R.Ax++[wd l 1],first:=R.first++[R.p.cells],size:=R.size++[z],p:={R.p with cells:=R.p.cells+z}}/\
     ((J l=2/\z=1)\/(J l=3/\(number (bs (wd l 2))).getD 0=z)):=by
    rcases hl with h2|⟨h3,h4⟩
    .exact⟨1,Y,Y,by rw[AG];simp[h2],.inl ⟨h2,rfl⟩⟩
    .unfold GC at h4;cases hnn:number (bs (wd l 2)) with
     |none=>rw[hnn] at h4;cases h4
     |some v=>
      rw[hnn] at h4;simp only[JD,JB] at h4;exact⟨v,Y,Y,by rw[AG];simp[h3,hnn],.inr ⟨h3,EQ⟩⟩
   obtain⟨z,hz,hz6,hok,hlz⟩:=Gp;have Hres:=D hok;clear AG hok hl hk;have hsn:J R.Ax<=2500:=by have:=HI.bn;have:=HI.nn;omega
   have hfn:J R.first<=2500:=by rw[HL.out.fl];exact hsn
   have hzn:J R.size<=2500:=by rw[HL.out.zl];exact hsn
   have az:=HI.c0;have ay:R.p.cells<=15000:=by have:=HI.c1;omega
   go_enter func59,ntmps59;go_upto_region 3 with fail
   go_quiet (((go_at_call 58);(refine Calls.quiet_of_same (Hp _ ((Az.refl _ _).drewN _)))))
   go_upto_if 28 with fail
   go_cut [6] (λq w'=>w'=w.drewN nq/\q= iI z)
   case first=>
    rcases hlz with⟨h2,rfl⟩|⟨h3,h4⟩
    .have O9:¬2<(J l:Int):=Y
     clear h2;go_wp2_with fail;all_goals go_meet
     exact⟨rfl,rfl⟩
    .have O9:2<(J l:Int):=Y
     have c2:=Hd.c 2 Y;clear h3;have Ah3:=λw=>fI (wd l 2) w (Kr Hs 2)
     rw[h4] at Ah3;have AiO:=D Ah3;clear Ah3 h4;go_wp2_with fail;refine(AiO _).mono ?_;rintro e w' ⟨rfl,rfl⟩;go_wp2_with fail;all_goals go_meet
     exact⟨rfl,rfl⟩
   case rest=>
    obtain⟨hwq,rfl⟩:=hcut;obtain rfl:=hwq;have s1:Ai w (g.Ay R) (w.drewN nq) (g.Ay R):=Ai.quiet H ((Az.refl _ _).drewN _);clear hrc hrpc hrf hrpf hlt hpl hne c1 Hp;have Aki:1<J l:=Y
    generalize w.drewN nq=w1 at s1⊢;have c1:=(Hd.mod s1.mod).c 1 Aki;have Ni:=(Hd.mod s1.mod).lt;obtain⟨hrc,hrpc,hrf,hrpf,hlt,hpl,hne⟩:=BL s1.Ak;have S:=D s1;clear s1;go_upto_region 9 with fail
    refine AF [8,9] 12 (λW=>W.cell? ⟨g.rb,1,Z⟩=U (m9 g.s.p (J R.Ax) g.s.c)/\W.cell? ⟨wb,woff+1,Z⟩=U (qA (wd l 1))) ?_ ?_
    .exact mbO
    refine Ds ?_;intro K hK;refine hK _ _ (λ_=>⟨by go_simp,by go_simp⟩) ?_;refine AI rfl (λK hK=>?_);refine BV 16 _ _ _ j0 _ #[qA (wd l 1)] _ S.Ak (k:=2) rfl Eq Eq underlying90 hj Lc Lb Mm rfl Y Eq Eq rfl (by simp[Value.oneCell']) (by unfold maxLen;omega) Y ?_;intro g6 AL w6 Aw _;rw[WS] at Aw;have z1:w6.cell? ⟨g.rb,1,Z⟩=U (m9 g.s.p (J R.Ax) g.s.c):=(Aw.Ak.Ao (i:=0) rfl).cell 1;have z2:=(Hd.mod (S.trans Aw).mod).c 1 Aki;have zf:=(Aw.Ak.Ao (i:=0) rfl).free 1;refine hK _ _ (λ_=>⟨z1,z2⟩) (D3 rfl ?_);simp only[FH];refine Ds ?_;intro K hK;refine hK _ _ (λh=>Jk rfl h) ?_;simp only[BN];clear z1 z2;have t1:=Aw.Ak.set (i:=0) rfl 1 (m9 (U ⟨g6,0,Z⟩) (J R.Ax+1) AL);have s2:Ai w (g.Ay R) (w6.setCell ⟨g.rb,1,Z⟩ (m9 (U ⟨g6,0,Z⟩) (J R.Ax+1) AL)) (RG.Ay {g with s:=⟨U ⟨g6,0,Z⟩,AL⟩} {R with Ax:=R.Ax++[wd l 1]}):=by
     have e:(R.Ax++[wd l 1]).length=J R.Ax+1:=EQ
     exact maP
    clear t1 Aw hrc hrpc hrf hrpf hlt hpl hne c1 S zf;generalize w6.setCell {block:=g.rb,off:=1} (m9 (U {block:=g6,off:=0}) (J R.Ax+1) AL)=w2 at s2⊢;obtain⟨hrc,hrpc,hrf,hrpf,hlt,hpl,hne⟩:=BL s2.Ak;have S:=D s2;clear s2;go_upto_region 10 with fail
    refine AF [12,13] 16 (λW=>W.cell? ⟨g.rb,2,Z⟩=U (m9 g.f.p (J R.first) g.f.c)/\W.cell? ⟨g.rb,0,Z⟩=U (iJ g.pb)/\W.cell? ⟨g.pb,1,Z⟩=U (iI R.p.cells)) ?_ ?_
    .exact mbP
    refine Ds ?_;intro K hK;refine hK _ _ (λ_=>⟨by go_simp,by go_simp,by go_simp⟩) ?_;refine AI rfl (λK hK=>?_);refine BV 8 _ _ _ i0 _ #[iI R.p.cells] _ S.Ak (k:=3) rfl Eq Eq underlying29 hi Re Va U9 rfl Y Eq Eq rfl (by simp[Value.oneCell']) (show J R.first+1<=maxLen by unfold maxLen;omega) (show(J R.first+1)*8<=_ by omega) ?_;intro g7 Vq w7 Aw _;rw[Xa] at Aw;have z1:w7.cell? ⟨g.rb,2,Z⟩=U (m9 g.f.p (J R.first) g.f.c):=(Aw.Ak.Ao (i:=0) rfl).cell 2;have z2:w7.cell? ⟨g.rb,0,Z⟩=U (iJ g.pb):=(Aw.Ak.Ao (i:=0) rfl).cell 0;have z3:w7.cell? ⟨g.pb,1,Z⟩=U (iI R.p.cells):=(Aw.Ak.Ao (i:=1) rfl).cell 1;have zf:=(Aw.Ak.Ao (i:=0) rfl).free 2;refine hK _ _ (λ_=>⟨z1,z2,z3⟩) (D3 rfl ?_);simp only[FH];refine Ds ?_;intro K hK;refine hK _ _ (λh=>Jk rfl h) ?_;simp only[BN];clear z1 z2 z3;have t1:=Aw.Ak.set (i:=0) rfl 2 (m9 (U ⟨g7,0,Z⟩) (J R.first+1) Vq);have s3:Ai w (g.Ay R) (w7.setCell ⟨g.rb,2,Z⟩ (m9 (U ⟨g7,0,Z⟩) (J R.first+1) Vq)) (RG.Ay {g with s:=⟨U ⟨g6,0,Z⟩,AL⟩,f:=⟨U ⟨g7,0,Z⟩,Vq⟩} {R with Ax:=R.Ax++[wd l 1],first:=R.first++[R.p.cells]}):=by
     have e:(R.first++[R.p.cells]).length=J R.first+1:=EQ
     exact maP
    clear t1 Aw hrc hrpc hrf hrpf hlt hpl hne S zf;generalize w7.setCell {block:=g.rb,off:=2} (m9 (U {block:=g7,off:=0}) (J R.first+1) Vq)=w3 at s3⊢;obtain⟨hrc,hrpc,hrf,hrpf,hlt,hpl,hne⟩:=BL s3.Ak;have S:=D s3;clear s3;go_upto_region 12 with(first|(at_builtin;refine Bm 8 _ _ _ i0 _ #[iI z] _ S.Ak (k:=4) rfl Eq Eq underlying29 hi Re Va U9 rfl Y Eq Eq rfl (by simp[Value.oneCell']) (show J R.size+1<=maxLen by unfold maxLen;omega) (show(J R.size+1)*8<=_ by omega) ?_;intro g8 XE w8 Aw _;rw[Xa] at Aw;have q1:=(Aw.Ak.Ao (i:=0) rfl).cell;have q2:=(Aw.Ak.Ao (i:=0) rfl).free;have q3:=(Aw.Ak.Ao (i:=0) rfl).lt;have GK:=D Aw;clear Aw hrc hrpc hrf hrpf hlt hpl hne))
    have Aw:=GK.out;have t1:=Aw.Ak.set (i:=0) rfl 3 (m9 (U ⟨g8,0,Z⟩) (J R.size+1) XE);have s4:Ai w (g.Ay R) (w8.setCell ⟨g.rb,3,Z⟩ (m9 (U ⟨g8,0,Z⟩) (J R.size+1) XE)) (RG.Ay {g with s:=⟨U ⟨g6,0,Z⟩,AL⟩,f:=⟨U ⟨g7,0,Z⟩,Vq⟩,z:=⟨U ⟨g8,0,Z⟩,XE⟩} {R with Ax:=R.Ax++[wd l 1],first:=R.first++[R.p.cells],size:=R.size++[z]}):=by
     have e:(R.size++[z]).length=J R.size+1:=EQ
     exact maP
    clear t1 Aw q1 q2 q3 S GK;generalize w8.setCell {block:=g.rb,off:=3} (m9 (U {block:=g8,off:=0}) (J R.size+1) XE)=w4 at s4⊢;obtain⟨hrc,hrpc,hrf,hrpf,hlt,hpl,hne⟩:=BL s4.Ak;have S:=D s4;clear s4;have xi:IntKind.i64.wrap (R.p.cells+z)=R.p.cells+z:=IntWalk.i64_in _ Y;go_upto_region 12 with fail
    refine AF [] 15 (λW=>W.cell? ⟨g.rb,0,Z⟩=U (iJ g.pb)/\W.cell? ⟨g.pb,1,Z⟩=U (iI R.p.cells)) ?_ ?_
    .exact mbO
    refine Ds ?_;intro K hK;refine hK _ _ (λh=>Jk rfl h) ?_;simp only[BN];have t1:=S.Ak.set (i:=1) rfl 1 (iI (R.p.cells+z));have s5:Ai w (g.Ay R) (w4.setCell ⟨g.pb,1,Z⟩ (iI (R.p.cells+z))) (RG.Ay {g with s:=⟨U ⟨g6,0,Z⟩,AL⟩,f:=⟨U ⟨g7,0,Z⟩,Vq⟩,z:=⟨U ⟨g8,0,Z⟩,XE⟩} {R with Ax:=R.Ax++[wd l 1],first:=R.first++[R.p.cells],size:=R.size++[z],p:={R.p with cells:=R.p.cells+z}}):=S.trans t1;have s6:=s5.trans (Ai.drew s5.Ak);go_wp2;go_ret;rw[Hres.out];exact⟨rfl,{g with s:=⟨U ⟨g6,0,Z⟩,AL⟩,f:=⟨U ⟨g7,0,Z⟩,Vq⟩,z:=⟨U ⟨g8,0,Z⟩,XE⟩},rfl,⟨HL.cl,HL.dl,HL.ql,HL.tl,by simp[HL.out.fl],by simp[HL.out.zl],HL.ll⟩,s6⟩
 .have ht0:0<(J R.p.Aa:Int):=by have:=JE.2 ht;omega
  rw[Jb ht] at AG;have Hres:=D AG;clear AG;go_enter func59,ntmps59;go_wp2_with fail;go_ret;rw[Hres.out];exact⟨rfl,Az.refl _ _⟩
theorem DZ (l:List Nd):(Bk l).length=J l*14:=by
 induction l with
 |nil=>rfl
 |cons a r ih=>
  have:(Nd.cells a).length=14:=rfl;simp only[Bk,JV,GT,Jg] at ih⊢;omega
theorem Ir (l:List Nd) (i j:Nat) (hi:i<J l) (hj:j<14):(Bk l)[i*14+j]?=(Nd.cells (l.getD i (.of 0)))[j]?:=by
 induction l generalizing i with
 |nil=>simp at hi
 |cons a r ih=>
  have OR:(Nd.cells a).length=14:=rfl;cases i with
  |zero=>
   simp only[Bk,JV,Nat.zero_mul,JH,jH];rw[J5 Y]
  |succ i=>
   simp only[Bk,JV,jI];rw[JY Y,OR,show(i+1)*14+j-14=i*14+j by omega];exact ih i (by simpa using hi)
theorem kB (l:List Nd) (i:Nat) (hi:i<J l) (n:Int):(Bk l).set (i*14+11) (iI n)=Bk (l.set i {l.getD i (.of 0) with CL:=n}):=by
 induction l generalizing i with
 |nil=>simp at hi
 |cons a r ih=>
  cases i with
  |zero=>rfl
  |succ i=>
   have OR:(Nd.cells a).length=14:=rfl;simp only[Bk,JV,jI,QI];rw[Qd _ _ Y,OR,show(i+1)*14+11-14=i*14+11 by omega];congr 1;exact ih i (by simpa using hi)
theorem Gi (l:List Nd) (x:Nd):Bk l++x.cells=Bk (l++[x]):=by simp[Bk]
theorem V8:(prog.info? 110).map (λi=>(i.zero,i.size,i.bytes))=U (U (Nd.of 0).val,14,120):=Fd
def RG.ten (g:RG) (R:RS):List Ob:=
 [.Ao g.rb #[iJ g.pb,m9 g.s.p (J R.Ax) g.s.c,m9 g.f.p (J R.first) g.f.c,m9 g.z.p (J R.size) g.z.c,m9 g.l.p (J R.AA) g.l.c,m9 g.o.p (J R.Ad) g.o.c,iI R.Ah,qB I,iI 0] 94,
  .Ao g.pb #[m9 g.t.p (J R.p.Aa) g.t.c,iI R.p.cells,m9 g.u.p (J R.p.Ap) g.u.c,m9 g.q.p (J R.p.BX) g.q.c] 53,
  LP g.s R.Ax,P9 g.f R.first,P9 g.z R.size,LP g.l R.AA,IK g.o R.Ad,
  .row (m9 g.t.p (J R.p.Aa) g.t.c) 72 1 (J R.p.Aa) (BF g.cv R.p.Aa),
  .row (m9 g.u.p (J R.p.Ap) g.u.c) 51 1 (J R.p.Ap) (BF g.dv R.p.Ap),
  Cq g.q R.p.BX]
theorem YW {l:List Nd} (hv:g.cv=vs++[c]) (ht:R.p.Aa=ts++[l]) (hl:J vs=J ts):
  g.Ay R=(g.ten R++List.zipWith CK vs ts)++CK c l::List.zipWith Cq g.dv R.p.Ap:=by
 show g.ten R++(List.zipWith CK g.cv R.p.Aa++List.zipWith Cq g.dv R.p.Ap)=_;rw[hv,ht,Qs hl];simp
theorem AdY (g:RG) (R:RS):(g.ten R).length=10:=rfl
theorem dr (g:RG) (R:RS) {vs:List SG} {ts:List (List Nd)} (hl:J vs=J ts):(g.ten R++List.zipWith CK vs ts).length=J ts+10:=by
 simp[AdY,hl];omega
theorem tY {l:List Nd} (hv:g.cv=vs++[c]) (ht:R.p.Aa=ts++[l]) (hl:J vs=J ts) (a:Ob) (c':SG) (l':List Nd):
  (((g.Ay R).set (J ts+10) a).set (J ts+10) (CK c' l')).set 7 (.row (m9 g.t.p (J R.p.Aa) g.t.c) 72 1 (J R.p.Aa) (BF (vs++[c']) (ts++[l'])))=RG.Ay {g with cv:=vs++[c']} (R.BA l'):=by
 have e1:(R.BA l').p.Aa=ts++[l']:=Mx ht;have e2:(R.BA l').p.Aa.length=J R.p.Aa:=by rw[e1,ht];simp
 rw[YW (g:={g with cv:=vs++[c']}) (R:=R.BA l') rfl e1 hl,YW hv ht hl];rw[<-dr g R hl,fL,fL];unfold RG.ten;rw[e2,e1];rfl
theorem OU {l:List Nd} (hv:g.cv=vs++[c]) (ht:R.p.Aa=ts++[l]) (h:C9 g R) (c':SG) (l':List Nd) (o:SG):C9 {g with cv:=vs++[c'],o:=o} (R.BA l'):=by
 have e1:(R.BA l').p.Aa=ts++[l']:=Mx ht;have e2:(R.BA l').p.Aa.length=J R.p.Aa:=by rw[e1,ht];simp
 refine⟨?_,h.dl,h.ql.trans e2.symm,h.tl.trans e2.symm,h.fl,h.zl,h.ll⟩;rw[e2,<-h.cl,hv];simp
theorem sQ (h:Aq w L) {i j b c:Nat} {e e':TypeId} {s s' n n' m m' cap cap':Nat} {xs ys:List Value} (hi:L[i]?=U (.row (m9 (U ⟨b,0,Z⟩) m cap) e s n xs)) (hj:L[j]?=U (.row (m9 (U ⟨c,0,Z⟩) m' cap') e' s' n' ys)) (hij:i≠j):b≠c:=λh'=>by
 have:=h.far hi hj hij b (by simp[Ob.fp,Value.ownBlock]);exact this (by rw[h'];simp[Ob.fp,Value.ownBlock])
theorem Uy {α:Type} {L:List α} {i:Nat} {o x:α} (h:L[i]?=U o):(L.set i x)[i]?=U x:=by
 rw[List.getElem?_set_self];exact(Jn.1 h).1
theorem Wk {w6:World} {l m:List Nd} {AL g6:Nat} (hv:g.cv=vs++[c]) (ht:R.p.Aa=ts++[l]) (hl:J vs=J ts) (FE:AN<J m)
  (hit:(g.Ay R)[J ts+10]?=U (.row (m9 (U ⟨lb,0,Z⟩) (J l) lc) 110 14 (J l) (Bk l)))
  (Ul:m9 g.t.p (J R.p.Aa) g.t.c= m9 (U ⟨tb,0,Z⟩) (J ts+1) tc)
  (Aw:Ai W (g.Ay R) w6 ((g.Ay R).set (J ts+10) (.row (m9 (U ⟨g6,0,Z⟩) (J m) AL) 110 14 (J m) (Bk m)))):
  Ai W (g.Ay R) ((w6.setCell ⟨g6,AN*14+11,Z⟩ (iI (J m))).setCell ⟨tb,J ts,Z⟩ (m9 (U ⟨g6,0,Z⟩) (J m) AL))
   (RG.Ay {g with cv:=vs++[⟨U ⟨g6,0,Z⟩,AL⟩]} (R.BA (m.set AN {m.getD AN (.of 0) with CL:=J m}))):=by
 have t1:=Aw.Ak.ET (Uy hit) (AN*14+11) (by rw[DZ];omega) (iI (J m));rw[kB _ _ FE] at t1;have h7:∀L:Ob,∀M:Ob,(((g.Ay R).set (J ts+10) L).set (J ts+10) M)[7]?=U (.row (m9 (U ⟨tb,0,Z⟩) (J ts+1) tc) 72 1 (J ts+1) (BF g.cv R.p.Aa)):=λL M=>by
  exact maS
 have t2:=t1.Ak.ET (h7 _ _) (J ts) (by rw[hv,ht,Bu _ _ _ _ hl,GT,Ch _ _ hl];simp) (m9 (U ⟨g6,0,Z⟩) (J m) AL);have e3:(BF g.cv R.p.Aa).set (J ts) (m9 (U ⟨g6,0,Z⟩) (J m) AL)=BF (vs++[⟨U ⟨g6,0,Z⟩,AL⟩]) (ts++[m.set AN {m.getD AN (.of 0) with CL:=J m}]):=by
  exact mbm
 rw[e3] at t2;have e4:Ob.row (m9 (U ⟨g6,0,Z⟩) (J m) AL) 110 14 (J m) (Bk (m.set AN {m.getD AN (.of 0) with CL:=J m}))=CK ⟨U ⟨g6,0,Z⟩,AL⟩ (m.set AN {m.getD AN (.of 0) with CL:=J m}):=by
  unfold CK;rw[Ju]
 rw[e4] at t1 t2;have e5:Ob.row (m9 (U ⟨tb,0,Z⟩) (J ts+1) tc) 72 1 (J ts+1) (BF (vs++[⟨U ⟨g6,0,Z⟩,AL⟩]) (ts++[m.set AN {m.getD AN (.of 0) with CL:=J m}]))=
   .row (m9 g.t.p (J R.p.Aa) g.t.c) 72 1 (J R.p.Aa) (BF (vs++[⟨U ⟨g6,0,Z⟩,AL⟩]) (ts++[m.set AN {m.getD AN (.of 0) with CL:=J m}])):=by
  rw[Ul,ht];simp
 rw[e5,tY hv ht hl] at t2;exact Aw.trans (t1.trans t2)
theorem pZ {l:List Nd} (hv:g.cv=vs++[c]) (ht:R.p.Aa=ts++[l]) (hl:J vs=J ts) (FE:AN<J l)
  (hit:(g.Ay R)[J ts+10]?=U (.row (m9 (U ⟨lb,0,Z⟩) (J l) lc) 110 14 (J l) (Bk l)))
  (Ul:m9 g.t.p (J R.p.Aa) g.t.c= m9 (U ⟨tb,0,Z⟩) (J ts+1) tc) (Ak:Aq W (g.Ay R)):
  Ai W (g.Ay R) ((W.setCell ⟨lb,AN*14+11,Z⟩ (iI (J l))).setCell ⟨tb,J ts,Z⟩ (m9 (U ⟨lb,0,Z⟩) (J l) lc))
   (RG.Ay {g with cv:=vs++[⟨U ⟨lb,0,Z⟩,lc⟩]} (R.BA (l.set AN {l.getD AN (.of 0) with CL:=J l}))):=by
 refine Wk (m:=l) hv ht hl FE hit Ul ?_;obtain⟨hlt,he⟩:=Jn.1 hit;rw[<-he,List.set_getElem_self];exact Ai.refl Ak
theorem AaT (w:World) (g:RG) (R:RS) (n:Nat) (h:Aq w (g.Ay R)) (hL:C9 g R) (hI:Pj R n) (hO:Wy R):
  Calls prog 60 #[iJ g.rb] w (Fs R.Px g R w):=by
 obtain⟨j0,hj,Lc,Lb,Mm⟩:=info_parts V8;obtain⟨hrc,hrpc,hrf,hrpf,hlt,hpl,hne⟩:=BL h;have AG:R.Px=R.Px:=rfl
 conv at AG=>rhs;unfold RS.Px
 rcases Jv R.Ad with h0|⟨os,AN,h0⟩
 .rw[h0] at AG;simp only[List.getLast?_nil] at AG;rw[h0] at hrc;have Hres:=D AG;clear h hL hI hO AG h0 hj Lc Lb Mm;simp only[Jw] at hrc;go_enter func60,ntmps60;go_wp2_with fail;go_ret;rw[Hres.out];exact⟨rfl,Az.refl _ _⟩
 .rw[Jy] at h0;rw[h0] at AG;simp only[Qj,NE,QJ,PP] at AG;have hT:=hO.ne (by rw[h0];simp);obtain⟨vs,c,ts,l,hv,ht,FD⟩:=NX hL.cl hT;have IP:=DB ht;rw[IP] at AG;have FE:AN<J l:=by rw[<-IP];exact hO.lt AN (by rw[h0];simp)
  have aY:J l<=100:=by rw[<-IP];exact hO.nl
  have Ro:J os<=2:=by have:=hO.ol;rw[h0] at this;simp at this;omega
  have xn:J ts<=2500:=by have:=hI.bn;have:=hI.nn;rw[ht] at*;simp at*;omega
  have Zq:=YW hv ht FD;have Agn:=h.row (i:=6) rfl;obtain⟨ob,oc,hoe,_,Afa,Al9,AnI,Rp,Ack⟩:=Av Agn (by rw[h0];simp);rw[h0,GT,JN] at Al9;have lx:w.cell? ⟨ob,J os,Z⟩=U (iI (AN:Int)):=by
   rw[Rp (J os) (by simp[CD,Fc,h0])];simp[CD,Fc,h0]
  have Agm:=h.row (i:=7) rfl;obtain⟨tb,tc,Ul,_,Ae7,_,AnC,Rh,Ab8⟩:=Av Agm (by rw[ht];simp);have fW:w.cell? ⟨tb,J ts,Z⟩=U (m9 c.p (J l) c.c):=by
   rw[Rh (J ts) (by rw[hv,ht,Bu _ _ _ _ FD,GT,Ch _ _ FD];simp)];simp only[hv,ht,Bu _ _ _ _ FD];rw[QN (by rw[Ch _ _ FD];omega)];simp
  have hit:(g.Ay R)[J ts+10]?=U (CK c l):=by rw[Zq,<-dr g R FD];exact Sg
  have Agj:=h.row hit;obtain⟨lb,lc,hle,_,Afd,_,AnT,Rq,Acn⟩:=Av Agj Y;have EG:∀j,j<14->w.cell? ⟨lb,AN*14+j,Z⟩=(Nd.cells (l.getD AN (.of 0)))[j]?:=λj hj=>by
   have hlt:AN*14+j<(Bk l).length:=by rw[DZ];omega
   rw[Rq _ hlt,<-Ja,Ir l AN j FE hj]
  rw[hoe,h0] at hrc;rw[Ul,ht] at hrpc;rw[hle] at fW;simp only[GT,JN] at hrc hrpc;generalize hx:l.getD AN (.of 0)=x at*;have IN:w.cell? ⟨lb,AN*14,Z⟩=U (.int .u8 x.kind):=EG 0 Y;have Akc:w.cell? ⟨lb,AN*14+13,Z⟩=U (iI x.Af):=EG 13 Y;have Afe:(g.Ay R)[J ts+10]?=U (.row (m9 (U ⟨lb,0,Z⟩) (J l) lc) 110 14 (J l) (Bk l)):=by rw[hit];unfold CK;rw[hle]
  have h6r:(g.Ay R)[6]?=U (.row (m9 (U ⟨ob,0,Z⟩) (J os+1) oc) 3 1 (J os+1) (CD (Fc R.Ad))):=by
   show U (IK g.o R.Ad)=_;unfold IK;rw[hoe,h0];simp
  have h7r:(g.Ay R)[7]?=U (.row (m9 (U ⟨tb,0,Z⟩) (J ts+1) tc) 72 1 (J ts+1) (BF g.cv R.p.Aa)):=by
   exact maS
  have n2:=OF h (i:=0) rfl h7r Y;have n3:=OF h (i:=1) rfl Afe Y;have n4:lb≠tb:=λe=>by
   have:=h.far Afe h7r Y lb (by simp[Ob.fp,Value.ownBlock]);exact this (by rw[e];simp[Ob.fp,Value.ownBlock])
  have Anb:=D Afe;have H6r:=D h6r;have H7r:=D h7r;clear Afe h6r h7r;have H:=D h;have HL:=D hL;have Hres:=D AG;have H0:=D h0;have Hv:=D hv;have Ht:=D ht;have XH:=D FD;have bH:=D Ul;have Hx:=D hx;have Sy:=D EG;clear h hL hI hO AG h0 hv ht hoe Ul hle hit Zq Agn Agm Agj Rp Rh Rq hT IP hx EG;have Lo:(0:Int)<=(AN:Int):=JG _;have lI:(AN:Int)<(J l:Int):=Y
  have ho0:(0:Int)<=(J os:Int):=JG _;have Xr:(J os:Int)<=(oc:Int):=Y
  have Vf:(J os:Int)<((J os:Int)+1):=Y
  have ht1:(J ts:Int)<((J ts:Int)+1):=Y
  go_enter func60,ntmps60;go_upto_region 9 with fail
  have S:Hid (Ai w (g.Ay R) (w.setCell ⟨g.rb,5,Z⟩ (m9 (U ⟨ob,0,Z⟩) (J os) oc)) (RG.Ay {g with o:=⟨U ⟨ob,0,Z⟩,oc⟩} {R with Ad:=os})):=by
   refine D ?_;have t1:=H.set (i:=0) rfl 5 (m9 (U ⟨ob,0,Z⟩) (J os) oc);have t2:=t1.Ak.take (i:=6) H6r (J os) Y;have e:(CD (Fc R.Ad)).take (J os*1)=CD (Fc os):=by rw[H0.out];simp[CD,Fc]
   rw[e] at t2;exact t1.trans t2
  have Htp:=D (show m9 g.t.p (J R.p.Aa) g.t.c= m9 (U ⟨tb,0,Z⟩) (J ts+1) tc by rw[bH.out,Ht.out];simp);have eH:=D (show J ts<(BF g.cv R.p.Aa).length by rw[Hv.out,Ht.out,Bu _ _ _ _ XH.out,GT,Ch _ _ XH.out];simp);have bJ:Hid ((RG.Ay {g with o:=⟨U ⟨ob,0,Z⟩,oc⟩} {R with Ad:=os})[J ts+10]?=U (.row (m9 (U ⟨lb,0,Z⟩) (J l) lc) 110 14 (J l) (Bk l))):=D Anb.out;by_cases k40:x.kind=40
  .have hk:((x.kind:Int)==40)=V:=by rw[k40];rfl
   have K:=D k40;clear k40;go_upto_region 13 with(first|(at_builtin;refine Ke 120 _ _ _ j0 _ #[.int .u8 41,iI 0,.string ⟨#[]⟩,qB I,iI 0,qB I,iI 0,qB I,iI 0,iI 0,iI 0,iI 0,iI 0,iI 0] _ w.heap.size EQ S.Ak (k:=J ts+10) bJ Eq Eq underlying72 hj Lc Lb Mm rfl Y Eq Eq rfl (by simp[Value.oneCell']) (by unfold maxLen;omega) Y ?_;intro g6 AL w6 Aw _))
   rw[show Bk l++(#[.int .u8 41,iI 0,qA ⟨#[]⟩,qB I,iI 0,qB I,iI 0,qB I,iI 0,iI 0,iI 0,iI 0,iI 0,iI 0]:Array Value).toList=Bk (l++[Nd.of 41]) from Gi l (Nd.of 41)] at Aw;obtain⟨qc,qf,ql⟩:=A4 (Aw.Ak.row (Uy bJ));have qv:∃v,w6.cell? ⟨g6,AN*14+11,Z⟩=U v:=⟨_,qc _ (by rw[DZ];simp;omega)⟩;obtain⟨qv,qv1⟩:=qv;replace qf:=qf (AN*14+11);have r0:=(Aw.Ak.Ao (i:=0) rfl).cell 0;have r1:=(Aw.Ak.Ao (i:=1) rfl).cell 0;obtain⟨tcl,tf,tl⟩:=A4 (Aw.Ak.row (i:=7) H7r);have tv:∃v,w6.cell? ⟨tb,J ts,Z⟩=U v:=⟨_,tcl (J ts) eH⟩;obtain⟨tv,tv1⟩:=tv;replace tf:=tf (J ts);have m3:=sQ Aw.Ak (i:=J ts+10) (j:=7) (Uy bJ) H7r Y;rw[Htp.out] at r1;have GK:=D Aw;clear Aw qc tcl hrc hrpc hrf hrpf hlt hpl hne lx fW IN Akc n2 n3 n4 Afa Ae7 Afd Ack Ab8 Acn;go_wp2;go_ret;have hlen:(l++[Nd.of 41]).length=J l+1:=EQ
   have Aw:=GK.out;rw[<-hlen] at Aw;have hm:=Wk (g:={g with o:=⟨U ⟨ob,0,Z⟩,oc⟩}) (R:={R with Ad:=os}) (m:=l++[Nd.of 41]) (AN:=AN) (c:=c) Hv Ht XH (by simp;omega) bJ Htp Aw;have hr:R.Px=.ok (RS.BA {R with Ad:=os} ((l++[Nd.of 41]).set AN {(l++[Nd.of 41]).getD AN (.of 0) with CL:=((l++[Nd.of 41]).length:Int)})):=by rw[Hres.out];simp[K.out]
   rw[hr];refine⟨rfl,{g with cv:=vs++[⟨U ⟨g6,0,Z⟩,AL⟩],o:=⟨U ⟨ob,0,Z⟩,oc⟩},rfl,OU (R:={R with Ad:=os}) Hv Ht ⟨HL.cl,HL.dl,HL.ql,HL.tl,HL.fl,HL.zl,HL.ll⟩ _ _ _,?_⟩;have hq:=S.trans hm;rw[hlen] at hq⊢;exact hq
  .have hk:((x.kind:Int)==40)=I:=by rw[Jh];omega
   by_cases k108:x.kind=108
   .have Mo:((x.kind:Int)==108)=V:=by rw[k108];rfl
    have K:=D k108;clear k108 k40;have xi:IntKind.i64.wrap ((AN:Int)+1)=(AN:Int)+1:=IntWalk.i64_in _ Y;go_upto_region 13 with(first|(at_builtin;refine Ke 120 _ _ _ j0 _ #[.int .u8 98,iI 0,.string ⟨#[]⟩,qB I,iI 0,qB I,iI 0,qB I,iI 0,iI 0,iI 0,iI ((AN:Int)+1),iI 0,iI x.Af] _ w.heap.size EQ S.Ak (k:=J ts+10) bJ Eq Eq underlying72 hj Lc Lb Mm rfl Y Eq Eq rfl (by simp[Value.oneCell']) (by unfold maxLen;omega) Y ?_;intro g6 AL w6 Aw _))
    rw[show Bk l++(#[.int .u8 98,iI 0,qA ⟨#[]⟩,qB I,iI 0,qB I,iI 0,qB I,iI 0,iI 0,iI 0,iI ((AN:Int)+1),iI 0,iI x.Af]:Array Value).toList=Bk (l++[({Nd.of 98 with CL:=(AN:Int)+1,Af:=x.Af}:Nd)]) from Gi l ({Nd.of 98 with CL:=(AN:Int)+1,Af:=x.Af}:Nd)] at Aw;obtain⟨qc,qf,ql⟩:=A4 (Aw.Ak.row (Uy bJ));have qv:∃v,w6.cell? ⟨g6,AN*14+11,Z⟩=U v:=⟨_,qc _ (by rw[DZ];simp;omega)⟩;obtain⟨qv,qv1⟩:=qv;replace qf:=qf (AN*14+11);have r0:=(Aw.Ak.Ao (i:=0) rfl).cell 0;have r1:=(Aw.Ak.Ao (i:=1) rfl).cell 0;obtain⟨tcl,tf,tl⟩:=A4 (Aw.Ak.row (i:=7) H7r);have tv:∃v,w6.cell? ⟨tb,J ts,Z⟩=U v:=⟨_,tcl (J ts) eH⟩;obtain⟨tv,tv1⟩:=tv;replace tf:=tf (J ts);have m3:=sQ Aw.Ak (i:=J ts+10) (j:=7) (Uy bJ) H7r Y;rw[Htp.out] at r1;have GK:=D Aw;clear Aw qc tcl hrc hrpc hrf hrpf hlt hpl hne lx fW IN Akc n2 n3 n4 Afa Ae7 Afd Ack Ab8 Acn;go_wp2;go_ret;have hlen:(l++[({Nd.of 98 with CL:=(AN:Int)+1,Af:=x.Af}:Nd)]).length=J l+1:=EQ
    have Aw:=GK.out;rw[<-hlen] at Aw;have hm:=Wk (g:={g with o:=⟨U ⟨ob,0,Z⟩,oc⟩}) (R:={R with Ad:=os}) (m:=l++[({Nd.of 98 with CL:=(AN:Int)+1,Af:=x.Af}:Nd)]) (AN:=AN) (c:=c) Hv Ht XH (by simp;omega) bJ Htp Aw;have hr:R.Px=.ok (RS.BA {R with Ad:=os} ((l++[({Nd.of 98 with CL:=(AN:Int)+1,Af:=x.Af}:Nd)]).set AN {(l++[({Nd.of 98 with CL:=(AN:Int)+1,Af:=x.Af}:Nd)]).getD AN (.of 0) with CL:=((l++[({Nd.of 98 with CL:=(AN:Int)+1,Af:=x.Af}:Nd)]).length:Int)})):=by rw[Hres.out];simp[K.out,Hx.out]
    rw[hr];refine⟨rfl,{g with cv:=vs++[⟨U ⟨g6,0,Z⟩,AL⟩],o:=⟨U ⟨ob,0,Z⟩,oc⟩},rfl,OU (R:={R with Ad:=os}) Hv Ht ⟨HL.cl,HL.dl,HL.ql,HL.tl,HL.fl,HL.zl,HL.ll⟩ _ _ _,?_⟩;have hq:=S.trans hm;rw[hlen] at hq⊢;exact hq
   .have Mo:((x.kind:Int)==108)=I:=by rw[Jh];omega
    have K:=D k108;have K4:=D k40;clear k108 k40;go_upto_region 13 with fail
    obtain⟨qc,qf,ql⟩:=A4 (S.Ak.row bJ);have qv:∃v,(w.setCell ⟨g.rb,5,Z⟩ (m9 (U ⟨ob,0,Z⟩) (J os) oc)).cell? ⟨lb,AN*14+11,Z⟩=U v:=⟨_,qc _ (by rw[DZ];omega)⟩;obtain⟨qv,qv1⟩:=qv;have Akd:∃v,w.cell? ⟨lb,AN*14+11,Z⟩=U v:=⟨_,Sy 11 Y⟩;obtain⟨v11,Akd⟩:=Akd;clear qc qf ql qv1;go_wp2;go_ret;have hm:=pZ (g:={g with o:=⟨U ⟨ob,0,Z⟩,oc⟩}) (R:={R with Ad:=os}) (AN:=AN) (c:=c) Hv Ht XH FE bJ Htp S.Ak;have hr:R.Px=.ok (RS.BA {R with Ad:=os} (l.set AN {l.getD AN (.of 0) with CL:=(J l:Int)})):=by rw[Hres.out];simp only[K.out,K4.out,J1,Hx.out]
    rw[hr];exact⟨rfl,{g with cv:=vs++[⟨U ⟨lb,0,Z⟩,lc⟩],o:=⟨U ⟨ob,0,Z⟩,oc⟩},rfl,OU (R:={R with Ad:=os}) Hv Ht ⟨HL.cl,HL.dl,HL.ql,HL.tl,HL.fl,HL.zl,HL.ll⟩ _ _ _,S.trans hm⟩
theorem Aao (hl:Bv l=V) (hne:l≠[]) (hk:bs (wd l 0)=AR):J l=2\/(J l=3/\GC (bs (wd l 2)) 6=V):=by
 obtain⟨w,r,rfl⟩:=QL hne;have MY:bs w=AR:=hk;simp[Bv,Fv,Iy,Ka,MY,AR] at hl;rcases hl.2 with h|h
 .left;simp;omega
 .right;exact⟨by simp;omega,by rw[Ka];exact h.2⟩
theorem iS (l:Ws) (lw:Value) (w:World) (g:RG) (R:RS) (n:Nat) (h:Aq w (g.Ay R)) (hL:C9 g R) (hI:Pj R n)
  (hw:Sl w (λb=>b∉Et (g.Ay R)) lw (Bq l)) (hs:∀a,a∈l->a.size<=maxLen) (hne:l≠[]) (N6:Bv l=V) (hk:bs (wd l 0)=AR):
  Calls prog 37 #[iJ g.rb,lw] w (Fs (R.row l) g R w):=by
 have hl:=Aao N6 hne hk;have AG:R.row l=R.Ec l:=by unfold RS.row;simp[hk]
 obtain⟨wb,woff,wcap,rfl,hd⟩:=M3 hw Y;have GU:=oh l _ w g R n h hL hI hw hs hl;have c0:=hd.c 0 Y;simp only[JX] at c0;have q0:=CZ hk;unfold AR at q0;have Le:0<(J l:Int):=Y
 obtain⟨hrc,hrpc,hrf,hrpf,hlt,hpl,lA⟩:=BL h;have xn:J R.p.Aa<=2500:=by have:=hI.bn;have:=hI.nn;omega
 have TN:=hd.n1;unfold maxLen at TN;have Hsh:=D GU;have Hres:=D AG;clear GU AG hw hl hk N6 hd h hL hI hs hne;go_enter func37,ntmps37;go_wp2_with fail;refine Hsh.mono ?_;intro e w' he;rw[<-Hres.out] at he;unfold Fs at he;cases hr:R.row l with
 |error c=>
  exact maA
 |ok R'=>
  exact maA
theorem AaF (l:Ws) (lw:Value) (w:World) (g:RG) (R:RS) (n:Nat) (h:Aq w (g.Ay R)) (hL:C9 g R) (hI:Pj R n) (hO:Wy R)
  (hw:Sl w (λb=>b∉Et (g.Ay R)) lw (Bq l)) (hne:l≠[]) (hk:bs (wd l 0)=EK):
  Calls prog 37 #[iJ g.rb,lw] w (Fs (R.row l) g R w):=by
 have hl:=JE.2 hne;have AG:R.row l=R.Px:=by
  unfold RS.row;simp only[hk];rw[In Do,In Do,Jb trivial]
 obtain⟨wb,woff,wcap,rfl,hd⟩:=M3 hw hl;have GU:=AaT w g R n h hL hI hO;have c0:=hd.c 0 Y;simp only[JX] at c0;have q0:=CZ hk;unfold EK at q0;have q1:=Bx (k:=AR) (by rw[hk];decide);have q2:=Bx (k:=AE) (by rw[hk];decide);unfold AR at q1;unfold AE at q2;have Le:0<(J l:Int):=Y
 obtain⟨hrc,hrpc,hrf,hrpf,hlt,hpl,lA⟩:=BL h;have xn:J R.p.Aa<=2500:=by have:=hI.bn;have:=hI.nn;omega
 have TN:=hd.n1;unfold maxLen at TN;have Hsh:=D GU;have Hres:=D AG;clear GU AG hw hl hk hd h hL hI hO hne;go_enter func37,ntmps37;go_wp2_with fail;refine Hsh.mono ?_;intro e w' he;rw[<-Hres.out] at he;unfold Fs at he;cases hr:R.row l with
 |error c=>
  exact maA
 |ok R'=>
  exact maA
theorem fq (l:Ws) (lw:Value) (w:World) (g:RG) (R:RS) (n:Nat) (h:Aq w (g.Ay R)) (hI:Pj R n) (hO:Wy R)
  (hw:Sl w (λb=>b∉Et (g.Ay R)) lw (Bq l)) (hne:l≠[]) (hk:bs (wd l 0)=AE) (ho:R.Ad≠[]):
  Calls prog 37 #[iJ g.rb,lw] w (Fs (R.row l) g R w):=by
 have hl:=JE.2 hne;have AG:R.row l=.error 3:=by
  unfold RS.row;simp only[hk];rw[In Do,Jb trivial,Jb ho]
 obtain⟨wb,woff,wcap,rfl,hd⟩:=M3 hw hl;have c0:=hd.c 0 Y;simp only[JX] at c0;have q0:=CZ hk;unfold AE at q0;have q1:=Bx (k:=AR) (by rw[hk];decide);unfold AR at q1;have Le:0<(J l:Int):=Y
 have ho0:0<(J R.Ad:Int):=by have:=JE.2 ho;omega
 obtain⟨hrc,hrpc,hrf,hrpf,hlt,hpl,lA⟩:=BL h;have xn:J R.p.Aa<=2500:=by have:=hI.bn;have:=hI.nn;omega
 have TN:=hd.n1;unfold maxLen at TN;have Hres:=D AG;clear AG hw hl hk hd h hI hO hne ho;go_enter func37,ntmps37;go_wp2_with fail;go_ret;rw[Hres.out];exact⟨rfl,Az.refl _ _⟩
