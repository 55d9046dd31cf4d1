/- Part 8 of the proof. -/
import Derived.Test.YtpdfifdlhpmofaaGreatDoorA05
set_option linter.unusedVariables false
set_option linter.unusedSimpArgs false
set_option maxHeartbeats 0
set_option maxRecDepth 99999
namespace Go.Proofs.YtpdfifdlhpmofaaGreatDoor
open Go.RowKit Tryz
open Value renaming slice->qD,string->qE,bool->qF,tuple->qG,agg->qH,pointer->qI
open Ending renaming returned->qJ
open Obj renaming cells->qK
open Option renaming none->Z,some->U
open Bool renaming true->V,false->I
open Go.Lib renaming hid->D
open List renaming length->J
theorem mak {p:Prop} (h:p:=by
 refine(vF _ (RM s1.Ak N.hL)).mono ?_;rintro e w2 ⟨rfl,Fa⟩;have s2:=s1.trans (Af.quiet s1.Ak Fa);clear s1 Fa c0 c1 hlt hpl NH vF;obtain⟨⟨hXc,hXf,hxl,hx1,hx2⟩,⟨hrc,hrpc,hrf,hrpf,hlt,hpl,hne⟩,hyc,hyf,hyl⟩:=Gd s2;have S:=D s2;clear s2;simp only[At.val];go_upto_region 41 with fail
 have s3:=pU S al ai;clear hXc hXf hxl hx1 hx2 hrc hrpc hrf hrpf hlt hpl hne hyc hyf hyl S;generalize World.alloc _ _=w3 at s3⊢;obtain⟨g2,R2,x2,hg,hR,hx,s4⟩:=Oa s3;have HL2:=D (show C5 g2 R2 by rw[hg,hR];exact N.hL);have HRB:=D (show g2.rb=g.rb by rw[hg]);have Acz:((x2.kind:Int)==115)=I:=by rw[hx];rfl
 have Aic:((x2.kind:Int)==103)=I:=by rw[hx];rfl
 replace Hres:=D (show R.node l=if ab then .ok (R2,x2) else .error 4 by rw[hx,hR];simpa using Hres.out);clear hx hR hg s3;rw[<-HRB.out];obtain⟨⟨hXc,hXf,hxl,hx1,hx2⟩,⟨hrc,hrpc,hrf,hrpf,hlt,hpl,hne⟩,hyc,hyf,hyl⟩:=Gd s4;have S:=D s4;clear s4;cases ab
 .exact Si
 .exact Zo):p:=h
theorem maB {p:Prop} (h:p:=by
 rw[hr] at he;obtain⟨rfl,hm⟩:=he;have Hr:=D hr;have Hm:=D hm;clear hr hm hrc hrpc hrf hrpf c0;go_wp2;go_ret;rw[Hr.out];exact⟨rfl,Hm⟩):p:=h
theorem mbN {p:Prop} (h:p:=by
 rw[Hres.out];exact⟨rfl,g,rfl,N.hL,Af.quiet N.h (((Aw.refl _ _).alloc _).alloc _)⟩):p:=h
variable {w W w' w'':World} {R:RS} {b yb n lb lc tb tc AN:Nat} {x:Nd} {T:TypeId} {a:Ob} {L E M:List Ob} {l:Ws} {ds vs:List SG} {d c:SG} {us:List (List Bool)} {u:List Bool} {tmps:Array Value} {lw v:Value} {xs:List Value} {p:Prop} {ts:List (List Nd)}
def EG (l:List Int):List Value:=l.map (Value.int .i64)
def DE (l:List Bool):List Value:=l.map Value.bool
def At.val (a:At):Value:= qH #[qF a.AX,iI a.v]
def Nd.cells (x:Nd):List Value:=[.int .u8 x.kind,iI x.v,qE x.op,qF x.a.AX,iI x.a.v,qF x.b.AX,iI x.b.v,qF x.AN.AX,iI x.AN.v,
  iI x.first,iI x.size,iI x.CN,iI x.n,iI x.Ah]
def Nd.val (x:Nd):Value:= qH x.cells.toArray
def Bk (l:List Nd):List Value:=l.flatMap Nd.cells
structure RG where
 rb:Nat
 pb:Nat
 s:SG
 f:SG
 z:SG
 l:SG
 o:SG
 t:SG
 u:SG
 q:SG
 cv:List SG
 dv:List SG
variable {g:RG}
def CM (a:SG) (l:List Nd):Ob:=.row (qD a.p (J l) a.c) 110 14 (J l) (Bk l)
def L7 (a:SG) (l:List ByteArray):Ob:=.row (qD a.p (J l) a.c) 9 1 (J l) (Bp l)
def Rj (a:SG) (l:List Int):Ob:=.row (qD a.p (J l) a.c) 3 1 (J l) (EG l)
def TX (l:List Nat):List Int:=l.map λ(k:Nat)=>(k:Int)
def TY (a:SG) (l:List Nat):Ob:=.row (qD a.p (J l) a.c) 3 1 (J l) (EG (TX l))
def Bw (a:SG) (l:List Bool):Ob:=.row (qD a.p (J l) a.c) 4 1 (J l) (DE l)
theorem Xc (p:Option Addr) (c:Nat) (l:List ByteArray) (s:ByteArray):Ob.row (qD p (J l+1) c) 9 1 (J l+1) (Bp l++(#[qE s]:Array Value).toList)=L7 ⟨p,c⟩ (l++[s]):=by simp[L7,Bp]
theorem Xs (p:Option Addr) (c:Nat) (l:List Int) (s:Int):Ob.row (qD p (J l+1) c) 3 1 (J l+1) (EG l++(#[iI s]:Array Value).toList)=Rj ⟨p,c⟩ (l++[s]):=by simp[Rj,EG]
theorem Xp (p:Option Addr) (c:Nat) (l:List Nat) (s:Nat):Ob.row (qD p (J l+1) c) 3 1 (J l+1) (EG (TX l)++(#[iI (s:Int)]:Array Value).toList)=TY ⟨p,c⟩ (l++[s]):=by simp[TY,TX,EG]
theorem iz (p:Option Addr) (c:Nat) (l:List Bool) (s:Bool):Ob.row (qD p (J l+1) c) 4 1 (J l+1) (DE l++(#[qF s]:Array Value).toList)=Bw ⟨p,c⟩ (l++[s]):=by simp[Bw,DE]
def RG.Az (g:RG) (R:RS):List Ob:=
 [.Ao g.rb #[iJ g.pb,qD g.s.p (J R.Ax) g.s.c,qD g.f.p (J R.first) g.f.c,qD g.z.p (J R.size) g.z.c,qD g.l.p (J R.AA) g.l.c,qD g.o.p (J R.Ad) g.o.c,iI R.Ai,qF I,iI 0] 94,
  .Ao g.pb #[qD g.t.p (J R.p.Aa) g.t.c,iI R.p.cells,qD g.u.p (J R.p.Ap) g.u.c,qD g.q.p (J R.p.BX) g.q.c] 53,
  L7 g.s R.Ax,Rj g.f R.first,Rj g.z R.size,L7 g.l R.AA,TY g.o R.Ad,
  .row (qD g.t.p (J R.p.Aa) g.t.c) 72 1 (J R.p.Aa) (A4 g.cv R.p.Aa),
  .row (qD g.u.p (J R.p.Ap) g.u.c) 51 1 (J R.p.Ap) (A4 g.dv R.p.Ap),
  Bw g.q R.p.BX]++(List.zipWith CM g.cv R.p.Aa++List.zipWith Bw g.dv R.p.Ap)
structure C5 (g:RG) (R:RS):Prop where
 cl:J g.cv=J R.p.Aa
 dl:J g.dv=J R.p.Ap
 ql:J R.p.BX=J R.p.Aa
 tl:J R.p.Ap=J R.p.Aa
 fl:J R.first=J R.Ax
 zl:J R.size=J R.Ax
 ll:J R.AA<=4
def Ag0 (w:World) (g:RG) (R:RS):Prop:=Aq w (g.Az R)/\C5 g R
structure vu (w:World) (g:RG) (R:RS):Prop where
 c:∀i:Nat,w.cell? ⟨g.rb,i,Z⟩=(#[iJ g.pb,qD g.s.p (J R.Ax) g.s.c,qD g.f.p (J R.first) g.f.c,qD g.z.p (J R.size) g.z.c,qD g.l.p (J R.AA) g.l.c,qD g.o.p (J R.Ad) g.o.c,iI R.Ai,qF I,iI 0]:Array Value)[i]?
 pc:∀i:Nat,w.cell? ⟨g.pb,i,Z⟩=(#[qD g.t.p (J R.p.Aa) g.t.c,iI R.p.cells,qD g.u.p (J R.p.Ap) g.u.c,qD g.q.p (J R.p.BX) g.q.c]:Array Value)[i]?
 f:∀i:Nat,w.frozen? ⟨g.rb,i,Z⟩=I
 pf:∀i:Nat,w.frozen? ⟨g.pb,i,Z⟩=I
 lt:g.rb<w.heap.size
 pl:g.pb<w.heap.size
 ne:g.rb≠g.pb
theorem BL (h:Aq w (g.Az R)):vu w g R where
 c:=(h.Ao (i:=0) rfl).cell
 pc:=(h.Ao (i:=1) rfl).cell
 f:=(h.Ao (i:=0) rfl).free
 pf:=(h.Ao (i:=1) rfl).free
 lt:=(h.Ao (i:=0) rfl).lt
 pl:=(h.Ao (i:=1) rfl).lt
 ne:=h.ne (i:=0) (j:=1) rfl rfl Do
theorem gE (s:ByteArray) (w:World) (hs:s.size<=maxLen):Calls prog 86 #[qE s] w λe w'=>e= qJ (qG #[iI ((number (bs s)).getD 0),qF (number (bs s)).isSome])/\w'=w:=
 Me s w hs
theorem LM (s:ByteArray) (w:World) (g:RG) (R:RS) (h:Ag0 w g R) (hs:s.size<=maxLen):
  Calls prog 87 #[iJ g.rb,qE s] w λe w'=>e= qJ (qG #[(R.CC s).1.val,qF (R.CC s).2])/\Aw [] w w':=by
 have hrf:=BL h.1;have hlt:=hrf.lt;have Yp:=Sl.OU (h.1.row (i:=5) rfl);have hn:=λw=>gE s w hs
 unfold RS.CC;generalize number (bs s)=n at*;have Hn:=D hn;have hc:=hrf.c;cases n with
 |some v=>
  clear hn Yp hc hrf;go_enter func87,ntmps87;go_wp2_with (first|(go_at_call 86;refine(Hn _).mono ?_;rintro e w' ⟨rfl,rfl⟩));refine bodyPost_ret (v:= qG #[qH #[qF I,iI v],qF V]) (by simp[results,results87,go_sem]) rfl ⟨rfl,?_⟩;exact mbM
 |none=>
  have fE:=D Yp;clear hn Yp hrf;go_enter func87,ntmps87;go_wp2_with (first|(go_at_call 86;refine(Hn _).mono ?_;rintro e w' ⟨rfl,rfl⟩));refine(Gp R.AA s (qD g.l.p (J R.AA) g.l.c) _ _ (fE.mod ((Aw.refl [] w).alloc _) EQ)).mono ?_;rintro e w' ⟨rfl,rfl⟩;generalize Uf:Bg R.AA s=k;by_cases hk:0<=k
  .have LS:decide (0<=k)=V:=by simpa using hk
   go_wp2;refine bodyPost_ret (v:= qG #[qH #[qF V,iI k],qF V]) (by simp[results,results87,go_sem]) rfl ⟨by rw[Uf,LS];rfl,?_⟩;exact mbM
  .have LS:decide (0<=k)=I:=by simpa using hk
   go_wp2;refine bodyPost_ret (v:= qG #[qH #[qF V,iI k],qF I]) (by simp[results,results87,go_sem]) rfl ⟨by rw[Uf,LS];rfl,?_⟩;exact mbM
def F1 (b:Nat) (x:Nd):Ob:=.Ao b x.cells.toArray 110
def Ag3 (res:Except Int (RS×Nd)) (g:RG) (R:RS) (xb:Nat) (x:Nd) (w:World) (e:Ending) (w':World):Prop:=
 match res with
 |.error c=>e= qJ (iI c)/\Aw [] w w'
 |.ok (R',x')=>e= qJ (iI 0)/\∃g',g'.rb=g.rb/\C5 g' R'/\Af w (F1 xb x::g.Az R) w' (F1 xb x'::g'.Az R')
theorem gG (h:Ch w b x.cells.toArray T) (i:Nat):w.cell? ⟨b,i,Z⟩=(#[.int .u8 x.kind,iI x.v,qE x.op,qF x.a.AX,iI x.a.v,qF x.b.AX,iI x.b.v,qF x.AN.AX,iI x.AN.v,
  iI x.first,iI x.size,iI x.CN,iI x.n,iI x.Ah]:Array Value)[i]?:=h.cell i
structure vx (w:World) (xb:Nat) (g:RG) (x:Nd):Prop where
 c:∀i:Nat,w.cell? ⟨xb,i,Z⟩=(#[.int .u8 x.kind,iI x.v,qE x.op,qF x.a.AX,iI x.a.v,qF x.b.AX,iI x.b.v,qF x.AN.AX,iI x.AN.v,
   iI x.first,iI x.size,iI x.CN,iI x.n,iI x.Ah]:Array Value)[i]?
 f:∀i:Nat,w.frozen? ⟨xb,i,Z⟩=I
 lt:xb<w.heap.size
 n1:xb≠g.rb
 n2:xb≠g.pb
theorem Vf {xb:Nat} (h:Aq w (F1 xb x::g.Az R)):vx w xb g x where
 c:=gG (h.Ao (i:=0) rfl)
 f:=(h.Ao (i:=0) rfl).free
 lt:=(h.Ao (i:=0) rfl).lt
 n1:=h.ne (i:=0) (j:=1) rfl rfl Do
 n2:=h.ne (i:=0) (j:=2) rfl rfl Do
theorem Xt:(prog.info? 9).map (λi=>(i.zero,i.size,i.bytes))=U (U (qE ByteArray.empty),1,16):=Fd
theorem Af.U7 (h:Aq w (a::L)):Aq w L:=(Af.drop (A:=[]) (B:=[a]) (C:=L) h).Ak
theorem wQ (s:ByteArray) (w:World) (g:RG) (R:RS) (xb:Nat) (x:Nd) (h:Aq w (F1 xb x::g.Az R)) (hL:C5 g R):
  Calls prog 90 #[iJ g.rb,iJ xb,qE s] w (Ag3 (R.MQ x s) g R xb x w):=by
 obtain⟨rb,pb,⟨sp,sc⟩,f,z,⟨lp,lc⟩,o,t,u,q,cv,dv⟩:=g;obtain⟨j0,hj,LP,KZ,MH⟩:=info_parts Xt;obtain⟨hc,_,hBf,_,hlt,_,_⟩:=BL (Af.U7 h);obtain⟨hXc,hXf,hxl,hne,_⟩:=Vf h;have On:=λw' (k:Aw [] w w')=>Gp R.Ax s (qD sp (J R.Ax) sc) w' _ ((Sl.OU (h.row (i:=3) rfl)).mod k EQ)
 have Fe:=λw' (k:Aw [] w w')=>Gp R.AA s (qD lp (J R.AA) lc) w' _ ((Sl.OU (h.row (i:=6) rfl)).mod k EQ)
 unfold RS.MQ;generalize GZ:Bg R.Ax s=k1 at*;generalize MU:Bg R.AA s=k2 at*;have Hp1:=D On;have Hp2:=D Fe;have H:=D h;have HL:=D hL;clear On Fe h hL GZ MU;by_cases c1:0<=k1
 .rw[Jd c1];go_enter func90,ntmps90;go_wp2_with fail;refine(Hp1 _ (Aw.refl _ _)).mono ?_;rintro e w' ⟨rfl,rfl⟩;go_wp2;go_ret;exact⟨rfl,Aw.refl _ _⟩
 .rw[In c1];have c1':k1<0:=Y
  by_cases c2:0<=k2
  .rw[Jd c2];go_enter func90,ntmps90;go_wp2_with fail;refine(Hp1 _ (Aw.refl _ _)).mono ?_;rintro e w' ⟨rfl,rfl⟩;go_wp2_with fail;refine(Hp2 _ (Aw.refl _ _)).mono ?_;rintro e w' ⟨rfl,rfl⟩;go_wp2;go_ret;exact⟨rfl,_,rfl,HL,H.set (i:=0) rfl 1 _⟩
  .rw[In c2];have c2':k2<0:=Y
   by_cases c3:J R.AA=4
   .rw[Jd c3];have c3':((J R.AA:Int)==4)=V:=by rw[c3];rfl
    clear c3;go_enter func90,ntmps90;go_wp2_with fail;refine(Hp1 _ (Aw.refl _ _)).mono ?_;rintro e w' ⟨rfl,rfl⟩;go_wp2_with fail;refine(Hp2 _ (Aw.refl _ _)).mono ?_;rintro e w' ⟨rfl,rfl⟩;go_wp2;go_ret;exact⟨rfl,Aw.refl _ _⟩
   .rw[In c3];have c3':((J R.AA:Int)==4)=I:=by rw[Jh];omega
    have C3:=D c3;clear c3;go_enter func90,ntmps90;go_wp2_with fail;refine(Hp1 _ (Aw.refl _ _)).mono ?_;rintro e w' ⟨rfl,rfl⟩;go_wp2_with fail;refine(Hp2 _ (Aw.refl _ _)).mono ?_;rintro e w' ⟨rfl,rfl⟩;go_wp2_with (first|(at_builtin;refine A6 16 _ _ _ j0 _ #[.string s] _ H (k:=6) rfl Eq Eq underlying90 hj LP KZ MH rfl Y Eq Eq rfl (by simp[Value.oneCell']) (by have:=HL.ll;unfold maxLen;omega) (by have:=HL.ll;omega) ?_;intro g6 AI w6 Ay AkS;rw[Xc] at Ay;have q1:=(Ay.Ak.Ao (i:=1) rfl).cell;have q2:=(Ay.Ak.Ao (i:=1) rfl).free;have q3:=gG (Ay.Ak.Ao (i:=0) rfl);have q4:=(Ay.Ak.Ao (i:=0) rfl).free;have FZ:=D Ay;clear Ay AkS hc hXf hXc hBf));go_ret;have t1:=FZ.Ak.set (i:=1) rfl 4 (qD (U ⟨g6,0,Z⟩) (J R.AA+1) AI);have t2:=t1.Ak.set (i:=0) rfl 1 (iI (J R.AA));have t3:=FZ.trans (t1.trans t2);refine⟨rfl,⟨rb,pb,⟨sp,sc⟩,f,z,⟨U ⟨g6,0,Z⟩,AI⟩,o,t,u,q,cv,dv⟩,rfl,⟨HL.cl,HL.dl,HL.ql,HL.tl,HL.fl,HL.zl,?_⟩,?_⟩;rotate_left
    .have e:(R.AA++[s]).length=J R.AA+1:=EQ
     unfold RG.Az;rw[e];exact t3
    have:=HL.ll;have:=C3.out;simp only[GT,JP] at*;omega
def AlY (res:RS×Nd×Bool) (g:RG) (R:RS) (xb:Nat) (x:Nd) (w:World) (e:Ending) (w':World):Prop:=
 e= qJ (qF res.2.2)/\∃g',g'.rb=g.rb/\C5 g' res.1/\Af w (F1 xb x::g.Az R) w' (F1 xb res.2.1::g'.Az res.1)
theorem fq (l:List Bool) (k:Nat) (b:Bool):(DE l).set k (qF b)=DE (l.set k b):=by simp[DE,Qx]
theorem Oi {α β:Type} {xs:List α} {ys:List β} (h:J xs=J ys) (hy:ys≠[]):∃p a q b,xs=p++[a]/\ys=q++[b]/\J p=J q:=by
 rcases Jw ys with h0|⟨q,b,h0⟩
 .exact Jk h0 hy
 .rcases Jw xs with h1|⟨p,a,h1⟩
  .rw[h0,h1] at h;simp at h
  .rw[Jz] at h0 h1;exact⟨p,a,q,b,h1,h0,by rw[h0,h1] at h;simpa using h⟩
theorem uy {l:List Int} (h:∀(i:Nat) (hi:i<(EG l).length),w.cell? ⟨b,i,Z⟩=U (EG l)[i]) (k:Nat) (hk:k<J l):w.cell? ⟨b,k,Z⟩=U (iI (l.getD k 0)):=by
 rw[h k (by simpa[EG] using hk)];simp[EG,Ja,hk]
theorem OR (h:Aq w L) {i j:Nat} {b c:Nat} {o:Obj} {e:TypeId} {s n m cap:Nat} {xs:List Value} (hi:L[i]?=U (.Xk b o)) (hj:L[j]?=U (.row (qD (U ⟨c,0,Z⟩) m cap) e s n xs)) (hij:i≠j):b≠c:=by
 have:=h.AhM hi hj hij;rintro rfl;exact this rfl
def RG.gB (g:RG) (R:RS) (ds:List SG) (us:List (List Bool)):List Ob:=
 [.Ao g.rb #[iJ g.pb,qD g.s.p (J R.Ax) g.s.c,qD g.f.p (J R.first) g.f.c,qD g.z.p (J R.size) g.z.c,qD g.l.p (J R.AA) g.l.c,qD g.o.p (J R.Ad) g.o.c,iI R.Ai,qF I,iI 0] 94,
  .Ao g.pb #[qD g.t.p (J R.p.Aa) g.t.c,iI R.p.cells,qD g.u.p (J R.p.Ap) g.u.c,qD g.q.p (J R.p.BX) g.q.c] 53,
  L7 g.s R.Ax,Rj g.f R.first,Rj g.z R.size,L7 g.l R.AA,TY g.o R.Ad,
  .row (qD g.t.p (J R.p.Aa) g.t.c) 72 1 (J R.p.Aa) (A4 g.cv R.p.Aa),
  .row (qD g.u.p (J R.p.Ap) g.u.c) 51 1 (J R.p.Ap) (A4 g.dv R.p.Ap),
  Bw g.q R.p.BX]++(List.zipWith CM g.cv R.p.Aa++List.zipWith Bw ds us)
theorem AbE (hd:g.dv=ds++[d]) (hu:R.p.Ap=us++[u]) (hl:J ds=J us):g.Az R=g.gB R ds us++[Bw d u]:=by
 unfold RG.Az RG.gB;rw[hd,hu,Qz hl];simp
theorem vX (hd:g.dv=ds++[d]) (hu:R.p.Ap=us++[u]) (hl:J ds=J us) (c:Nat):
  g.Az (R.GQ c)=g.gB R ds us++[Bw d (u.set c V)]:=by
 have e:(R.GQ c).p.Ap=us++[u.set c V]:=by unfold RS.GQ;simp[hu]
 rw[AbE hd e hl];congr 1;unfold RG.gB;rw[e,hd,hu,Bm _ _ _ _ hl,Bm _ _ _ _ hl];simp only[GT,JP,Jp];rfl
theorem RZ (h:C5 g R) (hu:R.p.Ap≠[]) (c:Int):C5 g (R.GQ c):=by
 rcases Jw R.p.Ap with h0|⟨q,b,h0⟩
 .exact Jk h0 hu
 .rw[Jz] at h0;have e:(R.GQ c).p.Ap.length=J R.p.Ap:=by unfold RS.GQ;simp[h0]
  exact⟨h.cl,h.dl.trans e.symm,h.ql,e.trans h.tl,h.fl,h.zl,h.ll⟩
theorem oL {db dc c:Nat} (o:Aq w (a::g.Az R)) (hd:g.dv=ds++[d]) (hu:R.p.Ap=us++[u]) (hl:J ds=J us)
  (bY:qD d.p (J u) d.c= qD (U ⟨db,0,Z⟩) (J u) dc) (hc:c<J u):Af w (a::g.Az R) (w.setCell ⟨db,c,Z⟩ (qF V)) (a::g.Az (R.GQ c)):=by
 have e:∀v,J v=J u->Bw d v=.row (qD (U ⟨db,0,Z⟩) (J u) dc) 4 1 (J u) (DE v):=λv hv=>by
  unfold Bw;rw[hv,bY]
 rw[vX hd hu hl c];rw[AbE hd hu hl] at o⊢;rw[e _ rfl] at o⊢;rw[e _ EQ,<-fq];exact Aq.wI (A:=a::g.gB R ds us) o c (by simpa[DE] using hc) _
theorem dy (s:ByteArray) (l:Ws) (lw:Value) (w:World) (g:RG) (R:RS) (xb:Nat) (x:Nd) (n:Nat) (h:Aq w (F1 xb x::g.Az R)) (hL:C5 g R) (hI:Ps R n) (hT:R.p.Aa≠[])
  (hw:Sl w (λb=>b∉Er (F1 xb x::g.Az R)) lw (Bp l)) (hs:∀a,a∈l->a.size<=maxLen):
  Calls prog 89 #[iJ g.rb,iJ xb,qE s,lw] w (AlY (R.cell x s l) g R xb x w):=by
 have On:=λw' (k:Aw [] w w')=>Gp R.Ax s (qD g.s.p (J R.Ax) g.s.c) w' _ ((Sl.OU (h.row (i:=3) rfl)).mod k EQ)
 have SO:=U4 R.Ax s;have hrf:=BL (Af.U7 h);have hnf:=Vf h;have AcJ:Bg R.Ax s<0->R.cell x s l=(R,x,I):=λh=>by unfold RS.cell;simp[h]
 have AcI:∀k:Nat,Bg R.Ax s=k->R.cell x s l=(let x:={x with first:=R.first.getD k 0,size:=R.size.getD k 0}
     let r:=R.GQ x.first
     if J l=5 then
       let (a,ok):=r.CC (wd l 4)
       (r,{x with AN:=a},ok)
     else (r,x,V)):=λk h=>by unfold RS.cell;simp only[h,show¬((k:Int)<0) by omega,J7,JW]
 generalize GZ:Bg R.Ax s=k1 at*;have Hp1:=D On;clear On GZ;by_cases c1:k1<0
 .rw[AcJ c1];clear SO hw AcJ AcI;have hc:=hrf.c;have hlt:=hrf.lt;have H:=D h;have HL:=D hL;clear h hL hI hT hnf hrf;go_enter func89,ntmps89;go_wp2_with fail;refine(Hp1 _ (Aw.refl _ _)).mono ?_;rintro e w' ⟨rfl,rfl⟩;go_wp2;go_ret;exact⟨rfl,_,rfl,HL,Af.refl H⟩
 .obtain⟨k,rfl⟩:∃k:Nat,k1=k:=⟨k1.toNat,Y⟩;have Lo:k<J R.Ax:=by rcases SO with h|⟨_,h⟩<;>omega
  clear SO;have hkf:k<J R.first:=by rw[hL.fl];exact Lo
  have hkz:k<J R.size:=by rw[hL.zl];exact Lo
  have AgN:=h.row (i:=4) rfl;have AgM:=h.row (i:=5) rfl;obtain⟨fb,fc,hfe,_,hfl,Aos,Aor,Ac0,Aiy⟩:=Av AgN Y;obtain⟨zb,zc,hze,_,hzl,AnY,AnX,Acy,Aia⟩:=Av AgM Y;have hF:=uy Ac0 k hkf;have hZ:=uy Acy k hkz;have AF:=AcI k rfl;clear AcJ AcI;have Aov:=hI.fi (R.first.getD k 0) (by rw[Ja,Jb hkf];exact JO hkf);have hr5:(F1 xb x::g.Az R)[5]?=U (.row (qD (U ⟨zb,0,Z⟩) (J R.size) zc) 3 1 (J R.size) (EG R.size)):=by rw[<-hze];rfl
  have nxz:=OR h (i:=0) rfl hr5 Do;generalize R.first.getD k 0=c at*
  generalize R.size.getD k 0=z at*;obtain⟨c,rfl⟩:∃m:Nat,c=m:=⟨c.toNat,Y⟩;have Hres:=D AF;clear AF;have hu:R.p.Ap≠[]:=λh0=>hT (Jn (by rw[<-hL.tl,h0];rfl))
  obtain⟨ds,d,us,u,XO,hus,hdl⟩:=Oi hL.dl hu;have AgJ:=h.row (i:=9) rfl;obtain⟨ub,uc,hue,_,hul,An2,An1,AcA,Aie⟩:=Av AgJ (by rw[hus];simp);have hD:w.cell? ⟨ub,J us,Z⟩=U (qD d.p (J u) d.c):=by
   rw[AcA (J us) (by rw[XO,hus,Bm _ _ _ _ hdl,GT,BT _ _ hdl];simp)];simp only[XO,hus,Bm _ _ _ _ hdl];rw[QS (by rw[BT _ _ hdl];omega)];simp
  have AnU:=hI.tc u (by rw[hus];simp);have hcu:c<J u:=Y
  have iW:(F1 xb x::g.Az R)[9]?=U (.row (qD (U ⟨ub,0,Z⟩) (J R.p.Ap) uc) 51 1 (J R.p.Ap) (A4 g.dv R.p.Ap)):=by rw[<-hue];rfl
  have nxu:=OR h (i:=0) rfl iW Do;have ZW:=AbE XO hus hdl;have FR:(F1 xb x::g.Az R)[(F1 xb x::g.gB R ds us).length]?=U (Bw d u):=by rw[ZW];simp
  have AgI:=h.row FR;obtain⟨db,dc,bY,_,Am3,Aou,Aot,Ac1,Aiz⟩:=Av AgI Y;have hdb:w.cell? ⟨db,c,Z⟩=U (qF (u.getD c I)):=by
   rw[Ac1 c (by simpa[DE] using hcu)];simp[DE,Ja,hcu]
  have rT:(F1 xb x::g.Az R)[(F1 xb x::g.gB R ds us).length]?=U (.row (qD (U ⟨db,0,Z⟩) (J u) dc) 4 1 (J u) (DE u)):=by rw[FR];unfold Bw;rw[bY]
  have nxd:=OR h (i:=0) rfl rT (by unfold RG.gB;simp only[Jg,GT];omega);have nrd:=OR h (i:=1) rfl rT (by unfold RG.gB;simp only[Jg,GT];omega);have ntl:J R.p.Ap=J us+1:=by rw[hus];simp
  rw[hL.tl] at ntl;have hun:J us<=2500:=by have:=hI.bn;have:=hI.nn;omega
  obtain⟨hc,Tm,_,_,hlt,hpl,n12⟩:=hrf;obtain⟨hXc,hXf,hxl,n1,n2⟩:=hnf;rw[hfe,hze] at hc;rw[hue,hL.tl,ntl] at Tm;rw[bY] at hD;have H:=D h;have HL:=D hL;have Hw:=D hw;have Hdd:=D bY;have Hde:=D XO;have Hus:=D hus;have kr:=D hdl;clear ZW h hL hI hT hw rT FR bY XO hus hdl iW hr5 AgN AgM AgJ AgI Ac0 Acy AcA Ac1 hfe hze hue hu Aiy Aia Aie;go_enter func89,ntmps89;go_wp2_with fail;refine(Hp1 _ (Aw.refl _ _)).mono ?_;rintro e w' ⟨rfl,rfl⟩;go_upto_region 7 with fail
  have hcq:0<=(c:Int):=JK _;have hu1:J us<((J us:Int)+1):=Y
  refine AG [] 15 (λW=>W.cell? ⟨g.rb,0,Z⟩=U (iJ g.pb)/\W.cell? ⟨g.pb,2,Z⟩=U (qD (U ⟨ub,0,Z⟩) (J us+1) uc)/\
    W.cell? ⟨ub,J us,Z⟩=U (qD (U ⟨db,0,Z⟩) (J u) dc)/\W.cell? ⟨xb,9,Z⟩=U (iI c)) ?_ ?_
  .exact⟨by go_simp,by go_simp,by go_simp,by go_simp⟩
  refine Dr ?_;intro K hK;refine hK _ _ (λh=>Jk rfl h) ?_;simp only[BO];have t1:=H.set (i:=0) rfl 9 (iI c);have t2:=t1.Ak.set (i:=0) rfl 10 (iI z);have t3:=t1.trans (t2.trans (oL (a:=F1 xb {x with first:=c,size:=z}) t2.Ak Hde Hus kr Hdd hcu));have t4:=t3.trans (Af.drew t3.Ak);clear t1 t2 t3;have Fi:=Hw.mod t4.mod (λb hb=>hb);clear hc Tm hXc hXf hlt hpl n12 n1 n2 hZ hF hD hdb Aiz hul Am3 hfl hzl hxl Hp1 Hw H;generalize (((w'.setCell {block:=xb,off:=9} (Value.int IntKind.i64 ↑c)).setCell {block:=xb,off:=10} (Value.int IntKind.i64 z)).setCell {block:=db,off:=c} (qF V)).drew=w1 at t4 Fi⊢;have T4:=D t4;clear t4;obtain⟨hwm,⟨rfl,hwn⟩|⟨wb,woff,wcap,rfl,w1_,w2_,w3_,w4_,w5_⟩⟩:=Fi
  .have O0:J l=0:=by rw[<-Cj,hwn];rfl
   have AF:R.cell x s l=(R.GQ c,{x with first:=c,size:=z},V):=by rw[Hres.out];simp[O0]
   have Hr:=D AF;have hl5:((0:Int)==5)=I:=rfl;clear Hres AF hwn O0;go_wp2;go_ret;rw[Hr.out];exact⟨rfl,g,rfl,RZ HL (by rw[Hus.out];simp) c,T4⟩
  .rw[Cj] at hwm w1_⊢;unfold maxLen at hwm w2_;by_cases hl:J l=5
   .have hl5:((J l:Int)==5)=V:=by rw[hl];rfl
    have bR:=Sl.Nw w5_ 4 Y;have AF:R.cell x s l=((R.GQ c),{x with first:=c,size:=z,AN:=((R.GQ c).CC (wd l 4)).1},((R.GQ c).CC (wd l 4)).2):=by rw[Hres.out];simp[hl]
    have Hr:=D AF;have hl4:4<(J l:Int):=Y
    clear Hres AF w5_ hl;go_wp2_with fail;refine(LM (wd l 4) _ g (R.GQ c) ⟨Af.U7 T4.Ak,RZ HL (by rw[Hus.out];simp) c⟩ (Ky hs 4)).mono ?_;rintro e w2 ⟨rfl,Fa⟩;have hr0:=Hr.out;clear Hr;generalize (R.GQ c).CC (wd l 4)=av at hr0⊢;obtain⟨⟨al,ai⟩,ab⟩:=av;have Hr:=D hr0;clear hr0;have t5:=T4.trans (Af.quiet T4.Ak Fa);clear T4 Fa bR w4_;obtain⟨hXc,hXf,hxl,n1,_⟩:=Vf t5.Ak;have T5:=D t5;clear t5;simp only[At.val];go_wp2;go_ret;have t7:=T5.Ak.set (i:=0) rfl 7 (qF al);have t8:=t7.Ak.set (i:=0) rfl 8 (iI ai);have t9:=Af.alloc t8.Ak (qK #[qF al,iI ai] 108);rw[Hr.out];exact⟨rfl,g,rfl,RZ HL (by rw[Hus.out];simp) c,T5.trans (t7.trans (t8.trans t9))⟩
   .have hl5:((J l:Int)==5)=I:=by rw[Jh];omega
    have AF:R.cell x s l=(R.GQ c,{x with first:=c,size:=z},V):=by rw[Hres.out];simp[hl]
    have Hr:=D AF;clear Hres AF hl w5_;go_wp2;go_ret;rw[Hr.out];exact⟨rfl,g,rfl,RZ HL (by rw[Hus.out];simp) c,T4⟩
def nW (res:Except Int (RS×Nd)) (g:RG) (R:RS) (w:World) (e:Ending) (w':World):Prop:=
 match res with
 |.error c=>∃x:Nd,e= qJ (qG #[x.val,iI c])/\Aw (Er (g.Az R)) w w'
 |.ok (R',x')=>e= qJ (qG #[x'.val,iI 0])/\∃g',g'.rb=g.rb/\C5 g' R'/\Af w (g.Az R) w' (g'.Az R')
def z14:Array Value:= #[.int .u8 0,iI 0,qE ⟨#[]⟩,qF I,iI 0,qF I,iI 0,qF I,iI 0,iI 0,iI 0,iI 0,iI 0,iI 0]
theorem bN {Q:Ending->World->Prop} {c:Int} (h4:tmps[4]?=U (iJ yb)) (h5:tmps[5]?=U (iI c)) (hb:Ch W yb x.cells.toArray 110)
  (hq:Q (qJ (qG #[x.val,iI c])) W):bodyPost prog f61 Q Exit.ret ⟨tmps,[]⟩ W:=by
 have k:=gG hb;refine bodyPost_ret ?_ rfl hq;simp[results,results61,go_sem,h4,h5,k];rfl
theorem Ch.tP {a0 a1 a2 a3 a4 a5 a6 a7 a8 a9 a10 a11 a12 a13:Value} (h:Ch w b #[a0,a1,a2,a3,a4,a5,a6,a7,a8,a9,a10,a11,a12,a13] T) (v0 v1 v2 v3 v4 v5 v6 v7 v8 v9 v10 v11 v12 v13:Value):
  Ch ((((((((((((((w.setCell ⟨b,0,Z⟩ v0).setCell ⟨b,1,Z⟩ v1).setCell ⟨b,2,Z⟩ v2).setCell ⟨b,3,Z⟩ v3).setCell ⟨b,4,Z⟩ v4).setCell ⟨b,5,Z⟩ v5).setCell ⟨b,6,Z⟩ v6).setCell ⟨b,7,Z⟩ v7).setCell ⟨b,8,Z⟩ v8).setCell ⟨b,9,Z⟩ v9).setCell ⟨b,10,Z⟩ v10).setCell ⟨b,11,Z⟩ v11).setCell ⟨b,12,Z⟩ v12).setCell ⟨b,13,Z⟩ v13) b #[v0,v1,v2,v3,v4,v5,v6,v7,v8,v9,v10,v11,v12,v13] T:=by
 have h0:=h.set 0 v0;simp only[FL] at h0;have h1:=h0.set 1 v1;simp only[FL] at h1;have h2:=h1.set 2 v2;simp only[FL] at h2;have h3:=h2.set 3 v3;simp only[FL] at h3;have h4:=h3.set 4 v4;simp only[FL] at h4;have h5:=h4.set 5 v5;simp only[FL] at h5;have h6:=h5.set 6 v6;simp only[FL] at h6;have h7:=h6.set 7 v7;simp only[FL] at h7;have h8:=h7.set 8 v8;simp only[FL] at h8;have h9:=h8.set 9 v9;simp only[FL] at h9;have h10:=h9.set 10 v10;simp only[FL] at h10;have h11:=h10.set 11 v11;simp only[FL] at h11;have h12:=h11.set 12 v12;simp only[FL] at h12;have h13:=h12.set 13 v13;simp only[FL] at h13;exact h13
theorem Aw.tP (v0 v1 v2 v3 v4 v5 v6 v7 v8 v9 v10 v11 v12 v13:Value):Aw [b] w ((((((((((((((w.setCell ⟨b,0,Z⟩ v0).setCell ⟨b,1,Z⟩ v1).setCell ⟨b,2,Z⟩ v2).setCell ⟨b,3,Z⟩ v3).setCell ⟨b,4,Z⟩ v4).setCell ⟨b,5,Z⟩ v5).setCell ⟨b,6,Z⟩ v6).setCell ⟨b,7,Z⟩ v7).setCell ⟨b,8,Z⟩ v8).setCell ⟨b,9,Z⟩ v9).setCell ⟨b,10,Z⟩ v10).setCell ⟨b,11,Z⟩ v11).setCell ⟨b,12,Z⟩ v12).setCell ⟨b,13,Z⟩ v13):=
 ((((((((((((((Aw.refl [b] w).setCell (p:=⟨b,0,Z⟩) (.inl (GE.2 rfl)) v0).setCell (p:=⟨b,1,Z⟩) (.inl (GE.2 rfl)) v1).setCell (p:=⟨b,2,Z⟩) (.inl (GE.2 rfl)) v2).setCell (p:=⟨b,3,Z⟩) (.inl (GE.2 rfl)) v3).setCell (p:=⟨b,4,Z⟩) (.inl (GE.2 rfl)) v4).setCell (p:=⟨b,5,Z⟩) (.inl (GE.2 rfl)) v5).setCell (p:=⟨b,6,Z⟩) (.inl (GE.2 rfl)) v6).setCell (p:=⟨b,7,Z⟩) (.inl (GE.2 rfl)) v7).setCell (p:=⟨b,8,Z⟩) (.inl (GE.2 rfl)) v8).setCell (p:=⟨b,9,Z⟩) (.inl (GE.2 rfl)) v9).setCell (p:=⟨b,10,Z⟩) (.inl (GE.2 rfl)) v10).setCell (p:=⟨b,11,Z⟩) (.inl (GE.2 rfl)) v11).setCell (p:=⟨b,12,Z⟩) (.inl (GE.2 rfl)) v12).setCell (p:=⟨b,13,Z⟩) (.inl (GE.2 rfl)) v13
theorem fe (R:RS) (x:Nd) (s:ByteArray) (l:Ws):(R.cell x s l).2.1.kind=x.kind:=by
 unfold RS.cell;simp only[];split
 .rfl
 .split<;>rfl
theorem zr (R:RS) (x:Nd) (s:ByteArray) (l:Ws):(R.cell x s l).1.p.BX=R.p.BX:=by
 unfold RS.cell;simp only[];split
 .rfl
 .split<;>rfl
theorem pK (h:C5 g R) (hp:R.p.BX≠[]):C5 g R.F6:=by
 have e:J R.F6.p.BX=J R.p.BX:=by
  unfold RS.F6;have:=JI.2 hp;simp;omega
 exact⟨h.cl,h.dl,e.trans h.ql,h.tl,h.fl,h.zl,h.ll⟩
theorem wW {qb qc m:Nat} (o:Aq w ((a::g.Az R)++E)) (hq:qD g.q.p (J R.p.BX) g.q.c= qD (U ⟨qb,0,Z⟩) (m+1) qc) (hm:J R.p.BX=m+1):
  Af w ((a::g.Az R)++E) (w.setCell ⟨qb,m,Z⟩ (qF V)) ((a::g.Az R.F6)++E):=by
 have hr:((a::g.Az R)++E)[10]?=U (.row (qD (U ⟨qb,0,Z⟩) (m+1) qc) 4 1 (m+1) (DE R.p.BX)):=by
  show U (Bw g.q R.p.BX)=_;unfold Bw;rw[hq,hm]
 have k:=o.Eu hr m (by simp[DE,hm]) (qF V);have e:R.F6.p.BX=R.p.BX.set m V:=by
  unfold RS.F6;rcases Jw R.p.BX with h0|⟨q,b,h0⟩
  .rw[h0] at hm;simp at hm
  .rw[Jz] at h0;rw[h0] at hm⊢;simp only[GT,JP,Nat.add_right_cancel_iff] at hm;subst hm;simp
 have e2:((a::g.Az R)++E).set 10 (.row (qD (U ⟨qb,0,Z⟩) (m+1) qc) 4 1 (m+1) ((DE R.p.BX).set m (qF V)))=(a::g.Az R.F6)++E:=by
  rw[fq,<-e];have e3:Ob.row (qD (U ⟨qb,0,Z⟩) (m+1) qc) 4 1 (m+1) (DE R.F6.p.BX)=Bw g.q R.F6.p.BX:=by
   unfold Bw;rw[e,Jp,hq,hm]
  rw[e3];have e4:J R.F6.p.BX=J R.p.BX:=by rw[e,Jp]
  unfold RG.Az;rw[e4];rfl
 rw[e2] at k;exact k
theorem dI {b:Ob}:((a::L)++[b])[J L+1]?=U b:=EQ
theorem pT (h:Aq w L) (A B:Array Value) (T:TypeId):Af w L ((w.alloc (qK A T)).alloc (qK B T)) ((.Ao (w.heap.size+1) B T::L)++[.Ao w.heap.size A T]):=by
 have s1:=Af.new h (qK A T);have s2:=Af.Mg s1.Ak (qK B T);have e:(w.alloc (qK A T)).heap.size=w.heap.size+1:=by show(w.heap.push _).size=_;simp
 rw[e] at s2;exact s1.trans s2
theorem AbN {b:Ob} (k:Af w L w' ((a::M)++[b])):Af w L w' M:=by
 have s1:=Af.AK k.Ak;have s2:Af w' (a::M) w' M:=Af.drop (A:=[]) (B:=[a]) s1.Ak;exact k.trans (s1.trans s2)
theorem RM (h:Aq w ((a::g.Az R)++L)) (hL:C5 g R):Ag0 w g R:=
 ⟨(Af.drop (A:=[]) (B:=[a]) (C:=g.Az R) (Af.AK h).Ak).Ak,hL⟩
structure n9 (w:World) (l:Ws) (wb woff wcap:Nat) (g:RG) (R:RS):Prop where
 n0:J l<=wcap
 n1:wcap<=maxLen
 no:wb∉Er (g.Az R)
 lt:wb<w.heap.size
 c:∀i,(h:i<J l)->w.cell? ⟨wb,woff+i,Z⟩=U (qE (wd l i))
theorem Nr (hw:Sl w (λb=>b∉Er (g.Az R)) lw (Bp l)) (hl:0<J l):∃wb woff wcap,lw= qD (U ⟨wb,woff,Z⟩) (J l) wcap/\n9 w l wb woff wcap g R:=by
 obtain⟨hwm,⟨rfl,hwn⟩|⟨wb,woff,wcap,rfl,w1_,w2_,w3_,w4_,w5_⟩⟩:=hw
 .exact Jk (show J l=0 by rw[<-Cj,hwn];rfl) Y
 .rw[Cj] at w1_⊢;exact⟨wb,woff,wcap,rfl,w1_,w2_,w3_,w4_,λi hi=>Sl.Nw w5_ i hi⟩
theorem n9.mod {wb woff wcap:Nat} (h:n9 w l wb woff wcap g R) (k:Aw (Er (g.Az R)) w w'):n9 w' l wb woff wcap g R:=
 ⟨h.n0,h.n1,h.no,JQ h.lt k.size,λi hi=>by rw[<-h.c i hi];exact jJ (k.block wb h.lt h.no)⟩
theorem Sl.step {L':List Ob} (h:Sl w (λb=>b∉Er L) v xs) (k:Af w L w' L'):Sl w' (λb=>b∉Er L') v xs:=
 (h.mono (ok':=λb=>b∉Er L/\b∉Er L') λb hb hn=>⟨hn,λh'=>by
   rcases k.fp b h' with h1|h1
   · exact hn h1
   · omega⟩).mod k.mod (λb hb=>hb.1) |>.mono λb _ hb=>hb.2
theorem Sl.sub (h:Sl w (λb=>b∉Er L) v xs) (hs:∀b,b∈Er M->b∈Er L):Sl w (λb=>b∉Er M) v xs:=
 h.mono λb _ hn hm=>hn (hs b hm)
theorem IU {b:Ob} (h:Aq w (L++[b])):Aq w L:=(Af.AK h).Ak
theorem kM:∀b,b∈Er L->b∈Er (L++E):=λb hb=>by rw[Bo];exact IR _ hb
theorem xo {o:Obj} (k:Af w L w' ((a::M)++[.Xk yb o])) (hy:w.heap.size<=yb) (m:Aw [yb] w' w''):Af w L w'' M:=by
 have hn:=k.Ak.Lk;rw[Bo,G9] at hn;have s:=AbN k;refine⟨s.Ak.mod m λb hb uL=>?_,k.mod.trans m λx hx=> .inr (by rw[GE] at hx;omega),s.fp⟩;rw[GE] at uL;subst uL;exact(Jv.1 hn).2.2 b (Jc _ hb) b (by simp[Er,Ob.fp]) rfl
theorem Ae7 (k:Aw (Er L) w w') (hy:w.heap.size<=yb) (m:Aw [yb] w' w''):Aw (Er L) w w'':=
 k.trans m λx hx=> .inr (by rw[GE] at hx;omega)
theorem Gd (s:Af w L w' ((F1 (w.heap.size+1) x::g.Az R)++[F1 w.heap.size (.of 0)])):
  vx w' (w.heap.size+1) g x/\vu w' g R/\(∀i:Nat,w'.cell? ⟨w.heap.size,i,Z⟩=(#[.int .u8 0,iI 0,qE ⟨#[]⟩,qF I,iI 0,qF I,iI 0,qF I,iI 0,iI 0,iI 0,iI 0,iI 0,iI 0]:Array Value)[i]?)/\
   (∀i:Nat,w'.frozen? ⟨w.heap.size,i,Z⟩=I)/\w.heap.size<w'.heap.size:=
 have k:=s.Ak.Ao (i:=(g.Az R).length+1) dI
 ⟨Vf (IU s.Ak),BL (Af.U7 (IU s.Ak)),k.cell,k.free,k.lt⟩
theorem Zp (k:Nat) (H:Aq w (g.Az R)):Af w (g.Az R) ((w.alloc (qK z14 110)).alloc (qK (z14.set! 0 (.int .u8 k)) 110)) ((F1 (w.heap.size+1) (.of k)::g.Az R)++[F1 w.heap.size (.of 0)]):=
 pT H z14 (z14.set! 0 (.int .u8 k)) 110
theorem pU (S:Hid (Af w L w' ((F1 b x::M)++E))) (al:Bool) (ai:Int):Af w L (((w'.setCell ⟨b,3,Z⟩ (qF al)).setCell ⟨b,4,Z⟩ (iI ai)).alloc (qK #[qF al,iI ai] 108)) ((F1 b {x with a:=⟨al,ai⟩}::M)++E):=by
 have t1:=S.Ak.set (i:=0) rfl 3 (qF al);have t2:=t1.Ak.set (i:=0) rfl 4 (iI ai);have t3:Af w L _ ((F1 b {x with a:=⟨al,ai⟩}::M)++E):=S.trans (t1.trans t2);exact t3.trans (Af.alloc t3.Ak _)
theorem AhL (S:Hid (Af w L w' ((F1 b x::M)++E))) (al:Bool) (ai:Int):Af w L (((w'.setCell ⟨b,5,Z⟩ (qF al)).setCell ⟨b,6,Z⟩ (iI ai)).alloc (qK #[qF al,iI ai] 108)) ((F1 b {x with b:=⟨al,ai⟩}::M)++E):=by
 have t1:=S.Ak.set (i:=0) rfl 5 (qF al);have t2:=t1.Ak.set (i:=0) rfl 6 (iI ai);have t3:Af w L _ ((F1 b {x with b:=⟨al,ai⟩}::M)++E):=S.trans (t1.trans t2);exact t3.trans (Af.alloc t3.Ak _)
inductive td (l:Ws) (g:RG) (R:RS) (g2:RG) (R2:RS) (x:Nd):Int->Prop
 |no {c:Int}:R.node l=.error c->td l g R g2 R2 x c
 |yes:R.node l=.ok (R2,x)->g2.rb=g.rb->C5 g2 R2->td l g R g2 R2 x 0
theorem Vd {g2:RG} {R2:RS} {c:Int} (h4:tmps[4]?=U (iJ w.heap.size)) (h5:tmps[5]?=U (iI c)) (S:Hid (Af w (g.Az R) w' ((F1 (w.heap.size+1) x::g2.Az R2)++[F1 w.heap.size (.of 0)])))
  (hr:Hid (td l g R g2 R2 x c)):
  bodyPost prog f61 (nW (R.node l) g R w) Exit.ret ⟨tmps,[]⟩ ((((((((((((((w'.setCell ⟨w.heap.size,0,Z⟩ (.int .u8 x.kind)).setCell ⟨w.heap.size,1,Z⟩ (iI x.v)).setCell ⟨w.heap.size,2,Z⟩ (qE x.op)).setCell ⟨w.heap.size,3,Z⟩ (qF x.a.AX)).setCell ⟨w.heap.size,4,Z⟩ (iI x.a.v)).setCell ⟨w.heap.size,5,Z⟩ (qF x.b.AX)).setCell ⟨w.heap.size,6,Z⟩ (iI x.b.v)).setCell ⟨w.heap.size,7,Z⟩ (qF x.AN.AX)).setCell ⟨w.heap.size,8,Z⟩ (iI x.AN.v)).setCell ⟨w.heap.size,9,Z⟩ (iI x.first)).setCell ⟨w.heap.size,10,Z⟩ (iI x.size)).setCell ⟨w.heap.size,11,Z⟩ (iI x.CN)).setCell ⟨w.heap.size,12,Z⟩ (iI x.n)).setCell ⟨w.heap.size,13,Z⟩ (iI x.Ah)):=by
 refine bN (x:=x) (c:=c) h4 h5 (Ch.tP (S.Ak.Ao (i:=(g2.Az R2).length+1) dI) ..) ?_;rcases hr.out with k|⟨k,hb,hl⟩
 .rw[k];exact⟨_,rfl,Ae7 S.mod (Jf _) (Aw.tP ..)⟩
 .rw[k];exact⟨rfl,g2,hb,hl,xo S (Jf _) (Aw.tP ..)⟩
theorem yg {w:ByteArray} (h:Bv (w::l)=V):
  (bs w=Fz->(w::l).length=3\/((w::l).length=5/\0<=Bg Dc (wd (w::l) 3)))/\(bs w=DR->2<(w::l).length)/\(bs w=EF->2<(w::l).length)/\((bs w=IF\/bs w=UD\/bs w=EZ)->1<(w::l).length):=by
 refine⟨λhw=>?_,λhw=>?_,λhw=>?_,λhw=>?_⟩
 .simp[Bv,Fy,IE,Kh,hw,Fz,AQ,AE,EM,A8] at h;rcases h.2 with h2|h2
  .left;simp;omega
  .right;refine⟨by simp;omega,?_⟩;rw[Kh];exact h2.2.1
 .simp[Bv,Fy,IE,Kh,hw,DR,Fz,AQ,AE,EM,A8] at h;have:=h.1.2;simp;omega
 .simp[Bv,Fy,IE,Kh,hw,EF,DR,Fz,AQ,AE,EM,A8] at h;have:=h.1.2;simp;omega
 .rcases hw with hw|hw|hw<;>simp[Bv,Fy,IE,Kh,hw,EZ,IF,UD,EF,DR,Fz,AQ,AE,EM,A8] at h<;>simp<;>omega
theorem Si (h:p:=by
  replace Hres:=D (show td l g R g2 R2 x2 4 from .no (by simpa using Hres.out));go_wp2;exact Vd (x:=x2) rfl rfl S Hres):p:=h
theorem Zo (h:p:=by
  replace Hres:=D (show td l g R g2 R2 x2 0 from .yes (by simpa using Hres.out) HRB.out HL2.out);go_wp2;exact Vd (x:=x2) rfl rfl S Hres):p:=h
theorem Wh (h:p:=by
  have Hn:=D (show R.node l=R2.MQ x2 (wd l 1) by simpa using Hres.out);go_wp2_with fail;refine(wQ (wd l 1) _ g2 R2 (w.heap.size+1) x2 (IU S.Ak) HL2.out).mono ?_;intro e w8 hm;unfold Ag3 at hm;cases hmr:R2.MQ x2 (wd l 1) with
  |error c=>
    rw[hmr] at hm;obtain⟨rfl,iY⟩:=hm;replace Hres:=D (show td l g R g2 R2 x2 c from .no (Hn.trans hmr));have s3:=S.trans (Af.quiet S.Ak iY);clear hmr iY hXc hXf hxl hx1 hx2 hrc hrpc hrf hrpf hlt hpl hne hyc hyf hyl S Hn;obtain⟨⟨hXc,hXf,hxl,hx1,hx2⟩,⟨hrc,hrpc,hrf,hrpf,hlt,hpl,hne⟩,hyc,hyf,hyl⟩:=Gd s3;have S:=D s3;clear s3;go_wp2;exact Vd (x:=x2) rfl rfl S Hres
  |ok v3=>
    obtain⟨R3,x3⟩:=v3;rw[hmr] at hm;obtain⟨rfl,g3,Aik,iZ,Akl⟩:=hm;replace Hres:=D (show td l g R g3 R3 x3 0 from .yes (Hn.trans hmr) (Aik.trans HRB.out) iZ);have s3:=S.trans (Af.frame S.Ak Akl);rw[<-Aik];clear Aik iZ hmr Akl hXc hXf hxl hx1 hx2 hrc hrpc hrf hrpf hlt hpl hne hyc hyf hyl S Hn;obtain⟨⟨hXc,hXf,hxl,hx1,hx2⟩,⟨hrc,hrpc,hrf,hrpf,hlt,hpl,hne⟩,hyc,hyf,hyl⟩:=Gd s3;have S:=D s3;clear s3;go_wp2;exact Vd (x:=x3) rfl rfl S Hres):p:=h
theorem yh (hne:l≠[]) (hl:Bv l=V) (h1:¬bs (wd l 0)=AQ) (h2:¬bs (wd l 0)=AE) (h3:¬bs (wd l 0)=EM):
  0<J l/\((bs (wd l 0)=Fz/\(J l=3\/J l=5/\0<=Bg Dc (wd l 3)))\/(bs (wd l 0)=DR/\2<J l)\/(bs (wd l 0)=EF/\2<J l)\/(bs (wd l 0)=IF/\1<J l)\/(bs (wd l 0)=UD/\1<J l)\/(bs (wd l 0)=EZ/\1<J l)\/bs (wd l 0)=A8):=by
 obtain⟨a,r,rfl⟩:=QR hne;obtain⟨l1,l2,l3,l4⟩:=yg hl;refine⟨EQ,?_⟩;rcases ZG a r h1 h2 h3 hl with k|k|k|k|k|k|k
 .exact .inl ⟨k,l1 k⟩
 .exact .inr (.inl ⟨k,l2 k⟩)
 .exact .inr (.inr (.inl ⟨k,l3 k⟩))
 .exact .inr (.inr (.inr (.inl ⟨k,l4 (.inl k)⟩)))
 .exact .inr (.inr (.inr (.inr (.inr (.inr k)))))
 .exact .inr (.inr (.inr (.inr (.inl ⟨k,l4 (.inr (.inl k))⟩))))
 .exact .inr (.inr (.inr (.inr (.inr (.inl ⟨k,l4 (.inr (.inr k))⟩)))))
theorem Oa (s:Af w L w' ((F1 b x::g.Az R)++E)):∃g2 R2 x2,g2=g/\R2=R/\x2=x/\Af w L w' ((F1 b x2::g2.Az R2)++E):=⟨g,R,x,rfl,rfl,rfl,s⟩
structure zR (l:Ws) (lw:Value) (w:World) (g:RG) (R:RS) (n:Nat):Prop where
 h:Aq w (g.Az R)
 hL:C5 g R
 hI:Ps R n
 hT:R.p.Aa≠[]
 hw:Sl w (λb=>b∉Er (g.Az R)) lw (Bp l)
 hs:∀a,a∈l->a.size<=maxLen
 h0:0<J l
theorem zR.pre (k:zR l lw w g R n):∃wb woff wcap,lw= qD (U ⟨wb,woff,Z⟩) (J l) wcap/\n9 w l wb woff wcap g R/\w.cell? ⟨wb,woff,Z⟩=U (qE (wd l 0))/\J l<=wcap/\wcap<=2 ^ 63-1/\wb<w.heap.size/\(0:Int)<(J l:Int)/\g.rb<w.heap.size/\g.pb<w.heap.size:=
 have ⟨wb,woff,wcap,e,hd⟩:=Nr k.hw k.h0;have r:=BL k.h
 ⟨wb,woff,wcap,e,hd,hd.c 0 k.h0,hd.n0,hd.n1,hd.lt,by have:=k.h0;omega,r.lt,r.pl⟩
def XB (l:Ws) (lw:Value) (w:World) (g:RG) (R:RS):Prop:=Calls prog 61 #[iJ g.rb,lw] w (nW (R.node l) g R w)
theorem wN (k:zR l lw w g R n) (hk:bs (wd l 0)=Fz) (h5:J l=3\/J l=5/\0<=Bg Dc (wd l 3)):XB l lw w g R:=by
 unfold XB;obtain⟨wb,woff,wcap,rfl,hd,c0,IL,Ud,NH,O0,hlt,hpl⟩:=k.pre;have N:=D k;have Hd:=D hd;have AF:R.node l=R.node l:=rfl
 conv at AF=>rhs;unfold RS.node
 clear k hd;go_enter func61,ntmps61;simp only[hk,Rh,Qf,J7] at AF;obtain⟨q0,q1,q2,q3,q4,q5,q6⟩:=Ft hk V I I I I I I rfl;have Pm:(2:Int)<(J l:Int):=Y
 have Le:(1:Int)<(J l:Int):=Y
 have c2:=Hd.c 2 Y;have vF:=D (λw hr=>LM (wd l 2) w g R hr (Ky N.hs 2));generalize R.CC (wd l 2)=av at*;obtain⟨⟨al,ai⟩,ab⟩:=av;have Hres:=D AF;have H5:=D h5;clear hk AF h5;go_wp2_with fail;have s1:=Zp 115 N.h;refine(vF _ (RM s1.Ak N.hL)).mono ?_;rintro e w2 ⟨rfl,Fa⟩;have s2:=s1.trans (Af.quiet s1.Ak Fa);clear s1 Fa c0 c2 hlt hpl NH vF;obtain⟨⟨hXc,hXf,hxl,hx1,hx2⟩,⟨hrc,hrpc,hrf,hrpf,hlt,hpl,hne⟩,hyc,hyf,hyl⟩:=Gd s2;have S:=D s2;clear s2;simp only[At.val];go_upto_region 9 with fail
 have s3:=pU S al ai;clear hXc hXf hxl hx1 hx2 hrc hrpc hrf hrpf hlt hpl hne hyc hyf hyl S;generalize World.alloc _ _=w3 at s3⊢;have hd3:=Hd.mod s3.mod;have c1:=hd3.c 1 Y;have NH:=hd3.lt;rcases H5.out with h5|⟨h5,iX⟩
 .have hl5:((J l:Int)==5)=I:=by rw[h5];rfl
  have AF:=Hres.out;simp only[h5,show¬(3:Nat)=5 by decide,J7] at AF;obtain⟨g2,R2,x2,hg,hR,hx,s4⟩:=Oa s3;have HL2:=D (show C5 g2 R2 by rw[hg,hR];exact N.hL);have HRB:=D (show g2.rb=g.rb by rw[hg]);have Acz:((x2.kind:Int)==115)=V:=by rw[hx];rfl
  replace Hres:=D (show R.node l=if ab then R2.MQ x2 (wd l 1) else .error 4 by rw[hx,hR];simpa using AF);clear hd3 h5 H5 AF hx hR hg s3;rw[<-HRB.out];obtain⟨⟨hXc,hXf,hxl,hx1,hx2⟩,⟨hrc,hrpc,hrf,hrpf,hlt,hpl,hne⟩,hyc,hyf,hyl⟩:=Gd s4;have S:=D s4;clear s4;cases ab
  .exact Si
  .exact Wh
 .have hl5:((J l:Int)==5)=V:=by rw[h5];rfl
  have iZ:(3:Int)<(J l:Int):=Y
  have hl4:(4:Int)<(J l:Int):=Y
  have AF:=Hres.out;simp only[h5,Qf] at AF;have c3:=hd3.c 3 Y;have c4:=hd3.c 4 Y;have vF:=D (λw hr=>LM (wd l 4) w g R hr (Ky N.hs 4));generalize R.CC (wd l 4)=bv at*;obtain⟨⟨bl,bi⟩,bb⟩:=bv;have Ais:=U4 Dc (wd l 3);have Akv:=λ(v:Value) (W:World) (ok:Nat->Prop) (h:Sl W ok v (Bp Dc))=>Gp Dc (wd l 3) v W ok h
  generalize Bg Dc (wd l 3)=pk at*;obtain⟨pk,rfl⟩:∃m:Nat,pk=m:=⟨pk.toNat,Y⟩;have hpk:pk<12:=by
   rcases Ais with h|⟨_,h⟩
   .omega
   .exact Int.ofNat_lt.1 h
  have AlJ:=D Akv;simp only[JW] at AF;replace Hres:=D AF;clear hd3 h5 H5 Akv Ais iX AF;obtain⟨⟨hXc,hXf,hxl,hx1,hx2⟩,⟨hrc,hrpc,hrf,hrpf,hlt,hpl,hne⟩,hyc,hyf,hyl⟩:=Gd s3;have S:=D s3;clear s3;go_wp2_with fail;refine(da _).mono ?_;rintro e w4 ⟨v1,rfl,XM,Akr⟩;have s4:=S.trans (Af.quiet S.Ak XM);replace c1:=AH XM c1;replace c3:=AH XM c3;replace c4:=AH XM c4;replace NH:wb<w4.heap.size:=JQ NH XM.size;clear XM hXc hXf hxl hx1 hx2 hrc hrpc hrf hrpf hlt hpl hne hyc hyf hyl S;obtain⟨⟨hXc,hXf,hxl,hx1,hx2⟩,⟨hrc,hrpc,hrf,hrpf,hlt,hpl,hne⟩,hyc,hyf,hyl⟩:=Gd s4;have S:=D s4;clear s4;have Agp:=D Akr;clear Akr;go_wp2_with fail;refine(cM _).mono ?_;rintro e w5 ⟨v2,rfl,hm5,Amr⟩;have s5:=S.trans (Af.quiet S.Ak hm5);replace c1:=AH hm5 c1;replace c3:=AH hm5 c3;replace c4:=AH hm5 c4;replace NH:wb<w5.heap.size:=JQ NH hm5.size;replace Agp:=D (Agp.mod hm5 EQ);clear hm5 hXc hXf hxl hx1 hx2 hrc hrpc hrf hrpf hlt hpl hne hyc hyf hyl S;obtain⟨⟨hXc,hXf,hxl,hx1,hx2⟩,⟨hrc,hrpc,hrf,hrpf,hlt,hpl,hne⟩,hyc,hyf,hyl⟩:=Gd s5;have S:=D s5;clear s5;go_wp2_with fail;refine(AlJ v1 _ _ Agp).mono ?_;rintro e w5' ⟨rfl,rfl⟩;obtain⟨_,⟨_,hn⟩|⟨vb,voff,vcap,rfl,v1_,v2_,v3_,v4_,v5_⟩⟩:=Amr
  .exact Jk hn Do
  have Akd:(Bp B7).length=12:=rfl;have hvc:=Sl.Nw (l:=B7) v5_ pk hpk;rw[Akd] at v1_⊢;unfold maxLen at v2_;have An8:(0:Int)<=(pk:Int):=JK _;have An7:(pk:Int)<12:=Y
  clear v5_ Akd Agp AlJ v3_;generalize wd B7 pk=vn at*;go_wp2_with fail;have s7:Af w (g.Az R) _ ((F1 (w.heap.size+1) {Nd.of 115 with a:=⟨al,ai⟩,op:=vn}::g.Az R)++[F1 w.heap.size (.of 0)]):=S.trans (S.Ak.set (i:=0) rfl 2 (qE vn));refine(vF _ (RM s7.Ak N.hL)).mono ?_;rintro e w6 ⟨rfl,hm6⟩;have s8:=s7.trans (Af.quiet s7.Ak hm6);clear s7 hm6 c1 c3 c4 NH hvc v4_ vF hXc hXf hxl hx1 hx2 hrc hrpc hrf hrpf hlt hpl hne hyc hyf hyl S;obtain⟨⟨hXc,hXf,hxl,hx1,hx2⟩,⟨hrc,hrpc,hrf,hrpf,hlt,hpl,hne⟩,hyc,hyf,hyl⟩:=Gd s8;have S:=D s8;clear s8;simp only[At.val];replace Hres:=D (show∀x2 R2,x2={Nd.of 115 with a:=⟨al,ai⟩,op:=vn,b:=⟨bl,bi⟩}->R2=R->R.node l=if ab && bb then R2.MQ x2 (wd l 1) else .error 4 by rintro _ _ rfl rfl;simpa using Hres.out);cases ab<;>cases bb;all_goals
   go_upto_region 41 with fail
   have s9:=AhL S bl bi;clear hXc hXf hxl hx1 hx2 hrc hrpc hrf hrpf hlt hpl hne hyc hyf hyl S;generalize World.alloc _ _=w7 at s9⊢;have hd7:=Hd.mod s9.mod;have c1:=hd7.c 1 Y;have NH:=hd7.lt;obtain⟨g2,R2,x2,hg,hR,hx,s4⟩:=Oa s9;have HL2:=D (show C5 g2 R2 by rw[hg,hR];exact N.hL);have HRB:=D (show g2.rb=g.rb by rw[hg]);have Acz:((x2.kind:Int)==115)=V:=by rw[hx];rfl
   replace Hres:=D (Hres _ _ hx hR);clear hd7 hx hR hg s9;rw[<-HRB.out];obtain⟨⟨hXc,hXf,hxl,hx1,hx2⟩,⟨hrc,hrpc,hrf,hrpf,hlt,hpl,hne⟩,hyc,hyf,hyl⟩:=Gd s4;have S:=D s4;clear s4;first|exact Si|exact Wh
theorem wP (k:zR l lw w g R n) (hk:bs (wd l 0)=DR) (hl:2<J l):XB l lw w g R:=by
 unfold XB;obtain⟨wb,woff,wcap,rfl,hd,c0,IL,Ud,NH,O0,hlt,hpl⟩:=k.pre;have N:=D k;have Hd:=D hd;have AF:R.node l=R.node l:=rfl
 conv at AF=>rhs;unfold RS.node
 clear k hd;go_enter func61,ntmps61;simp only[hk,Rh,Qf,J7] at AF;obtain⟨q0,q1,q2,q3,q4,q5,q6⟩:=Ft hk I V I I I I I rfl;have Pm:(2:Int)<(J l:Int):=Y
 have Le:(1:Int)<(J l:Int):=Y
 have c2:=Hd.c 2 hl;have Hres:=D AF;clear hk AF;go_wp2_with fail;have s1:=Zp 103 N.h;refine(dy (wd l 2) l _ _ g R _ _ n (IU s1.Ak) N.hL N.hI N.hT ((N.hw.step s1).sub kM) N.hs).mono ?_;rintro e w2 ⟨rfl,g2,bu,gW,AcG⟩;have s2:=s1.trans (Af.frame s1.Ak AcG);have AF:=Hres.out;clear s1 AcG c0 c2 hlt hpl NH Hres;have Tn:(R.cell (.of 103) (wd l 2) l).2.1.kind=103:=fe R _ _ _;generalize R.cell (.of 103) (wd l 2) l=cr at s2 gW AF Tn⊢;obtain⟨R2,x2,ok2⟩:=cr;simp only[] at s2 gW AF Tn⊢;have kb:=Hd.mod s2.mod;have c1:=kb.c 1 Y;have NH:=kb.lt;obtain⟨⟨hXc,hXf,hxl,hx1,hx2⟩,⟨hrc,hrpc,hrf,hrpf,hlt,hpl,hne⟩,hyc,hyf,hyl⟩:=Gd s2;have HRB:=D bu;rw[<-bu];have S:=D s2;have HL2:=D gW;have Hres:=D AF;have Acz:((x2.kind:Int)==115)=I:=by rw[Tn];rfl
 have Aic:((x2.kind:Int)==103)=V:=by rw[Tn];rfl
 clear Tn AF gW s2 bu kb;cases ok2
 .exact Si
 .exact Wh
theorem wO (k:zR l lw w g R n) (hk:bs (wd l 0)=EF) (hl:2<J l):XB l lw w g R:=by
 unfold XB;obtain⟨wb,woff,wcap,rfl,hd,c0,IL,Ud,NH,O0,hlt,hpl⟩:=k.pre;have N:=D k;have Hd:=D hd;have AF:R.node l=R.node l:=rfl
 conv at AF=>rhs;unfold RS.node
 clear k hd;go_enter func61,ntmps61;simp only[hk,Rh,Qf,J7] at AF;obtain⟨q0,q1,q2,q3,q4,q5,q6⟩:=Ft hk I I V I I I I rfl;have Pm:(2:Int)<(J l:Int):=Y
 have Le:(1:Int)<(J l:Int):=Y
 have c1:=Hd.c 1 Y;have Hres:=D AF;have Anz:=D (show R.p.BX≠[] from λh0=>N.hT (Jn (by rw[<-N.out.hL.ql,h0];rfl)));have hqn:J R.p.BX<=2500:=by have:=N.hL.ql;have:=N.hI.bn;have:=N.hI.nn;omega
 clear hk AF;go_wp2_with fail;have s1:=Zp 112 N.h;refine(dy (wd l 1) l _ _ g R _ _ n (IU s1.Ak) N.hL N.hI N.hT ((N.hw.step s1).sub kM) N.hs).mono ?_;rintro e w2 ⟨rfl,g2,bu,gW,AcG⟩;have s2:=s1.trans (Af.frame s1.Ak AcG);have AF:=Hres.out;clear s1 AcG c0 c1 hlt hpl NH Hres;have Tn:(R.cell (.of 112) (wd l 1) l).2.1.kind=112:=fe R _ _ _;have Tl:=zr R (.of 112) (wd l 1) l;generalize R.cell (.of 112) (wd l 1) l=cr at s2 gW AF Tn Tl⊢;obtain⟨R1,x1,ok2⟩:=cr;simp only[] at s2 gW AF Tn Tl⊢;have kb:=Hd.mod s2.mod;have c2:=kb.c 2 hl;have NH:=kb.lt;rw[<-Tl] at hqn;have Fe:R1.p.BX≠[]:=by rw[Tl];exact Anz.out
 obtain⟨⟨hXc,hXf,hxl,hx1,hx2⟩,⟨hrc,hrpc,hrf,hrpf,hlt,hpl,hne⟩,hyc,hyf,hyl⟩:=Gd s2;rw[<-bu];have Ag7:=D Tn;have HRB:=D bu;have S:=D s2;have HL1:=D gW;have vF:=D (λw hr=>LM (wd l 2) w g2 R1 hr (Ky N.hs 2));generalize R1.CC (wd l 2)=av at*;obtain⟨⟨al,ai⟩,ab⟩:=av;have Hres:=D AF;clear AF gW s2 bu Tn Tl kb;go_wp2_with fail;refine(vF _ (RM S.Ak HL1)).mono ?_;rintro e w3 ⟨rfl,iY⟩;have s3:=S.trans (Af.quiet S.Ak iY);clear iY vF c2 NH hXc hXf hxl hx1 hx2 hrc hrpc hrf hrpf hlt hpl hne hyc hyf hyl S;obtain⟨m,hm⟩:∃m,J R1.p.BX=m+1:=⟨J R1.p.BX-1,by have:=JI.2 Fe;omega⟩;have hq9:w3.ownsRow 0 4 1 (qD g2.q.p (J R1.p.BX) g2.q.c) (J R1.p.BX) (DE R1.p.BX):=(IU s3.Ak).row (i:=10) rfl;obtain⟨qb,qc,hqe,_,Amz,An6,An5,AcL,AcK⟩:=Av hq9 Y;have hqv:∃v,w3.cell? ⟨qb,m,Z⟩=U v:=⟨_,AcL m (by simp[DE,hm])⟩;obtain⟨qv,hqv⟩:=hqv;have hqr:(F1 (w.heap.size+1) x1::g2.Az R1)[10]?=U (.row (qD (U ⟨qb,0,Z⟩) (J R1.p.BX) qc) 4 1 (J R1.p.BX) (DE R1.p.BX)):=by rw[<-hqe];rfl
 have nxq:=OR (IU s3.Ak) (i:=0) rfl hqr Do;have nrq:=OR (IU s3.Ak) (i:=1) rfl hqr Do;have npq:=OR (IU s3.Ak) (i:=2) rfl hqr Do;obtain⟨⟨hXc,hXf,hxl,hx1,hx2⟩,⟨hrc,hrpc,hrf,hrpf,hlt,hpl,hne⟩,hyc,hyf,hyl⟩:=Gd s3;rw[hqe,hm] at hrpc;have hmn:m<=2500:=Y
 have Dk:(m:Int)<((m:Int)+1):=Y
 have ZY:(0:Int)<=(m:Int):=JK _;have yu:IntKind.i64.wrap (m:Int)=(m:Int):=IntWalk.i64_in _ Y;have hqf:=AcK m;have S:=D s3;have Hqe:=D (hqe.trans (by rw[hm]));have Hm:=D hm;have Hp2:=D Fe;clear hqe hq9 AcL AcK hqr hm hqn Fe s3;simp only[At.val];replace Hres:=D (show∀x2 R2,x2={x1 with a:=⟨al,ai⟩}->R2=R1.F6->R.node l=if ok2 && ab then .ok (R2,x2) else .error 4 by rintro _ _ rfl rfl;simpa using Hres.out);cases ok2<;>cases ab;all_goals
  go_upto_region 26 with fail
  refine AG [] 17 (λW=>W.cell? ⟨g2.rb,0,Z⟩=U (iJ g2.pb)/\W.cell? ⟨g2.pb,3,Z⟩=U (qD (U ⟨qb,0,Z⟩) (m+1) qc)) ?_ ?_
  .exact⟨by go_simp,by go_simp⟩
  refine Dr ?_;intro K hK;refine hK _ _ (λh=>Jk rfl h) ?_;simp only[BO];have t1:=S.Ak.set (i:=0) rfl 3 (qF al);have t2:=t1.Ak.set (i:=0) rfl 4 (iI ai);have t3:=wW (a:=F1 (w.heap.size+1) {x1 with a:=⟨al,ai⟩}) (g:=g2) (R:=R1) (E:=[F1 w.heap.size (.of 0)]) t2.Ak Hqe Hm.out;have t4:Af w (g.Az R) _ ((F1 (w.heap.size+1) {x1 with a:=⟨al,ai⟩}::g2.Az R1.F6)++[F1 w.heap.size (.of 0)]):=S.trans (t1.trans (t2.trans t3));have t5:=t4.trans (Af.alloc t4.Ak (qK #[qF al,iI ai] 108));have s4:=t5.trans (Af.drew t5.Ak);clear t1 t2 t3 t4 t5 hqf nxq nrq npq hqv Amz hXc hXf hxl hx1 hx2 hrc hrpc hrf hrpf hlt hpl hne hyc hyf hyl S;generalize World.drew _=w4 at s4⊢;obtain⟨g2,R2,x2,rfl,hR,hx,s5⟩:=Oa s4;have HL2:=D (show C5 g2 R2 by rw[hR];exact pK HL1 Hp2);have Acz:((x2.kind:Int)==115)=I:=by rw[hx];show((x1.kind:Int)==115)=I;rw[Ag7.out];rfl
  have Aic:((x2.kind:Int)==103)=I:=by rw[hx];show((x1.kind:Int)==103)=I;rw[Ag7.out];rfl
  replace Hres:=D (Hres _ _ hx hR);clear hx hR s4;obtain⟨⟨hXc,hXf,hxl,hx1,hx2⟩,⟨hrc,hrpc,hrf,hrpf,hlt,hpl,hne⟩,hyc,hyf,hyl⟩:=Gd s5;have S:=D s5;clear s5;first|exact Si|exact Zo
theorem du (l:Ws) (lw:Value) (w:World) (g:RG) (R:RS) (n:Nat) (h:Aq w (g.Az R)) (hL:C5 g R) (hI:Ps R n) (hT:R.p.Aa≠[])
  (hw:Sl w (λb=>b∉Er (g.Az R)) lw (Bp l)) (hs:∀a,a∈l->a.size<=maxLen) (hne:l≠[]) (hl:Bv l=V)
  (h1:¬bs (wd l 0)=AQ) (h2:¬bs (wd l 0)=AE) (h3:¬bs (wd l 0)=EM):
  Calls prog 61 #[iJ g.rb,lw] w (nW (R.node l) g R w):=by
 show XB l lw w g R;obtain⟨O0,ho⟩:=yh hne hl h1 h2 h3;have k:zR l lw w g R n:=⟨h,hL,hI,hT,hw,hs,O0⟩;clear h hL hI hT hw hs O0 hne hl h1 h2 h3;rcases ho with⟨hk,h5⟩|⟨hk,hl⟩|⟨hk,hl⟩|ho
 .exact wN k hk h5
 .exact wP k hk hl
 .exact wO k hk hl
 unfold XB;obtain⟨wb,woff,wcap,rfl,hd,c0,IL,Ud,NH,O0,hlt,hpl⟩:=k.pre;have N:=D k;have Hd:=D hd;have AF:R.node l=R.node l:=rfl
 conv at AF=>rhs;unfold RS.node
 clear k hd;go_enter func61,ntmps61;rcases ho with⟨hk,hl⟩|⟨hk,hl⟩|⟨hk,hl⟩|hk;all_goals simp only[hk,Rh,Qf,J7] at AF
 .obtain⟨q0,q1,q2,q3,q4,q5,q6⟩:=Ft hk I I I V I I I rfl;have Le:(1:Int)<(J l:Int):=Y
  have c1:=Hd.c 1 hl;have vF:=D (λw hr=>LM (wd l 1) w g R hr (Ky N.hs 1));generalize R.CC (wd l 1)=av at*;obtain⟨⟨al,ai⟩,ab⟩:=av;have Hres:=D AF;clear hk AF;go_wp2_with fail;have s1:=Zp 111 N.h;exact mak
 .obtain⟨q0,q1,q2,q3,q4,q5,q6⟩:=Ft hk I I I I V I I rfl;have Le:(1:Int)<(J l:Int):=Y
  have c1:=Hd.c 1 hl;have vF:=D (λw hr=>LM (wd l 1) w g R hr (Ky N.hs 1));generalize R.CC (wd l 1)=av at*;obtain⟨⟨al,ai⟩,ab⟩:=av;have Hres:=D AF;clear hk AF;go_wp2_with fail;have s1:=Zp 122 N.h;exact mak
 .obtain⟨q0,q1,q2,q3,q4,q5,q6⟩:=Ft hk I I I I I V I rfl;have Le:(1:Int)<(J l:Int):=Y
  have c1:=Hd.c 1 hl;have Aje:=D (λw=>gE (wd l 1) w (Ky N.hs 1));generalize (number (bs (wd l 1))).getD 0=nv at*;generalize (number (bs (wd l 1))).isSome=nb at*;have Hres:=D AF;clear hk AF;go_wp2_with fail;refine(Aje _).mono ?_;rintro e w' ⟨rfl,rfl⟩;go_wp2;refine bodyPost_ret (v:= qG #[({Nd.of 108 with n:=nv}:Nd).val,iI 0]) (by simp[results,results61,go_sem];rfl) rfl ?_;exact mbN
 .obtain⟨q0,q1,q2,q3,q4,q5,q6⟩:=Ft hk I I I I I I V rfl;have Hres:=D AF;clear hk AF;go_wp2_with fail;refine bodyPost_ret (v:= qG #[(Nd.of 40).val,iI 0]) (by simp[results,results61,go_sem];rfl) rfl ?_;exact mbN
def Fw (res:Except Int RS) (g:RG) (R:RS) (w:World) (e:Ending) (w':World):Prop:=
 match res with
 |.error c=>e= qJ (iI c)/\Aw (Er (g.Az R)) w w'
 |.ok R'=>e= qJ (iI 0)/\∃g',g'.rb=g.rb/\C5 g' R'/\Af w (g.Az R) w' (g'.Az R')
theorem Rl:(prog.info? 3).map (λi=>(i.zero,i.size,i.bytes))=U (U (iI 0),1,8):=Fd
theorem pE (l:Ws) (lw:Value) (w:World) (g:RG) (R:RS) (n:Nat) (h:Aq w (g.Az R)) (hL:C5 g R) (hI:Ps R n)
  (hw:Sl w (λb=>b∉Er (g.Az R)) lw (Bp l)) (hs:∀a,a∈l->a.size<=maxLen) (hl:J l=2\/(J l=3/\GL (bs (wd l 2)) 6=V)):
  Calls prog 59 #[iJ g.rb,lw] w (Fw (R.Ec l) g R w):=by
 obtain⟨wb,woff,wcap,rfl,hd⟩:=Nr hw Y;obtain⟨j0,hj,LP,KZ,MH⟩:=info_parts Xt;obtain⟨i0,hi,I6,K6,LQ⟩:=info_parts Rl;have hp:=λw' (k:Aw [] w w')=>Gp R.Ax (wd l 1) (qD g.s.p (J R.Ax) g.s.c) w' _ ((Sl.OU (h.row (i:=2) rfl)).mod k EQ)
 have AF:R.Ec l=R.Ec l:=rfl
 conv at AF=>rhs;unfold RS.Ec
 generalize hpk:Bg R.Ax (wd l 1)=pk at*;have c1:=hd.c 1 Y;have O0:0<(J l:Int):=Y
 have Le:1<(J l:Int):=Y
 obtain⟨hrc,hrpc,hrf,hrpf,hlt,hpl,hne⟩:=BL h;have Ud:=hd.n1;unfold maxLen at Ud;have H:=D h;have HL:=D hL;have HI:=D hI;have Hp:=D hp;have Hs:=D hs;have Hd:=D hd;clear h hL hI hp hw hpk hs hd;by_cases ht:R.p.Aa=[]
 .have ht0:¬0<(J R.p.Aa:Int):=by rw[ht];decide
  rw[In (λh=>h ht)] at AF;clear ht;by_cases hk:0<=pk
  .rw[Jd hk] at AF;have Hres:=D AF;clear AF;go_enter func59,ntmps59;go_upto_region 3 with fail
   go_quiet (((go_at_call 58);(refine Calls.quiet_of_same (Hp _ ((Aw.refl _ _).drewN _)))))
   go_wp2;go_ret;rw[Hres.out];exact⟨rfl,((Aw.refl _ _).drewN _)⟩
  .rw[In hk] at AF;have LS:pk<0:=Y
   have Ib:∃z:Int,0<z/\z<=6/\R.Ec l=.ok {R with Ax:=R.Ax++[wd l 1],first:=R.first++[R.p.cells],size:=R.size++[z],p:={R.p with cells:=R.p.cells+z}}/\
     ((J l=2/\z=1)\/(J l=3/\(number (bs (wd l 2))).getD 0=z)):=by
    rcases hl with h2|⟨h3,h4⟩
    .exact⟨1,Y,Y,by rw[AF];simp[h2],.inl ⟨h2,rfl⟩⟩
    .unfold GL at h4;cases hnn:number (bs (wd l 2)) with
     |none=>rw[hnn] at h4;cases h4
     |some v=>
      rw[hnn] at h4;simp only[JB,JD] at h4;exact⟨v,Y,Y,by rw[AF];simp[h3,hnn],.inr ⟨h3,EQ⟩⟩
   obtain⟨z,hz,hz6,hok,hlz⟩:=Ib;have Hres:=D hok;clear AF hok hl hk;have hsn:J R.Ax<=2500:=by have:=HI.bn;have:=HI.nn;omega
   have hfn:J R.first<=2500:=by rw[HL.out.fl];exact hsn
   have hzn:J R.size<=2500:=by rw[HL.out.zl];exact hsn
   have bz:=HI.c0;have Ys:R.p.cells<=15000:=by have:=HI.c1;omega
   go_enter func59,ntmps59;go_upto_region 3 with fail
   go_quiet (((go_at_call 58);(refine Calls.quiet_of_same (Hp _ ((Aw.refl _ _).drewN _)))))
   go_upto_if 28 with fail
   go_cut [6] (λq w'=>w'=w.drewN nq/\q= iI z)
   case first=>
    rcases hlz with⟨h2,rfl⟩|⟨h3,h4⟩
    .have Pm:¬2<(J l:Int):=Y
     clear h2;go_wp2_with fail;all_goals go_meet
     exact⟨rfl,rfl⟩
    .have Pm:2<(J l:Int):=Y
     have c2:=Hd.c 2 Y;clear h3;have Aip:=λw=>gE (wd l 2) w (Ky Hs 2)
     rw[h4] at Aip;have Aje:=D Aip;clear Aip h4;go_wp2_with fail;refine(Aje _).mono ?_;rintro e w' ⟨rfl,rfl⟩;go_wp2_with fail;all_goals go_meet
     exact⟨rfl,rfl⟩
   case rest=>
    obtain⟨hwq,rfl⟩:=hcut;obtain rfl:=hwq;have s1:Af w (g.Az R) (w.drewN nq) (g.Az R):=Af.quiet H ((Aw.refl _ _).drewN _);clear hrc hrpc hrf hrpf hlt hpl hne c1 Hp;have AkI:1<J l:=Y
    generalize w.drewN nq=w1 at s1⊢;have c1:=(Hd.mod s1.mod).c 1 AkI;have NH:=(Hd.mod s1.mod).lt;obtain⟨hrc,hrpc,hrf,hrpf,hlt,hpl,hne⟩:=BL s1.Ak;have S:=D s1;clear s1;go_upto_region 9 with fail
    refine AG [8,9] 12 (λW=>W.cell? ⟨g.rb,1,Z⟩=U (qD g.s.p (J R.Ax) g.s.c)/\W.cell? ⟨wb,woff+1,Z⟩=U (qE (wd l 1))) ?_ ?_
    .exact mbT
    refine Dr ?_;intro K hK;refine hK _ _ (λ_=>⟨by go_simp,by go_simp⟩) ?_;refine AJ rfl (λK hK=>?_);refine BW 16 _ _ _ j0 _ #[qE (wd l 1)] _ S.Ak (k:=2) rfl Eq Eq underlying90 hj LP KZ MH rfl Y Eq Eq rfl (by simp[Value.oneCell']) (by unfold maxLen;omega) Y ?_;intro g6 AI w6 Ay _;rw[Xc] at Ay;have z1:w6.cell? ⟨g.rb,1,Z⟩=U (qD g.s.p (J R.Ax) g.s.c):=(Ay.Ak.Ao (i:=0) rfl).cell 1;have z2:=(Hd.mod (S.trans Ay).mod).c 1 AkI;have zf:=(Ay.Ak.Ao (i:=0) rfl).free 1;refine hK _ _ (λ_=>⟨z1,z2⟩) (D3 rfl ?_);simp only[FL];refine Dr ?_;intro K hK;refine hK _ _ (λh=>Jk rfl h) ?_;simp only[BO];clear z1 z2;have t1:=Ay.Ak.set (i:=0) rfl 1 (qD (U ⟨g6,0,Z⟩) (J R.Ax+1) AI);have s2:Af w (g.Az R) (w6.setCell ⟨g.rb,1,Z⟩ (qD (U ⟨g6,0,Z⟩) (J R.Ax+1) AI)) (RG.Az {g with s:=⟨U ⟨g6,0,Z⟩,AI⟩} {R with Ax:=R.Ax++[wd l 1]}):=by
     have e:(R.Ax++[wd l 1]).length=J R.Ax+1:=EQ
     exact maR
    clear t1 Ay hrc hrpc hrf hrpf hlt hpl hne c1 S zf;generalize w6.setCell {block:=g.rb,off:=1} (qD (U {block:=g6,off:=0}) (J R.Ax+1) AI)=w2 at s2⊢;obtain⟨hrc,hrpc,hrf,hrpf,hlt,hpl,hne⟩:=BL s2.Ak;have S:=D s2;clear s2;go_upto_region 10 with fail
    refine AG [12,13] 16 (λW=>W.cell? ⟨g.rb,2,Z⟩=U (qD g.f.p (J R.first) g.f.c)/\W.cell? ⟨g.rb,0,Z⟩=U (iJ g.pb)/\W.cell? ⟨g.pb,1,Z⟩=U (iI R.p.cells)) ?_ ?_
    .exact mbU
    refine Dr ?_;intro K hK;refine hK _ _ (λ_=>⟨by go_simp,by go_simp,by go_simp⟩) ?_;refine AJ rfl (λK hK=>?_);refine BW 8 _ _ _ i0 _ #[iI R.p.cells] _ S.Ak (k:=3) rfl Eq Eq underlying29 hi I6 K6 LQ rfl Y Eq Eq rfl (by simp[Value.oneCell']) (show J R.first+1<=maxLen by unfold maxLen;omega) (show(J R.first+1)*8<=_ by omega) ?_;intro g7 VK w7 Ay _;rw[Xs] at Ay;have z1:w7.cell? ⟨g.rb,2,Z⟩=U (qD g.f.p (J R.first) g.f.c):=(Ay.Ak.Ao (i:=0) rfl).cell 2;have z2:w7.cell? ⟨g.rb,0,Z⟩=U (iJ g.pb):=(Ay.Ak.Ao (i:=0) rfl).cell 0;have z3:w7.cell? ⟨g.pb,1,Z⟩=U (iI R.p.cells):=(Ay.Ak.Ao (i:=1) rfl).cell 1;have zf:=(Ay.Ak.Ao (i:=0) rfl).free 2;refine hK _ _ (λ_=>⟨z1,z2,z3⟩) (D3 rfl ?_);simp only[FL];refine Dr ?_;intro K hK;refine hK _ _ (λh=>Jk rfl h) ?_;simp only[BO];clear z1 z2 z3;have t1:=Ay.Ak.set (i:=0) rfl 2 (qD (U ⟨g7,0,Z⟩) (J R.first+1) VK);have s3:Af w (g.Az R) (w7.setCell ⟨g.rb,2,Z⟩ (qD (U ⟨g7,0,Z⟩) (J R.first+1) VK)) (RG.Az {g with s:=⟨U ⟨g6,0,Z⟩,AI⟩,f:=⟨U ⟨g7,0,Z⟩,VK⟩} {R with Ax:=R.Ax++[wd l 1],first:=R.first++[R.p.cells]}):=by
     have e:(R.first++[R.p.cells]).length=J R.first+1:=EQ
     exact maR
    clear t1 Ay hrc hrpc hrf hrpf hlt hpl hne S zf;generalize w7.setCell {block:=g.rb,off:=2} (qD (U {block:=g7,off:=0}) (J R.first+1) VK)=w3 at s3⊢;obtain⟨hrc,hrpc,hrf,hrpf,hlt,hpl,hne⟩:=BL s3.Ak;have S:=D s3;clear s3;go_upto_region 12 with(first|(at_builtin;refine A6 8 _ _ _ i0 _ #[iI z] _ S.Ak (k:=4) rfl Eq Eq underlying29 hi I6 K6 LQ rfl Y Eq Eq rfl (by simp[Value.oneCell']) (show J R.size+1<=maxLen by unfold maxLen;omega) (show(J R.size+1)*8<=_ by omega) ?_;intro g8 XY w8 Ay _;rw[Xs] at Ay;have q1:=(Ay.Ak.Ao (i:=0) rfl).cell;have q2:=(Ay.Ak.Ao (i:=0) rfl).free;have q3:=(Ay.Ak.Ao (i:=0) rfl).lt;have FZ:=D Ay;clear Ay hrc hrpc hrf hrpf hlt hpl hne))
    have Ay:=FZ.out;have t1:=Ay.Ak.set (i:=0) rfl 3 (qD (U ⟨g8,0,Z⟩) (J R.size+1) XY);have s4:Af w (g.Az R) (w8.setCell ⟨g.rb,3,Z⟩ (qD (U ⟨g8,0,Z⟩) (J R.size+1) XY)) (RG.Az {g with s:=⟨U ⟨g6,0,Z⟩,AI⟩,f:=⟨U ⟨g7,0,Z⟩,VK⟩,z:=⟨U ⟨g8,0,Z⟩,XY⟩} {R with Ax:=R.Ax++[wd l 1],first:=R.first++[R.p.cells],size:=R.size++[z]}):=by
     have e:(R.size++[z]).length=J R.size+1:=EQ
     exact maR
    clear t1 Ay q1 q2 q3 S FZ;generalize w8.setCell {block:=g.rb,off:=3} (qD (U {block:=g8,off:=0}) (J R.size+1) XY)=w4 at s4⊢;obtain⟨hrc,hrpc,hrf,hrpf,hlt,hpl,hne⟩:=BL s4.Ak;have S:=D s4;clear s4;have yu:IntKind.i64.wrap (R.p.cells+z)=R.p.cells+z:=IntWalk.i64_in _ Y;go_upto_region 12 with fail
    refine AG [] 15 (λW=>W.cell? ⟨g.rb,0,Z⟩=U (iJ g.pb)/\W.cell? ⟨g.pb,1,Z⟩=U (iI R.p.cells)) ?_ ?_
    .exact mbT
    refine Dr ?_;intro K hK;refine hK _ _ (λh=>Jk rfl h) ?_;simp only[BO];have t1:=S.Ak.set (i:=1) rfl 1 (iI (R.p.cells+z));have s5:Af w (g.Az R) (w4.setCell ⟨g.pb,1,Z⟩ (iI (R.p.cells+z))) (RG.Az {g with s:=⟨U ⟨g6,0,Z⟩,AI⟩,f:=⟨U ⟨g7,0,Z⟩,VK⟩,z:=⟨U ⟨g8,0,Z⟩,XY⟩} {R with Ax:=R.Ax++[wd l 1],first:=R.first++[R.p.cells],size:=R.size++[z],p:={R.p with cells:=R.p.cells+z}}):=S.trans t1;have s6:=s5.trans (Af.drew s5.Ak);go_wp2;go_ret;rw[Hres.out];exact⟨rfl,{g with s:=⟨U ⟨g6,0,Z⟩,AI⟩,f:=⟨U ⟨g7,0,Z⟩,VK⟩,z:=⟨U ⟨g8,0,Z⟩,XY⟩},rfl,⟨HL.cl,HL.dl,HL.ql,HL.tl,by simp[HL.out.fl],by simp[HL.out.zl],HL.ll⟩,s6⟩
 .have ht0:0<(J R.p.Aa:Int):=by have:=JI.2 ht;omega
  rw[Jd ht] at AF;have Hres:=D AF;clear AF;go_enter func59,ntmps59;go_wp2_with fail;go_ret;rw[Hres.out];exact⟨rfl,Aw.refl _ _⟩
theorem D0 (l:List Nd):(Bk l).length=J l*14:=by
 induction l with
 |nil=>rfl
 |cons a r ih=>
  have:(Nd.cells a).length=14:=rfl;simp only[Bk,J2,GT,Jg] at ih⊢;omega
theorem Iw (l:List Nd) (i j:Nat) (hi:i<J l) (hj:j<14):(Bk l)[i*14+j]?=(Nd.cells (l.getD i (.of 0)))[j]?:=by
 induction l generalizing i with
 |nil=>simp at hi
 |cons a r ih=>
  have O2:(Nd.cells a).length=14:=rfl;cases i with
  |zero=>
   simp only[Bk,J2,Nat.zero_mul,JU,jN];rw[JT Y]
  |succ i=>
   simp only[Bk,J2,jO];rw[JL Y,O2,show(i+1)*14+j-14=i*14+j by omega];exact ih i (by simpa using hi)
theorem lM (l:List Nd) (i:Nat) (hi:i<J l) (n:Int):(Bk l).set (i*14+11) (iI n)=Bk (l.set i {l.getD i (.of 0) with CN:=n}):=by
 induction l generalizing i with
 |nil=>simp at hi
 |cons a r ih=>
  cases i with
  |zero=>rfl
  |succ i=>
   have O2:(Nd.cells a).length=14:=rfl;simp only[Bk,J2,jO,QO];rw[Qg _ _ Y,O2,show(i+1)*14+11-14=i*14+11 by omega];congr 1;exact ih i (by simpa using hi)
theorem Gq (l:List Nd) (x:Nd):Bk l++x.cells=Bk (l++[x]):=by simp[Bk]
theorem Wt:(prog.info? 110).map (λi=>(i.zero,i.size,i.bytes))=U (U (Nd.of 0).val,14,120):=Fd
def RG.ten (g:RG) (R:RS):List Ob:=
 [.Ao g.rb #[iJ g.pb,qD g.s.p (J R.Ax) g.s.c,qD g.f.p (J R.first) g.f.c,qD g.z.p (J R.size) g.z.c,qD g.l.p (J R.AA) g.l.c,qD g.o.p (J R.Ad) g.o.c,iI R.Ai,qF I,iI 0] 94,
  .Ao g.pb #[qD g.t.p (J R.p.Aa) g.t.c,iI R.p.cells,qD g.u.p (J R.p.Ap) g.u.c,qD g.q.p (J R.p.BX) g.q.c] 53,
  L7 g.s R.Ax,Rj g.f R.first,Rj g.z R.size,L7 g.l R.AA,TY g.o R.Ad,
  .row (qD g.t.p (J R.p.Aa) g.t.c) 72 1 (J R.p.Aa) (A4 g.cv R.p.Aa),
  .row (qD g.u.p (J R.p.Ap) g.u.c) 51 1 (J R.p.Ap) (A4 g.dv R.p.Ap),
  Bw g.q R.p.BX]
theorem Zn {l:List Nd} (hv:g.cv=vs++[c]) (ht:R.p.Aa=ts++[l]) (hl:J vs=J ts):
  g.Az R=(g.ten R++List.zipWith CM vs ts)++CM c l::List.zipWith Bw g.dv R.p.Ap:=by
 show g.ten R++(List.zipWith CM g.cv R.p.Aa++List.zipWith Bw g.dv R.p.Ap)=_;rw[hv,ht,Qz hl];simp
theorem Aeo (g:RG) (R:RS):(g.ten R).length=10:=rfl
theorem ej (g:RG) (R:RS) {vs:List SG} {ts:List (List Nd)} (hl:J vs=J ts):(g.ten R++List.zipWith CM vs ts).length=J ts+10:=by
 simp[Aeo,hl];omega
theorem u0 {l:List Nd} (hv:g.cv=vs++[c]) (ht:R.p.Aa=ts++[l]) (hl:J vs=J ts) (a:Ob) (c':SG) (l':List Nd):
  (((g.Az R).set (J ts+10) a).set (J ts+10) (CM c' l')).set 7 (.row (qD g.t.p (J R.p.Aa) g.t.c) 72 1 (J R.p.Aa) (A4 (vs++[c']) (ts++[l'])))=RG.Az {g with cv:=vs++[c']} (R.BB l'):=by
 have e1:(R.BB l').p.Aa=ts++[l']:=Nb ht;have e2:(R.BB l').p.Aa.length=J R.p.Aa:=by rw[e1,ht];simp
 rw[Zn (g:={g with cv:=vs++[c']}) (R:=R.BB l') rfl e1 hl,Zn hv ht hl];rw[<-ej g R hl,gH,gH];unfold RG.ten;rw[e2,e1];rfl
theorem O5 {l:List Nd} (hv:g.cv=vs++[c]) (ht:R.p.Aa=ts++[l]) (h:C5 g R) (c':SG) (l':List Nd) (o:SG):C5 {g with cv:=vs++[c'],o:=o} (R.BB l'):=by
 have e1:(R.BB l').p.Aa=ts++[l']:=Nb ht;have e2:(R.BB l').p.Aa.length=J R.p.Aa:=by rw[e1,ht];simp
 refine⟨?_,h.dl,h.ql.trans e2.symm,h.tl.trans e2.symm,h.fl,h.zl,h.ll⟩;rw[e2,<-h.cl,hv];simp
theorem ui (h:Aq w L) {i j b c:Nat} {e e':TypeId} {s s' n n' m m' cap cap':Nat} {xs ys:List Value} (hi:L[i]?=U (.row (qD (U ⟨b,0,Z⟩) m cap) e s n xs)) (hj:L[j]?=U (.row (qD (U ⟨c,0,Z⟩) m' cap') e' s' n' ys)) (hij:i≠j):b≠c:=λh'=>by
 have:=h.far hi hj hij b (by simp[Ob.fp,Value.ownBlock]);exact this (by rw[h'];simp[Ob.fp,Value.ownBlock])
theorem UU {α:Type} {L:List α} {i:Nat} {o x:α} (h:L[i]?=U o):(L.set i x)[i]?=U x:=by
 rw[List.getElem?_set_self];exact(Jm.1 h).1
theorem WH {w6:World} {l m:List Nd} {AI g6:Nat} (hv:g.cv=vs++[c]) (ht:R.p.Aa=ts++[l]) (hl:J vs=J ts) (FU:AN<J m)
  (hit:(g.Az R)[J ts+10]?=U (.row (qD (U ⟨lb,0,Z⟩) (J l) lc) 110 14 (J l) (Bk l)))
  (UF:qD g.t.p (J R.p.Aa) g.t.c= qD (U ⟨tb,0,Z⟩) (J ts+1) tc)
  (Ay:Af W (g.Az R) w6 ((g.Az R).set (J ts+10) (.row (qD (U ⟨g6,0,Z⟩) (J m) AI) 110 14 (J m) (Bk m)))):
  Af W (g.Az R) ((w6.setCell ⟨g6,AN*14+11,Z⟩ (iI (J m))).setCell ⟨tb,J ts,Z⟩ (qD (U ⟨g6,0,Z⟩) (J m) AI))
   (RG.Az {g with cv:=vs++[⟨U ⟨g6,0,Z⟩,AI⟩]} (R.BB (m.set AN {m.getD AN (.of 0) with CN:=J m}))):=by
 have t1:=Ay.Ak.Eu (UU hit) (AN*14+11) (by rw[D0];omega) (iI (J m));rw[lM _ _ FU] at t1;have h7:∀L:Ob,∀M:Ob,(((g.Az R).set (J ts+10) L).set (J ts+10) M)[7]?=U (.row (qD (U ⟨tb,0,Z⟩) (J ts+1) tc) 72 1 (J ts+1) (A4 g.cv R.p.Aa)):=λL M=>by
  exact maU
 have t2:=t1.Ak.Eu (h7 _ _) (J ts) (by rw[hv,ht,Bm _ _ _ _ hl,GT,BT _ _ hl];simp) (qD (U ⟨g6,0,Z⟩) (J m) AI);have e3:(A4 g.cv R.p.Aa).set (J ts) (qD (U ⟨g6,0,Z⟩) (J m) AI)=A4 (vs++[⟨U ⟨g6,0,Z⟩,AI⟩]) (ts++[m.set AN {m.getD AN (.of 0) with CN:=J m}]):=by
  exact mbq
 rw[e3] at t2;have e4:Ob.row (qD (U ⟨g6,0,Z⟩) (J m) AI) 110 14 (J m) (Bk (m.set AN {m.getD AN (.of 0) with CN:=J m}))=CM ⟨U ⟨g6,0,Z⟩,AI⟩ (m.set AN {m.getD AN (.of 0) with CN:=J m}):=by
  unfold CM;rw[Jp]
 rw[e4] at t1 t2;have e5:Ob.row (qD (U ⟨tb,0,Z⟩) (J ts+1) tc) 72 1 (J ts+1) (A4 (vs++[⟨U ⟨g6,0,Z⟩,AI⟩]) (ts++[m.set AN {m.getD AN (.of 0) with CN:=J m}]))=
   .row (qD g.t.p (J R.p.Aa) g.t.c) 72 1 (J R.p.Aa) (A4 (vs++[⟨U ⟨g6,0,Z⟩,AI⟩]) (ts++[m.set AN {m.getD AN (.of 0) with CN:=J m}])):=by
  rw[UF,ht];simp
 rw[e5,u0 hv ht hl] at t2;exact Ay.trans (t1.trans t2)
theorem sj {l:List Nd} (hv:g.cv=vs++[c]) (ht:R.p.Aa=ts++[l]) (hl:J vs=J ts) (FU:AN<J l)
  (hit:(g.Az R)[J ts+10]?=U (.row (qD (U ⟨lb,0,Z⟩) (J l) lc) 110 14 (J l) (Bk l)))
  (UF:qD g.t.p (J R.p.Aa) g.t.c= qD (U ⟨tb,0,Z⟩) (J ts+1) tc) (Ak:Aq W (g.Az R)):
  Af W (g.Az R) ((W.setCell ⟨lb,AN*14+11,Z⟩ (iI (J l))).setCell ⟨tb,J ts,Z⟩ (qD (U ⟨lb,0,Z⟩) (J l) lc))
   (RG.Az {g with cv:=vs++[⟨U ⟨lb,0,Z⟩,lc⟩]} (R.BB (l.set AN {l.getD AN (.of 0) with CN:=J l}))):=by
 refine WH (m:=l) hv ht hl FU hit UF ?_;obtain⟨hlt,he⟩:=Jm.1 hit;rw[<-he,List.set_getElem_self];exact Af.refl Ak
theorem Abl (w:World) (g:RG) (R:RS) (n:Nat) (h:Aq w (g.Az R)) (hL:C5 g R) (hI:Ps R n) (hO:WX R):
  Calls prog 60 #[iJ g.rb] w (Fw R.PD g R w):=by
 obtain⟨j0,hj,LP,KZ,MH⟩:=info_parts Wt;obtain⟨hrc,hrpc,hrf,hrpf,hlt,hpl,hne⟩:=BL h;have AF:R.PD=R.PD:=rfl
 conv at AF=>rhs;unfold RS.PD
 rcases Jw R.Ad with h0|⟨os,AN,h0⟩
 .rw[h0] at AF;simp only[List.getLast?_nil] at AF;rw[h0] at hrc;have Hres:=D AF;clear h hL hI hO AF h0 hj LP KZ MH;simp only[Jx] at hrc;go_enter func60,ntmps60;go_wp2_with fail;go_ret;rw[Hres.out];exact⟨rfl,Aw.refl _ _⟩
 .rw[Jz] at h0;rw[h0] at AF;simp only[Qm,Pi,QP,Qa] at AF;have hT:=hO.ne (by rw[h0];simp);obtain⟨vs,c,ts,l,hv,ht,FK⟩:=Oi hL.cl hT;have FR:=Dy ht;rw[FR] at AF;have FU:AN<J l:=by rw[<-FR];exact hO.lt AN (by rw[h0];simp)
  have ow:J l<=100:=by rw[<-FR];exact hO.nl
  have Wv:J os<=2:=by have:=hO.ol;rw[h0] at this;simp at this;omega
  have gP:J ts<=2500:=by have:=hI.bn;have:=hI.nn;rw[ht] at*;simp at*;omega
  have ZW:=Zn hv ht FK;have AgL:=h.row (i:=6) rfl;obtain⟨ob,oc,hoe,_,Afx,AmF,Aoa,Rr,AcN⟩:=Av AgL (by rw[h0];simp);rw[h0,GT,JP] at AmF;have mD:w.cell? ⟨ob,J os,Z⟩=U (iI (AN:Int)):=by
   rw[Rr (J os) (by simp[EG,TX,h0])];simp[EG,TX,h0]
  have AgK:=h.row (i:=7) rfl;obtain⟨tb,tc,UF,_,Afu,_,An4,Ro,AcC⟩:=Av AgK (by rw[ht];simp);have gR:w.cell? ⟨tb,J ts,Z⟩=U (qD c.p (J l) c.c):=by
   rw[Ro (J ts) (by rw[hv,ht,Bm _ _ _ _ FK,GT,BT _ _ FK];simp)];simp only[hv,ht,Bm _ _ _ _ FK];rw[QS (by rw[BT _ _ FK];omega)];simp
  have hit:(g.Az R)[J ts+10]?=U (CM c l):=by rw[ZW,<-ej g R FK];exact Sk
  have AgH:=h.row hit;obtain⟨lb,lc,hle,_,AfC,_,Aoj,Rs,AcQ⟩:=Av AgH Y;have GO:∀j,j<14->w.cell? ⟨lb,AN*14+j,Z⟩=(Nd.cells (l.getD AN (.of 0)))[j]?:=λj hj=>by
   have hlt:AN*14+j<(Bk l).length:=by rw[D0];omega
   rw[Rs _ hlt,<-Jb,Iw l AN j FU hj]
  rw[hoe,h0] at hrc;rw[UF,ht] at hrpc;rw[hle] at gR;simp only[GT,JP] at hrc hrpc;generalize hx:l.getD AN (.of 0)=x at*;have IL:w.cell? ⟨lb,AN*14,Z⟩=U (.int .u8 x.kind):=GO 0 Y;have AkB:w.cell? ⟨lb,AN*14+13,Z⟩=U (iI x.Ah):=GO 13 Y;have AfD:(g.Az R)[J ts+10]?=U (.row (qD (U ⟨lb,0,Z⟩) (J l) lc) 110 14 (J l) (Bk l)):=by rw[hit];unfold CM;rw[hle]
  have h6r:(g.Az R)[6]?=U (.row (qD (U ⟨ob,0,Z⟩) (J os+1) oc) 3 1 (J os+1) (EG (TX R.Ad))):=by
   show U (TY g.o R.Ad)=_;unfold TY;rw[hoe,h0];simp
  have h7r:(g.Az R)[7]?=U (.row (qD (U ⟨tb,0,Z⟩) (J ts+1) tc) 72 1 (J ts+1) (A4 g.cv R.p.Aa)):=by
   exact maU
  have n2:=OR h (i:=0) rfl h7r Y;have n3:=OR h (i:=1) rfl AfD Y;have n4:lb≠tb:=λe=>by
   have:=h.far AfD h7r Y lb (by simp[Ob.fp,Value.ownBlock]);exact this (by rw[e];simp[Ob.fp,Value.ownBlock])
  have AnF:=D AfD;have H6r:=D h6r;have H7r:=D h7r;clear AfD h6r h7r;have H:=D h;have HL:=D hL;have Hres:=D AF;have H0:=D h0;have Hv:=D hv;have Ht:=D ht;have X6:=D FK;have cG:=D UF;have Hx:=D hx;have Ux:=D GO;clear h hL hI hO AF h0 hv ht hoe UF hle hit ZW AgL AgK AgH Rr Ro Rs hT FR hx GO;have LB:(0:Int)<=(AN:Int):=JK _;have mR:(AN:Int)<(J l:Int):=Y
  have ho0:(0:Int)<=(J os:Int):=JK _;have XK:(J os:Int)<=(oc:Int):=Y
  have Vy:(J os:Int)<((J os:Int)+1):=Y
  have ht1:(J ts:Int)<((J ts:Int)+1):=Y
  go_enter func60,ntmps60;go_upto_region 9 with fail
  have S:Hid (Af w (g.Az R) (w.setCell ⟨g.rb,5,Z⟩ (qD (U ⟨ob,0,Z⟩) (J os) oc)) (RG.Az {g with o:=⟨U ⟨ob,0,Z⟩,oc⟩} {R with Ad:=os})):=by
   refine D ?_;have t1:=H.set (i:=0) rfl 5 (qD (U ⟨ob,0,Z⟩) (J os) oc);have t2:=t1.Ak.take (i:=6) H6r (J os) Y;have e:(EG (TX R.Ad)).take (J os*1)=EG (TX os):=by rw[H0.out];simp[EG,TX]
   rw[e] at t2;exact t1.trans t2
  have Htp:=D (show qD g.t.p (J R.p.Aa) g.t.c= qD (U ⟨tb,0,Z⟩) (J ts+1) tc by rw[cG.out,Ht.out];simp);have fE:=D (show J ts<(A4 g.cv R.p.Aa).length by rw[Hv.out,Ht.out,Bm _ _ _ _ X6.out,GT,BT _ _ X6.out];simp);have cH:Hid ((RG.Az {g with o:=⟨U ⟨ob,0,Z⟩,oc⟩} {R with Ad:=os})[J ts+10]?=U (.row (qD (U ⟨lb,0,Z⟩) (J l) lc) 110 14 (J l) (Bk l))):=D AnF.out;by_cases k40:x.kind=40
  .have hk:((x.kind:Int)==40)=V:=by rw[k40];rfl
   have K:=D k40;clear k40;go_upto_region 13 with(first|(at_builtin;refine Kn 120 _ _ _ j0 _ #[.int .u8 41,iI 0,.string ⟨#[]⟩,qF I,iI 0,qF I,iI 0,qF I,iI 0,iI 0,iI 0,iI 0,iI 0,iI 0] _ w.heap.size EQ S.Ak (k:=J ts+10) cH Eq Eq underlying72 hj LP KZ MH rfl Y Eq Eq rfl (by simp[Value.oneCell']) (by unfold maxLen;omega) Y ?_;intro g6 AI w6 Ay _))
   rw[show Bk l++(#[.int .u8 41,iI 0,qE ⟨#[]⟩,qF I,iI 0,qF I,iI 0,qF I,iI 0,iI 0,iI 0,iI 0,iI 0,iI 0]:Array Value).toList=Bk (l++[Nd.of 41]) from Gq l (Nd.of 41)] at Ay;obtain⟨qc,qf,ql⟩:=AZ (Ay.Ak.row (UU cH));have qv:∃v,w6.cell? ⟨g6,AN*14+11,Z⟩=U v:=⟨_,qc _ (by rw[D0];simp;omega)⟩;obtain⟨qv,qv1⟩:=qv;replace qf:=qf (AN*14+11);have r0:=(Ay.Ak.Ao (i:=0) rfl).cell 0;have r1:=(Ay.Ak.Ao (i:=1) rfl).cell 0;obtain⟨tcl,tf,tl⟩:=AZ (Ay.Ak.row (i:=7) H7r);have tv:∃v,w6.cell? ⟨tb,J ts,Z⟩=U v:=⟨_,tcl (J ts) fE⟩;obtain⟨tv,tv1⟩:=tv;replace tf:=tf (J ts);have m3:=ui Ay.Ak (i:=J ts+10) (j:=7) (UU cH) H7r Y;rw[Htp.out] at r1;have FZ:=D Ay;clear Ay qc tcl hrc hrpc hrf hrpf hlt hpl hne mD gR IL AkB n2 n3 n4 Afx Afu AfC AcN AcC AcQ;go_wp2;go_ret;have hlen:(l++[Nd.of 41]).length=J l+1:=EQ
   have Ay:=FZ.out;rw[<-hlen] at Ay;have hm:=WH (g:={g with o:=⟨U ⟨ob,0,Z⟩,oc⟩}) (R:={R with Ad:=os}) (m:=l++[Nd.of 41]) (AN:=AN) (c:=c) Hv Ht X6 (by simp;omega) cH Htp Ay;have hr:R.PD=.ok (RS.BB {R with Ad:=os} ((l++[Nd.of 41]).set AN {(l++[Nd.of 41]).getD AN (.of 0) with CN:=((l++[Nd.of 41]).length:Int)})):=by rw[Hres.out];simp[K.out]
   rw[hr];refine⟨rfl,{g with cv:=vs++[⟨U ⟨g6,0,Z⟩,AI⟩],o:=⟨U ⟨ob,0,Z⟩,oc⟩},rfl,O5 (R:={R with Ad:=os}) Hv Ht ⟨HL.cl,HL.dl,HL.ql,HL.tl,HL.fl,HL.zl,HL.ll⟩ _ _ _,?_⟩;have hq:=S.trans hm;rw[hlen] at hq⊢;exact hq
  .have hk:((x.kind:Int)==40)=I:=by rw[Jh];omega
   by_cases k108:x.kind=108
   .have MU:((x.kind:Int)==108)=V:=by rw[k108];rfl
    have K:=D k108;clear k108 k40;have yu:IntKind.i64.wrap ((AN:Int)+1)=(AN:Int)+1:=IntWalk.i64_in _ Y;go_upto_region 13 with(first|(at_builtin;refine Kn 120 _ _ _ j0 _ #[.int .u8 98,iI 0,.string ⟨#[]⟩,qF I,iI 0,qF I,iI 0,qF I,iI 0,iI 0,iI 0,iI ((AN:Int)+1),iI 0,iI x.Ah] _ w.heap.size EQ S.Ak (k:=J ts+10) cH Eq Eq underlying72 hj LP KZ MH rfl Y Eq Eq rfl (by simp[Value.oneCell']) (by unfold maxLen;omega) Y ?_;intro g6 AI w6 Ay _))
    rw[show Bk l++(#[.int .u8 98,iI 0,qE ⟨#[]⟩,qF I,iI 0,qF I,iI 0,qF I,iI 0,iI 0,iI 0,iI ((AN:Int)+1),iI 0,iI x.Ah]:Array Value).toList=Bk (l++[({Nd.of 98 with CN:=(AN:Int)+1,Ah:=x.Ah}:Nd)]) from Gq l ({Nd.of 98 with CN:=(AN:Int)+1,Ah:=x.Ah}:Nd)] at Ay;obtain⟨qc,qf,ql⟩:=AZ (Ay.Ak.row (UU cH));have qv:∃v,w6.cell? ⟨g6,AN*14+11,Z⟩=U v:=⟨_,qc _ (by rw[D0];simp;omega)⟩;obtain⟨qv,qv1⟩:=qv;replace qf:=qf (AN*14+11);have r0:=(Ay.Ak.Ao (i:=0) rfl).cell 0;have r1:=(Ay.Ak.Ao (i:=1) rfl).cell 0;obtain⟨tcl,tf,tl⟩:=AZ (Ay.Ak.row (i:=7) H7r);have tv:∃v,w6.cell? ⟨tb,J ts,Z⟩=U v:=⟨_,tcl (J ts) fE⟩;obtain⟨tv,tv1⟩:=tv;replace tf:=tf (J ts);have m3:=ui Ay.Ak (i:=J ts+10) (j:=7) (UU cH) H7r Y;rw[Htp.out] at r1;have FZ:=D Ay;clear Ay qc tcl hrc hrpc hrf hrpf hlt hpl hne mD gR IL AkB n2 n3 n4 Afx Afu AfC AcN AcC AcQ;go_wp2;go_ret;have hlen:(l++[({Nd.of 98 with CN:=(AN:Int)+1,Ah:=x.Ah}:Nd)]).length=J l+1:=EQ
    have Ay:=FZ.out;rw[<-hlen] at Ay;have hm:=WH (g:={g with o:=⟨U ⟨ob,0,Z⟩,oc⟩}) (R:={R with Ad:=os}) (m:=l++[({Nd.of 98 with CN:=(AN:Int)+1,Ah:=x.Ah}:Nd)]) (AN:=AN) (c:=c) Hv Ht X6 (by simp;omega) cH Htp Ay;have hr:R.PD=.ok (RS.BB {R with Ad:=os} ((l++[({Nd.of 98 with CN:=(AN:Int)+1,Ah:=x.Ah}:Nd)]).set AN {(l++[({Nd.of 98 with CN:=(AN:Int)+1,Ah:=x.Ah}:Nd)]).getD AN (.of 0) with CN:=((l++[({Nd.of 98 with CN:=(AN:Int)+1,Ah:=x.Ah}:Nd)]).length:Int)})):=by rw[Hres.out];simp[K.out,Hx.out]
    rw[hr];refine⟨rfl,{g with cv:=vs++[⟨U ⟨g6,0,Z⟩,AI⟩],o:=⟨U ⟨ob,0,Z⟩,oc⟩},rfl,O5 (R:={R with Ad:=os}) Hv Ht ⟨HL.cl,HL.dl,HL.ql,HL.tl,HL.fl,HL.zl,HL.ll⟩ _ _ _,?_⟩;have hq:=S.trans hm;rw[hlen] at hq⊢;exact hq
   .have MU:((x.kind:Int)==108)=I:=by rw[Jh];omega
    have K:=D k108;have K4:=D k40;clear k108 k40;go_upto_region 13 with fail
    obtain⟨qc,qf,ql⟩:=AZ (S.Ak.row cH);have qv:∃v,(w.setCell ⟨g.rb,5,Z⟩ (qD (U ⟨ob,0,Z⟩) (J os) oc)).cell? ⟨lb,AN*14+11,Z⟩=U v:=⟨_,qc _ (by rw[D0];omega)⟩;obtain⟨qv,qv1⟩:=qv;have AkC:∃v,w.cell? ⟨lb,AN*14+11,Z⟩=U v:=⟨_,Ux 11 Y⟩;obtain⟨v11,AkC⟩:=AkC;clear qc qf ql qv1;go_wp2;go_ret;have hm:=sj (g:={g with o:=⟨U ⟨ob,0,Z⟩,oc⟩}) (R:={R with Ad:=os}) (AN:=AN) (c:=c) Hv Ht X6 FU cH Htp S.Ak;have hr:R.PD=.ok (RS.BB {R with Ad:=os} (l.set AN {l.getD AN (.of 0) with CN:=(J l:Int)})):=by rw[Hres.out];simp only[K.out,K4.out,J7,Hx.out]
    rw[hr];exact⟨rfl,{g with cv:=vs++[⟨U ⟨lb,0,Z⟩,lc⟩],o:=⟨U ⟨ob,0,Z⟩,oc⟩},rfl,O5 (R:={R with Ad:=os}) Hv Ht ⟨HL.cl,HL.dl,HL.ql,HL.tl,HL.fl,HL.zl,HL.ll⟩ _ _ _,S.trans hm⟩
theorem AaW (hl:Bv l=V) (hne:l≠[]) (hk:bs (wd l 0)=AQ):J l=2\/(J l=3/\GL (bs (wd l 2)) 6=V):=by
 obtain⟨w,r,rfl⟩:=QR hne;have LS:bs w=AQ:=hk;simp[Bv,Fy,IE,Kh,LS,AQ] at hl;rcases hl.2 with h|h
 .left;simp;omega
 .right;exact⟨by simp;omega,by rw[Kh];exact h.2⟩
theorem lg (l:Ws) (lw:Value) (w:World) (g:RG) (R:RS) (n:Nat) (h:Aq w (g.Az R)) (hL:C5 g R) (hI:Ps R n)
  (hw:Sl w (λb=>b∉Er (g.Az R)) lw (Bp l)) (hs:∀a,a∈l->a.size<=maxLen) (hne:l≠[]) (MT:Bv l=V) (hk:bs (wd l 0)=AQ):
  Calls prog 37 #[iJ g.rb,lw] w (Fw (R.row l) g R w):=by
 have hl:=AaW MT hne hk;have AF:R.row l=R.Ec l:=by unfold RS.row;simp[hk]
 obtain⟨wb,woff,wcap,rfl,hd⟩:=Nr hw Y;have IK:=pE l _ w g R n h hL hI hw hs hl;have c0:=hd.c 0 Y;simp only[J4] at c0;have q0:=CZ hk;unfold AQ at q0;have O0:0<(J l:Int):=Y
 obtain⟨hrc,hrpc,hrf,hrpf,hlt,hpl,bW⟩:=BL h;have gP:J R.p.Aa<=2500:=by have:=hI.bn;have:=hI.nn;omega
 have Ud:=hd.n1;unfold maxLen at Ud;have Hsh:=D IK;have Hres:=D AF;clear IK AF hw hl hk MT hd h hL hI hs hne;go_enter func37,ntmps37;go_wp2_with fail;refine Hsh.mono ?_;intro e w' he;rw[<-Hres.out] at he;unfold Fw at he;cases hr:R.row l with
 |error c=>
  exact maB
 |ok R'=>
  exact maB
theorem Aa7 (l:Ws) (lw:Value) (w:World) (g:RG) (R:RS) (n:Nat) (h:Aq w (g.Az R)) (hL:C5 g R) (hI:Ps R n) (hO:WX R)
  (hw:Sl w (λb=>b∉Er (g.Az R)) lw (Bp l)) (hne:l≠[]) (hk:bs (wd l 0)=EM):
  Calls prog 37 #[iJ g.rb,lw] w (Fw (R.row l) g R w):=by
 have hl:=JI.2 hne;have AF:R.row l=R.PD:=by
  unfold RS.row;simp only[hk];rw[In Do,In Do,Jd trivial]
 obtain⟨wb,woff,wcap,rfl,hd⟩:=Nr hw hl;have IK:=Abl w g R n h hL hI hO;have c0:=hd.c 0 Y;simp only[J4] at c0;have q0:=CZ hk;unfold EM at q0;have q1:=Bz (k:=AQ) (by rw[hk];decide);have q2:=Bz (k:=AE) (by rw[hk];decide);unfold AQ at q1;unfold AE at q2;have O0:0<(J l:Int):=Y
 obtain⟨hrc,hrpc,hrf,hrpf,hlt,hpl,bW⟩:=BL h;have gP:J R.p.Aa<=2500:=by have:=hI.bn;have:=hI.nn;omega
 have Ud:=hd.n1;unfold maxLen at Ud;have Hsh:=D IK;have Hres:=D AF;clear IK AF hw hl hk hd h hL hI hO hne;go_enter func37,ntmps37;go_wp2_with fail;refine Hsh.mono ?_;intro e w' he;rw[<-Hres.out] at he;unfold Fw at he;cases hr:R.row l with
 |error c=>
  exact maB
 |ok R'=>
  exact maB
theorem gk (l:Ws) (lw:Value) (w:World) (g:RG) (R:RS) (n:Nat) (h:Aq w (g.Az R)) (hI:Ps R n) (hO:WX R)
  (hw:Sl w (λb=>b∉Er (g.Az R)) lw (Bp l)) (hne:l≠[]) (hk:bs (wd l 0)=AE) (ho:R.Ad≠[]):
  Calls prog 37 #[iJ g.rb,lw] w (Fw (R.row l) g R w):=by
 have hl:=JI.2 hne;have AF:R.row l=.error 3:=by
  unfold RS.row;simp only[hk];rw[In Do,Jd trivial,Jd ho]
 obtain⟨wb,woff,wcap,rfl,hd⟩:=Nr hw hl;have c0:=hd.c 0 Y;simp only[J4] at c0;have q0:=CZ hk;unfold AE at q0;have q1:=Bz (k:=AQ) (by rw[hk];decide);unfold AQ at q1;have O0:0<(J l:Int):=Y
 have ho0:0<(J R.Ad:Int):=by have:=JI.2 ho;omega
 obtain⟨hrc,hrpc,hrf,hrpf,hlt,hpl,bW⟩:=BL h;have gP:J R.p.Aa<=2500:=by have:=hI.bn;have:=hI.nn;omega
 have Ud:=hd.n1;unfold maxLen at Ud;have Hres:=D AF;clear AF hw hl hk hd h hI hO hne ho;go_enter func37,ntmps37;go_wp2_with fail;go_ret;rw[Hres.out];exact⟨rfl,Aw.refl _ _⟩
