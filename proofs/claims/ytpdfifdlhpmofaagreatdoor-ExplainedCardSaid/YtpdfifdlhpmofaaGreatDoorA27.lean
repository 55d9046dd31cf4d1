/- Part 27 of the proof. -/
import Derived.Test.YtpdfifdlhpmofaaGreatDoorA26
set_option linter.unusedVariables false
set_option linter.unusedSimpArgs false
set_option maxHeartbeats 0
set_option maxRecDepth 99999
namespace Go.Proofs.YtpdfifdlhpmofaaGreatDoor
open Go.RowKit Tryz
open Value renaming slice->qD,string->qE,bool->qF,tuple->qG,agg->qH,pointer->qI
open Ending renaming returned->qJ
open Obj renaming cells->qK
open Option renaming none->Z,some->U
open Bool renaming true->V,false->I
open Go.Lib renaming hid->D
open List renaming length->J
variable {α:Type} {T:Nat} {y:qL} {p:RP}
theorem rI:(prog.info? 51).map (λi=>(i.zero,i.size,i.bytes))=U (U (qD Z 0 0),1,24):=Fd
theorem rH:(prog.info? 36).map (λi=>(i.zero,i.size,i.bytes))=U (U (qD Z 0 0),1,24):=Fd
theorem kW (n:Nat):A4 (α:=α) (List.replicate n ⟨Z,0⟩) (List.replicate n [])=List.replicate n (qD Z 0 0):=by
 unfold A4;rw[List.zipWith_replicate];simp
def Ann (F:VG) (T:Nat) (E0:List Ob) (Ab:Nat->List GI) (w0:World) (N K:Nat) (s:fB) (e:Ending) (w':World):Prop:=
 ∃(ab bb:Nat) (q:SG) (gs:List H9) (av mg:List SG) (md:List (List SG)) (X:List Ob),e= qJ (qG #[qD q.p (J s.ms) q.c,qD (U ⟨ab,0,Z⟩) T T])/\cC F T ab bb E0 Ab w0 N K q s gs av mg md X w'
theorem tU {j:Nat} (x z:α) (hj:j<T):(List.replicate j x++List.replicate (T-j) z).set j x=List.replicate (j+1) x++List.replicate (T-(j+1)) z:=by
 rw[show T-j=T-(j+1)+1 by omega,List.replicate_succ,List.replicate_succ',Qg _ _ EQ];simp
theorem kB (Ab:Nat->List GI) (F:VG) (gs:List H9) (M:Am) (E0:List Ob) (w0 w:World) (T:Nat) (hT0:0<T) (hT:J M.ts=T) (hf:VS w0 w (MO F gs M E0)) (ho:cF gs M) (hC:iQ Ab T) (hR:IB Ab M 0) (pp:Option Addr) (pc:Nat) (pk:List Int) (hp:iL w0 pp pk) (hi:∀p,p∈pk->i64 p) (hN:J pk<=1000000):
  Calls prog 16 #[iJ F.mb,qD pp (J pk) pc] w (Ann F T E0 Ab w0 (40*J pk) (J pk+1) (Ny Ab T pk ⟨M,List.replicate T I,[DX T M],List.replicate T (List.replicate T I)⟩)):=by
 have hT3:T<=3:=by rw[<-hT];exact ho.tl
 have hT':T=1\/T=2\/T=3:=Y
 obtain⟨p1,p2⟩:=P8 hf.Ak ho;rw[hT] at p1;have gV:=Ae9 (by_:=24) underlying44 rI rfl T Y Y w;have s1:=Yh (n:=T) (z:= qD Z 0 0) (T:=51) hf.Ak Y;have s2:=s1.trans (Af.Ig (A:=[_]) s1.Ak 4 1);have Hf:=D (hf.step s2);have Ho:=D ho;have HC:=D hC;have HR:=D hR;have Hp:=D hp;have Hi:=D hi;have HN:=D hN;have HT:=D hT;have HT3:=D hT';clear hf ho hC hR hp hi hN hT s1 s2 hT';generalize AF:Ny Ab T pk ⟨M,List.replicate T I,[DX T M],List.replicate T (List.replicate T I)⟩=res;have Hres:=D AF;clear AF;go_enter func16,ntmps16;go_wp2_with fail;clear gV p1 p2;have hF:=Hf.out;generalize w.alloc _=w1 at hF⊢;generalize w.heap.size=ab at hF⊢;have oz:VS w0 w1 (Ob.row (qD (U ⟨ab,0,Z⟩) T T) 51 1 T (A4 (List.replicate T ⟨Z,0⟩) (List.replicate 0 (List.replicate T I)++List.replicate (T-0) []))::MO F gs M ([Bw ⟨Z,0⟩ []]++E0)):=by
  rw[jQ,JF,Nat.sub_zero,kW];exact hF.step (Af.Kl hF.Ak (List.Perm.cons _ (EY [_] F gs M E0)))
 have HF2:=D oz;clear hF oz Hf;go_loopw [7] (λv wr=>∃(j:Nat) (av:List SG) (X:List Ob),v= iI j/\j<=T/\VS w0 wr (Ob.row (qD (U ⟨ab,0,Z⟩) T T) 51 1 T (A4 av (List.replicate j (List.replicate T I)++List.replicate (T-j) []))::MO F gs M (X++E0))/\iR X av (List.replicate j (List.replicate T I)++List.replicate (T-j) []) T) (λv _=>T-(intOf v).toNat);case atStart=>
  refine⟨0,List.replicate T ⟨Z,0⟩,[Bw ⟨Z,0⟩ []],rfl,Jo _,HF2,J1,EQ,λt a ha=>?_⟩;rw[QF] at ha;split at ha
  .rename_i ht;cases ha;rw[jQ,JF,Nat.sub_zero,PZ _ _ ht];exact .head _
  .cases ha
 case round=>
  clear HF2;obtain⟨j,av,X,rfl,hj,hF,hA⟩:=hrel;have hE:=(Af.Kl hF.Ak (EY [_] F gs M (X++E0))).Ak;obtain⟨p1,p2⟩:=P8 hE Ho.out;rw[HT.out] at p1;by_cases hlt:j<T
  .have Cy:(j:Int)<(T:Int):=Y
   have hj0:(0:Int)<=(j:Int):=Y
   have inc:True->wrap64 ((j:Int)+1)=((j:Int)+1):=λ_=>IntWalk.wrap64_in _ Y
   have gV:=Ae9 (by_:=1) underlying51 Ok rfl T Y Y wr;have hal:J av=(List.replicate j (List.replicate T I)++List.replicate (T-j) ([]:List Bool)).length:=hA.al.trans hA.hl.symm;have DH:wr.ownsRow 0 51 1 (qD (U ⟨ab,0,Z⟩) T T) T (A4 av (List.replicate j (List.replicate T I)++List.replicate (T-j) [])):=hF.Ak.row (i:=0) rfl;have Yp:j<(A4 av (List.replicate j (List.replicate T I)++List.replicate (T-j) ([]:List Bool))).length:=by rw[BT _ _ hal,hA.hl];exact hlt
   obtain⟨q1,q2,q3⟩:=AZ DH;obtain⟨cv,VB⟩:∃v,wr.cell? ⟨ab,j,Z⟩=U v:=⟨_,q1 j Yp⟩;have q2:=q2 j;have s1:=hF.Ak.Eu (i:=0) (g:=ab) (n:=T) (cap:=T) (e:=51) (size:=1) (xs:=A4 av (List.replicate j (List.replicate T I)++List.replicate (T-j) [])) rfl j Yp (qD (U ⟨wr.heap.size,0,Z⟩) T T);have s2:=s1.trans (Yh (n:=T) (z:= qF I) (T:=4) s1.Ak Y);rw[show(wr.setCell ⟨ab,j,Z⟩ (qD (U ⟨wr.heap.size,0,Z⟩) T T)).heap.size=wr.heap.size by simp] at s2;have mw:(A4 av (List.replicate j (List.replicate T I)++List.replicate (T-j) ([]:List Bool))).set j (qD (U ⟨wr.heap.size,0,Z⟩) T T)=A4 (av.set j ⟨U ⟨wr.heap.size,0,Z⟩,T⟩) (List.replicate (j+1) (List.replicate T I)++List.replicate (T-(j+1)) []):=by
    rw[<-tU _ _ hlt,TH _ _ hal,J1]
   have hbr:Bw ⟨U ⟨wr.heap.size,0,Z⟩,T⟩ (List.replicate T I)=.row (qD (U ⟨wr.heap.size,0,Z⟩) T T) 4 1 T (List.replicate T (qF I)):=by unfold Bw DE;rw[J1,jX]
   have hA2:iR (Bw ⟨U ⟨wr.heap.size,0,Z⟩,T⟩ (List.replicate T I)::X) (av.set j ⟨U ⟨wr.heap.size,0,Z⟩,T⟩) (List.replicate (j+1) (List.replicate T I)++List.replicate (T-(j+1)) []) T:=by
    rw[<-tU _ _ hlt];exact(hA.mono λo ho=> .tail _ ho).set hlt (.head _)
   have oz:=hF.step s2;have hF3:VS w0 ((wr.setCell ⟨ab,j,Z⟩ (qD (U ⟨wr.heap.size,0,Z⟩) T T)).alloc (qK (Array.replicate T (qF I)) 4)) (Ob.row (qD (U ⟨ab,0,Z⟩) T T) 51 1 T (A4 (av.set j ⟨U ⟨wr.heap.size,0,Z⟩,T⟩) (List.replicate (j+1) (List.replicate T I)++List.replicate (T-(j+1)) []))::MO F gs M ((Bw ⟨U ⟨wr.heap.size,0,Z⟩,T⟩ (List.replicate T I)::X)++E0)):=by
    rw[<-mw,hbr];exact oz.step (Af.Kl oz.Ak ((List.Perm.swap _ _ _).trans (List.Perm.cons _ (EY [_] F gs M (X++E0)))))
   have HF3:=D hF3;have HA2:=D hA2;have Fg:=D hlt;clear hF hA hE hal DH Yp q1 s1 s2 mw hbr hA2 oz hF3 hlt hj;go_wp2_with fail;go_roundw;case rel=>exact⟨j+1,_,_,by first|rfl|(rw[inc trivial];rfl),Fg,HF3,HA2⟩
   case measure=>have:=Fg.out;first|(simp only[intOf];omega)|(rw[inc trivial];simp only[intOf];omega)
  .have Cy:¬(j:Int)<(T:Int):=Y
   have hjT:j=T:=Y
   subst hjT;rw[Qy,jQ,Jr] at hF hA;have gV:=Ae9 (by_:=1) underlying51 Ok rfl j Y Y wr;have s1:=Yh (n:=j) (z:= qF I) (T:=4) hF.Ak Y;have oz:=hF.step s1;have hmr:Ob.row (qD (U ⟨wr.heap.size,0,Z⟩) j j) 4 1 j (List.replicate j (qF I))=Zy wr.heap.size j (List.replicate j I):=by unfold Zy;rw[jX]
   rw[hmr] at oz;have HF2:=D oz;have HA:=D hA;clear hF hA hE s1 oz hmr hj hlt;go_upto_region 7 with fail
   have hF3:=HF2.out;generalize wr.alloc _=w3 at hF3⊢;generalize wr.heap.size=bb at hF3⊢;clear gV HF2;have hE:=(Af.Kl hF3.Ak (EY [_,_] F gs M (X++E0))).Ak;have XJ:=pO HR (Jo _);have hse:=kY F gs M _ Ho XJ w3 hE;rw[HT.out] at hse;have Hse:=D hse;have HF3:=D hF3;have AnA:=D XJ;clear hE XJ hse hF3 p1 p2;go_upto_region 8 with(go_at_call 14;refine Hse.mono ?_;rintro e w4 ⟨a,ds,Z94,rfl,hs4,hsn⟩)
   have Yp:=It j M;have hF4:=((HF3.step (Af.Kl HF3.Ak (EY [_,_] F gs M (X++E0)))).step hs4);have hF5:=hF4.step (newRow hF4.Ak (n:=1) (c:= #[qD a.p j a.c]) (T:=36) rfl (by unfold maxLen;omega));rw[Yp];have hW0:cC F j ab bb E0 Ab w0 0 1 ⟨U ⟨w4.heap.size,0,Z⟩,1⟩ ⟨M,List.replicate j I,[DX j M],List.replicate j (List.replicate j I)⟩ gs av [a] [ds] (Z94++X) (w4.alloc (qK #[qD a.p j a.c] 36)):=by
    refine⟨?_,Ho,HT,HR,J1,HA.mono λo ho=>Jc _ ho,⟨rfl,rfl,λi b hb=>?_⟩,λt ht=>by show((List.replicate j (List.replicate j I)).getD t []).length=j;rw[PZ _ _ ht,J1],λi hi=>?_,λi t=>?_,Jf _⟩
    .have e:Mx ab bb j ⟨U ⟨w4.heap.size,0,Z⟩,1⟩ av [a] ⟨M,List.replicate j I,[DX j M],List.replicate j (List.replicate j I)⟩=[Ob.row (qD (U ⟨w4.heap.size,0,Z⟩) 1 1) 36 1 1 [qD a.p j a.c],Ob.row (qD (U ⟨ab,0,Z⟩) j j) 51 1 j (A4 av (List.replicate j (List.replicate j I))),Zy bb j (List.replicate j I)]:=by
      unfold Mx A4;simp only[List.zipWith_cons_cons,List.zipWith_nil_left,It];rfl
     rw[e];refine hF5.step (Af.Kl hF5.Ak (List.Perm.cons _ ?_));refine(EY Z94 F gs M _).trans ((vz ?_).trans (EY [_,_] F gs M _).symm);rw[Jj];exact(List.perm_append_comm_assoc ..).trans (List.Perm.swap _ _ _)
    .match i,hb with
     |0,hb=>cases hb;exact hsn.mono λo ho=>IR _ ho
     |i+1,hb=>simp at hb
    .have eC:i<1:=hi;have:i=0:=Y
     subst this;exact Yp
    .match i with
     |0=>exact dk AnA.out
     |i+1=>exact Jo _
   have HW0:=D hW0;clear hF4 hF5 hs4 hsn Yp HF3 Hse hW0;go_wp2_with fail;clear Cy;go_loopw [9,10,11,12,13,14,15] (λ_ v10 v11 _ _ _ _ wr=>∃(i:Nat) (q:SG) (s:fB) (gs:List H9) (av mg:List SG) (md:List (List SG)) (X:List Ob),v11= iI i/\v10= qD q.p (J s.ms) q.c/\i<=J pk/\cC F j ab bb E0 Ab w0 (40*i) (i+1) q s gs av mg md X wr/\Ny Ab j (pk.drop i) s=res) (λ_ _ v11 _ _ _ _ _=>J pk-(intOf v11).toNat);case atStart=>exact⟨0,⟨U ⟨w4.heap.size,0,Z⟩,1⟩,_,gs,av,[a],[ds],Z94++X,rfl,rfl,Jo _,HW0,Hres⟩
   case round=>
    clear HW0 HA Hres Ho HR HT;obtain⟨i,q,s,gs,av,mg,md,X,rfl,rfl,hi,hW,hr⟩:=hrel;by_cases hlt:i<J pk
    .have Cy:(i:Int)<(J pk:Int):=Y
     have hi0:(0:Int)<=(i:Int):=Y
     have inc:True->wrap64 ((i:Int)+1)=((i:Int)+1):=λ_=>IntWalk.wrap64_in _ (by have:=HN.out;omega)
     obtain⟨pb,po,rfl,KT⟩:=Hp.out i hlt;have Ys:=AH hW.fr.mod KT;have hdr:pk.drop i=pk.getD i 0::pk.drop (i+1):=by
      rw[JS hlt,Ja,Jb hlt];rfl
     have Akw:i64 (pk.getD i 0):=Hi.out _ (by rw[Ja,Jb hlt];exact JO hlt);rw[hdr] at hr;replace hr:Ny Ab j (pk.drop (i+1)) (V2 Ab j (pk.getD i 0) s)=res:=hr;unfold V2 at hr;have AlR:=D (λw=>Agj (pk.getD i 0) Akw w);have hai:=vr (pk.getD i 0);generalize pk.getD i 0=x at*;generalize hA:Li x=A at*;obtain⟨t,n⟩:=A;dsimp only at hai hr;obtain⟨p1,p2⟩:=P8 hW.Mj hW.ok;rw[hW.tl] at p1;have ht0:(0:Int)<=(t:Int):=Y
     have IL:(0:Int)<=(n:Int):=Y
     have HW:=D hW;have Hr:=D hr;have Fg:=D hlt;have Hai:=D hai;clear hW hr hlt KT hdr Akw hai hA hi;go_upto_region 13 with(go_at_call 29;refine(AlR _).mono ?_;rintro e w5 ⟨rfl,rfl⟩)
     clear AlR Ys;by_cases htT:t<j
     .have Amo:(t:Int)<(j:Int):=Y
      have Lz:=Hr.out;rw[Jd htT] at Lz;have ID:=D Lz;have HtT:=D htT;have bu:w5.ownsRow 0 4 1 (qD (U ⟨bb,0,Z⟩) j j) j (s.bg.map .bool):=HW.fr.Ak.row (i:=2) rfl;have b1:w5.cell? ⟨bb,t,Z⟩=U (qF (s.bg.getD t I)):=by
       have hl:t<J s.bg:=by rw[HW.out.bl];exact htT
       obtain⟨_,e,h⟩:=Nf bu (i:=t) (v:= qF (s.bg.getD t I)) (by rw[JR,Jb hl,Ja,Jb hl];rfl);cases e;exact h
      have b2:=(AZ bu).2.1 t;have b3:=(AZ bu).2.2;have mM:n=0\/(0<n/\s.bg.getD t I=V)\/(0<n/\s.bg.getD t I=I):=by
       rcases Q1 n with h|h
       .exact .inl h
       .cases s.bg.getD t I<;>simp[h]
      clear Lz htT bu;rcases mM with hz|⟨hz,hb⟩|⟨hz,hb⟩
      focus
       have hz':¬(0:Int)<(n:Int):=Y
       obtain⟨kj,X1,hW1⟩:∃kj X1,cC F j ab bb E0 Ab w0 (40*i) (i+1) q (vh j t n s) gs kj mg md X1 w5:=⟨av,X,by unfold vh;rw[In (λh=>Y)];exact HW.out⟩;have oB:=D hW1;clear hW1 hz;go_upto_region 17 with fail
       clear b1 b2 b3 HW p1 p2;generalize w5=w6 at*
      rotate_left
      focus
       have hz':(0:Int)<(n:Int):=Y
       obtain⟨kj,X1,hW1⟩:∃kj X1,cC F j ab bb E0 Ab w0 (40*i) (i+1) q (vh j t n s) gs kj mg md X1 w5:=⟨av,X,by unfold vh;rw[In (λh=>by rw[hb] at h;cases h.2)];exact HW.out⟩;have oB:=D hW1;rw[hb] at b1;clear hW1 hz hb;go_upto_region 17 with fail
       clear b1 b2 b3 HW p1 p2;generalize w5=w6 at*
      rotate_left
      focus
       have hz':(0:Int)<(n:Int):=Y
       rw[hb] at b1;have Hz:=D hz;have Hb:=D hb;have hW2:=HW.beg HtT.out;have hen:=za F gs s.R _ hW2.ok _ hW2.Mj;rw[show(J s.R.ts)=j from HW.out.tl] at hen;have Hen:=D hen;have HW2:=D hW2;clear hz hb hen hW2;go_upto_region 16 with fail
       clear b1 b2 b3 p1 p2 HW;generalize w5.setCell _ _=w7 at*;go_upto_region 17 with fail
       refine Hen.mono ?_;rintro e w8 ⟨ea,rfl,hs8⟩;have hW3:=HW2.lO (Y:=[Bw ea (Gg j s.R)]) hs8;have DH:w8.ownsRow 0 51 1 (qD (U ⟨ab,0,Z⟩) j j) j (A4 av s.ah):=hW3.fr.Ak.row (i:=1) rfl;obtain⟨q1,q2,q3⟩:=AZ DH;obtain⟨cv,q1⟩:∃v,w8.cell? ⟨ab,t,Z⟩=U v:=⟨_,q1 t (by rw[BT _ _ (hW3.ah.al.trans hW3.ah.hl.symm),hW3.ah.hl];exact HtT.out)⟩;have q2:=q2 t;have hel:=Up j s.R;obtain⟨kj,X1,hW1⟩:∃kj X1,cC F j ab bb E0 Ab w0 (40*i) (i+1) q (vh j t n s) gs kj mg md X1 (w8.setCell ⟨ab,t,Z⟩ (qD ea.p j ea.c)):=⟨_,_,by unfold vh;rw[Jd ⟨Hz.out,Hb.out⟩];exact hW3.ahd HtT hel (.head _)⟩;have oB:=D hW1;rw[hel];clear hs8 hW3 DH hel hW1 HW2 Hen Hz Hb;go_upto_region 17 with fail
       clear q1 q2 q3;generalize w8.setCell _ _=w6 at*
      rotate_left;all_goals
       clear hz';obtain⟨s1,Ti⟩:∃z,z=vh j t n s:=⟨_,rfl⟩;have hr3:=ID.out;have hms:s.ms=s1.ms:=by rw[Ti];unfold vh;split<;>rfl
       rw[hms];rw[<-Ti] at oB hr3;obtain⟨p1,p2⟩:=P8 oB.Mj oB.ok;rw[oB.out.tl] at p1;have ep:t<J s1.R.ts:=by rw[oB.out.tl];exact HtT.out
       obtain⟨x0,tb,et,c1,c4,c5,l5,DH⟩:=lP oB.Mj oB.ok ep;rw[et] at p1;have hC2:iQ Ab (J s1.R.ts):=by rw[oB.out.tl];exact HC.out
       have Hmv:=D (xz Ab F gs s1.R _ w6 oB.Mj oB.ok hC2 (40*i) oB.run t n ep (by have:=Hai.2;have:=Fg.out;have:=HN.out;omega));have Hr3:=D hr3;have Htl:=D ep;obtain⟨y0,I6⟩:∃z,z=s1.R.th t:=⟨_,rfl⟩;rw[<-I6] at c4 c5;have Hy0:=D I6;clear Ti hr3 ep DH hC2 I6 et Hr ID hms;go_upto_region 20 with fail
       refine Hmv.mono ?_;rintro e w9 ⟨rfl,gs9,hs9,ok9,_⟩;have hW9:=oB.move (N':=40*i+n) hs9 ok9 ((xy (Ab:=Ab) (n:=n) Htl).trans oB.tl) (xx oB.run Htl);clear p1 p2 c1 c4 c5 l5 hs9 Hmv;obtain⟨R9,hR9⟩:∃z,z=s1.R.IV Ab t n:=⟨_,rfl⟩;rw[<-hR9] at hW9 ok9;obtain⟨p1,p2⟩:=P8 hW9.Mj ok9;rw[show J R9.ts=j from hW9.tl] at p1;obtain⟨x1,tb1,et,c1,c4,c5,l5,DH⟩:=lP hW9.Mj ok9 (k:=t) (by rw[show J R9.ts=j from hW9.tl];exact HtT.out);rw[et] at p1;obtain⟨y1,K6⟩:∃z,z=R9.th t:=⟨_,rfl⟩;rw[<-K6] at c4 c5;have hN9:40*i+n<=40*(i+1)/\40*(i+1)<=1000000000:=by have:=Hai.2;have:=Fg.out;have:=HN.out;omega
       have Hy1:=D K6;have HR9:=D hR9;have HW9:=D hW9;have HN9:=D hN9;clear K6 hR9 hW9 DH et hN9 ok9;have XL:mvP Ab j t n s1={s1 with R:=R9,ms:=if J y0.out<J y1.out\/y1.An≠y0.An then s1.ms++[DX j R9] else s1.ms}:=by unfold mvP;rw[Hy0.out,Hy1.out,HR9.out]
       have Hm9:=D XL;clear XL;by_cases hg:J y0.out<J y1.out\/y1.An≠y0.An
       .have hr4:=Hr3.out;rw[Hm9.out,Jd hg] at hr4;have tu:=D hr4;have hse:=kY F gs9 R9 _ HW9.ok (pO HW9.run (Qb HN9.1 HN9.2)) w9 HW9.Mj;rw[show J R9.ts=j from HW9.out.tl] at hse;have Hse:=D hse;clear hr4 hse;have hg2:(J y0.out<J y1.out)\/(¬J y0.out<J y1.out/\(y1.An !=y0.An)=V):=by
         by_cases h1:J y0.out<J y1.out
         .exact .inl h1
         .exact .inr ⟨h1,by simpa using hg.resolve_left h1⟩
        clear hg;rcases hg2 with h1|⟨h1,h2⟩;all_goals
         go_upto_region 21 with fail
         clear p1 p2 c1 c4 c5 l5 h1
        all_goals
         go_upto_region 22 with fail
         refine Hse.mono ?_;rintro e w10 ⟨a10,ds10,Y10,rfl,my,AgG⟩;have AiH:=HW9.lO my;have Yp:=It j R9;rw[Yp];obtain⟨i0,hi,Kc⟩:=Ji.1 rH;simp only[Prod.mk.injEq] at Kc;obtain⟨I6,K6,LQ⟩:=Kc;have hmn:J s1.ms<=i+1:=AiH.mn;have mG:J s1.ms+1<=maxLen:=by have:=Fg.out;have:=HN.out;unfold maxLen;omega
         have MT:(J s1.ms+1)*24<=140737488355328:=by have:=Fg.out;have:=HN.out;omega
         have Hsn:=D (AgG.mono λo ho=>IR X1 ho);have AlS:=D AiH;clear my AgG AiH Yp Hse hmn;go_wp2_with (first|(at_builtin;refine A6 24 _ _ _ i0 _ #[.slice a10.p j a10.c] _ AlS.fr.Ak (k:=0) rfl Eq Eq underlying43 hi I6 K6 LQ rfl Y Eq Eq rfl (by simp[Value.oneCell']) mG MT ?_;intro g6 AI w11 Ay _;have S11:=D Ay;clear Ay)|fail);go_roundw;case rel=>
          refine⟨i+1,⟨U ⟨g6,0,Z⟩,AI⟩,{s1 with R:=R9,ms:=s1.ms++[DX j R9]},gs9,kj,mg++[a10],md++[ds10],Y10++X1,by first|rfl|(rw[inc trivial];rfl),by show Value.slice _ _ _=qD _ (s1.ms++[DX j R9]).length _;rw[GT];rfl,Fg,?_,tu⟩;exact(AlS.kS S11 Hsn (It j R9) (λt=>dk (pO HW9.run (Qb HN9.1 HN9.2)))).le HN9.1 (Jf _)
         case measure=>have:=Fg.out;first|(simp only[intOf];omega)|(rw[inc trivial];simp only[intOf];omega)
       .have hr4:=Hr3.out;rw[Hm9.out,In hg] at hr4;have tu:=D hr4;have h1:¬J y0.out<J y1.out:=λh=>hg (.inl h)
        have h2:(y1.An !=y0.An)=I:=by
         rw[bne_eq_false_iff_eq];exact Classical.byContradiction λh=>hg (.inr h)
        clear hg hr4;go_wp2_with fail;go_roundw;case rel=>exact⟨i+1,q,{s1 with R:=R9},gs9,kj,mg,md,X1,by first|rfl|(rw[inc trivial];rfl),rfl,Fg,HW9.le HN9.1 Y,tu⟩
        case measure=>have:=Fg.out;first|(simp only[intOf];omega)|(rw[inc trivial];simp only[intOf];omega)
     .have Amo:¬(t:Int)<(j:Int):=Y
      have Lz:=Hr.out;rw[In htT] at Lz;have ID:=D Lz;clear Lz htT;go_wp2_with fail;go_roundw;case rel=>exact⟨i+1,q,s,gs,av,mg,md,X,by first|rfl|(rw[inc trivial];rfl),rfl,Fg,HW.le Y Y,ID⟩
      case measure=>have:=Fg.out;first|(simp only[intOf];omega)|(rw[inc trivial];simp only[intOf];omega)
    .have Cy:¬(i:Int)<(J pk:Int):=Y
     have hie:i=J pk:=Y
     rw[hie,List.drop_length] at hr;have Lz:s=res:=hr;subst Lz;rw[hie] at hW;have HW:=D hW;clear hW hr hlt hie hi;go_wp2;refine bodyPost_ret (v:= qG #[qD q.p (J s.ms) q.c,qD (U ⟨ab,0,Z⟩) j j]) (by simp[results,results16,go_sem]) rfl ?_;exact⟨ab,bb,q,gs,av,mg,md,X,rfl,HW⟩
theorem AjE (h:PS y p):∃(rs:List RR) (K:Nat),J rs=J y.Aa/\(∀t,t<J y.Aa->∃m,Fl (p.Aa.getD t []) m .start (rs.getD t .start))/\(∀t,(rs.getD t .start).Al.length<=60000)/\∀F,K<F->SrT p.Aa y.cells.toNat F rs:=by
 have hx:∀t,t<J y.Aa->∃u:RR,(∃m,Fl (p.Aa.getD t []) m .start u)/\∃q,Thr (p.Aa.getD t []) y.cells q u:=λt ht=>by
  have e:p.Aa.getD t []=Ca (y.Aa.getD t .nil) 0 0:=by
   rw[h.Aa,Ja,JR,Ja,Jb ht];rfl
  obtain⟨m,u,q',k1,k2,_⟩:=AdL (Sx h _ (Vl ht)).1 (Sx h _ (Vl ht)).2;exact⟨u,⟨m,by rw[e];exact k1⟩,q',by rw[e];exact k2⟩
 have hf:∀n,n<=J y.Aa->∃(rs:List RR) (f:List Nat),J rs=n/\J f=n/\∀t,t<n->(∃m,Fl (p.Aa.getD t []) m .start (rs.getD t .start))/\∃q,Thr (p.Aa.getD t []) y.cells q (rs.getD t .start)/\C9 q<=f.getD t 0:=by
  intro n;induction n with
  |zero=>intro _;exact⟨[],[],rfl,rfl,λt ht=>Jk ht (NE t)⟩
  |succ n ih=>
   intro hn;obtain⟨rs,f,h1,h2,h3⟩:=ih Y;obtain⟨u,hu,q,hq⟩:=hx n Y;refine⟨rs++[u],f++[C9 q],by simp[h1],by simp[h2],λt ht=>?_⟩;rw[LX,LX,h1,h2];by_cases gP:t<n
   .rw[Jd gP,Jd gP];exact h3 t gP
   .have e:t=n:=Y
    rw[In gP,In gP,Jd e,Jd e,e];exact⟨hu,q,hq,Jf _⟩
 obtain⟨rs,f,h1,h2,h3⟩:=hf _ (Jf _);refine⟨rs,f.sum,h1,λt ht=>(h3 t ht).1,λt=>?_,λF hF=>Ahp rfl F (h2.trans h1.symm) (λt ht=>(h3 t Y).2) hF⟩;by_cases ht:t<J y.Aa
 .obtain⟨_,q,hq,_⟩:=h3 t ht;exact hq.2
 .exact mbR
theorem kC {Ab:Nat->List GI}:∀(l:List Int) {s:fB},0<J s.ms->0<(Ny Ab T l s).ms.length
 |[],_,h=>h
 |p::l,s,h=>by
  refine kC l ?_;have hb:∀t n,(vh T t n s).ms=s.ms:=λt n=>by unfold vh;split<;>rfl
  unfold V2;split
  .unfold mvP;dsimp only;split
   .rw[GT,hb];omega
   .rw[hb];exact h
  .exact h
theorem AjA {F:VG} {ab bb:Nat} {w0 wr:World} {N K:Nat} {q:SG} {s:fB} {gs:List H9} {av mg:List SG} {md:List (List SG)} {X:List Ob} {g:RG} {R:RS} (hp:PS y p) (hR:R.p=p) (hl:C5 g R) (h:cC F (J y.Aa) ab bb (g.Az R).tail (VI y) w0 N K q s gs av mg md X wr) (hK:K<=1000000000) (hm:0<J s.ms):
  ∃mb,q.p=U ⟨mb,0,Z⟩/\J s.ms<=q.c/\iK (Mx ab bb (J y.Aa) q av mg s++MO F gs s.R (X++(g.Az R).tail)) ⟨g.pb,g.t,g.cv,iI R.p.cells,qD g.u.p (J R.p.Ap) g.u.c,qD g.q.p (J R.p.BX) g.q.c,⟨U ⟨ab,0,Z⟩,J y.Aa⟩,av,mb,q.c,mg,md⟩ p.Aa s.ah s.ms (J y.Aa):=by
 obtain⟨mb,cap,e,_,_,hc,_⟩:=Av (h.fr.Ak.row (i:=0) rfl) hm;injection e with e1 _ e3
 have hX:∀o,o∈X->o∈Mx ab bb (J y.Aa) q av mg s++MO F gs s.R (X++(g.Az R).tail):=λo ho=>Jc _ (Ag4 _ (IR _ ho))
 refine⟨mb,e1,by rw[e3];exact hc,(AjG hl hp hR rfl rfl rfl rfl rfl rfl).mono λo ho=>Jc _ (Ag4 _ (Jc _ ho)),Abq hp,?_,h.ah.al.trans h.ah.hl.symm,h.ah.hl,λt a e=>hX _ (h.ah.ab t a e),h.abl,?_,h.mm.gl,λi a e=>(h.mm.sn i a e).mono hX,h.ml,h.mo,Qb h.mn hK⟩
 .rw[h.ah.hl];exact IR _ (.tail _ (.head _))
 .rw[<-e1];exact IR _ (.head _)
theorem bQ (s:ByteArray) (w:World) (hM:s.size<=1000000->Calls prog 10 #[qE s] w (XC (bs s) w)) (pp:Option Addr) (pc:Nat) (pk:List Int) (hp:iL w pp pk) (hi:∀p,p∈pk->i64 p) (hb:s.size+J pk<4611686018427387904):
  Calls prog 5 #[qE s,qD pp (J pk) pc] w λe w'=>e= qJ (qF V)/\Aw [] w w':=by
 have vP:True->wrap64 (s.size+J pk)=s.size+J pk:=λ_=>IntWalk.wrap64_in _ Y
 have HM:=D hM;have HP:=D hp;have HI:=D hi;clear hM hp hi;by_cases Ac3:262144<s.size+J pk
 .have Ak3:262144<s.size+(J pk:Int):=Y
  clear Ac3;go_enter func5,ntmps5;go_wp2;go_ret;exact⟨rfl,Aw.refl _ _⟩
 .have Ak3:¬262144<s.size+(J pk:Int):=Y
  have hpk:J pk<=262144:=Y
  have Hma:=D (HM Y);have Hpk:=D hpk;clear Ac3 hb hpk;cases hr:FP (bs s) with
  |error c=>
   have Hr:=D hr;clear hr;go_enter func5,ntmps5;go_wp2_with fail;refine Hma.mono ?_;intro e w1 hm;obtain⟨rfl,NI⟩:=Ab9 Hr hm;have iO:=D NI;clear hm NI;go_wp2;go_ret;exact⟨rfl,iO⟩
  |ok p=>
   have Hr:=D hr;clear hr;go_enter func5,ntmps5;go_wp2_with fail;refine Hma.mono ?_;intro e w1 hm;obtain⟨y,g,R,F,gs,VW,hRp,hlen,rfl,Ay,hok⟩:=Afc Hr hm;have hT:=sW VW;have hT0:=JI.2 VW.ne;have hT3:=(I0 VW).2.2.2;have hwt:=kB (VI y) F gs (R0 y) (g.Az R).tail w w1 (J y.Aa) hT0 hT (Adb Ay) hok (Af2 VW) (wM VW) pp pc pk HP HI (by have:=Hpk.out;omega);have n7:=D VW;have HRp:=D hRp;have SB:=D hlen;have Hwt:=D hwt;clear hm Ay VW hRp hlen hok hT hwt vP;go_upto_region 7 with(go_at_call 16;refine Hwt.mono ?_;rintro e w2 ⟨ab,bb,q,gs2,av,mg,md,X,rfl,hW⟩)
   obtain⟨rs,K,r1,r2,r3,r4⟩:=AjE n7.out;obtain⟨F0,hF0⟩:=ay n7 pk (by have:=Hpk.out;omega) r1 r2;have hms:=kC (Ab:=VI y) (T:=J y.Aa) pk (s:=⟨R0 y,List.replicate (J y.Aa) I,[DX (J y.Aa) (R0 y)],List.replicate (J y.Aa) (List.replicate (J y.Aa) I)⟩) (Nat.succ_pos _);have hF:=hF0 (F0+K+1) Y;clear hF0;obtain⟨S,hS⟩:∃z,z=Ny (VI y) (J y.Aa) pk ⟨R0 y,List.replicate (J y.Aa) I,[DX (J y.Aa) (R0 y)],List.replicate (J y.Aa) (List.replicate (J y.Aa) I)⟩:=⟨_,rfl⟩;rw[<-hS] at hW hms hF⊢;obtain⟨mb,eq,hqc,hsr⟩:=AjA n7 HRp SB hW (by have:=Hpk.out;omega) hms;have hcn:R.p.cells=((y.cells.toNat:Nat)):=by rw[HRp.out,n7.out.cells];have:=n7.fw.c0;omega
   have mP:=(I0 n7).2.2.1;have hex:=cg _ p.Aa S.ah S.ms (J y.Aa) y.cells.toNat (F0+K+1) Y Y _ hsr (by show Value.int .i64 R.p.cells=_;rw[hcn]) rs r1 r2 r3 (r4 _ Y) hqc w2 hW.fr.Ak;rw[hF] at hex;have Hex:=D hex;have HW:=D hW;rw[eq];clear hex hW hS hms hF hsr r1 r2 r3 r4 hcn mP hqc Hwt eq;go_wp2_with (go_at_call 17;refine Hex.mono ?_;rintro e w3 ⟨rfl,hs3⟩);go_ret;exact⟨rfl,(HW.fr.step hs3).mod⟩
