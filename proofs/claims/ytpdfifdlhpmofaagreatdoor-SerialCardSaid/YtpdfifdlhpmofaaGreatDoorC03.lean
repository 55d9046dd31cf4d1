/- Part 3 of the proof. -/
import Derived.Test.YtpdfifdlhpmofaaGreatDoorC02
set_option linter.unusedVariables false
set_option linter.unusedSimpArgs false
set_option maxHeartbeats 0
set_option maxRecDepth 99999
namespace Go.Proofs.YtpdfifdlhpmofaaGreatDoor
open Go.RowKit Tryz
open Value renaming slice->m9,string->qA,bool->qB,tuple->qC,agg->qD,pointer->qE
open Ending renaming returned->qF
open Obj renaming cells->qG
open Option renaming none->Z,some->U
open Bool renaming true->V,false->I
open Go.Lib renaming hid->D
open List renaming length->J
variable {p:Prop}
theorem mah (h:p:=by
 go_wp2;all_goals (go_ret;refine⟨CN ?_,Az.refl _ _⟩;rw[HF.out];clear HF Sz mW mV mU HX ik bK Lh H5 HS;first|grind|(cases A<;>cases B<;>cases C<;>first|grind|simp_all))):p:=h
theorem mao (h:p:=by
 have h1:=H.2 j (ready_mono hj xr);obtain⟨Amp,oj,hoj,DT⟩:=mem_ready.1 hj;have Ame:∀e∈oj.after,Region.binds md e=V->e.on≠i:=λe he hb heq=>by
  have h1:=DT e he hb;have h0:=(mem_ready.1 hr).1;rw[heq] at h1;grind
 have h2:=wpOp_putIf hoj AC AC AC hQ hy h1;have pJ:∀k ok,Bf[k]?=U ok->k≠i->(listed.setIfInBounds j V).getD k V=I->
   (∀e∈ok.after,Region.binds md e=V->e.on≠i)->oi.apart Bf ok=V:=λk ok hk hki hun Um=>by
  refine Xf k ok hk hki ?_ Um;by_cases hjk:j=k;grind;grind [getD_set_ne V hjk]
 refine wpOp_mono (λa' w' h3=>⟨h3.2.1,ih (listed.setIfInBounds j V) a' w' (B8.set hj) pJ (ready_mono hr AC) h3.1 (AC) ?_⟩) h2;rw[Array.setIfInBounds_comm _ _ xr];exact h3.2.2):p:=h
theorem maI (h:p:=by
 have c1:=H5.out 1 Y;go_wp2_with (go_at_call 55;refine(bK _ (HS 1) _).mono ?_;rintro e w' ⟨rfl,rfl⟩);all_goals (go_ret;refine⟨CN ?_,Az.refl _ _⟩;rw[HF.out];clear HF Sz mW mV mU HX ik bK Lh H5 HS;first|grind|(simp only[Dt];grind))):p:=h
theorem maM (h:p:=by
 go_wp2_with (go_at_call 93;refine(HRg _).mono ?_;rintro e w' ⟨rfl,rfl⟩)
 go_meet
 exact⟨_,_,rfl,HZ,((eJ).FZ (Qe (JC _)) _).alloc _,((uF).set 8 _).alloc _,((SQ).setCell (.inr (JI _)) _).alloc _⟩):p:=h
theorem maY (h:p:=by
 intro listed a w _ _ hr hy hS H;refine⟨AC,λj hj=>?_⟩;by_cases xr:j=i
 .subst xr;exact hy.wpOp hi hS AC
 .have:=ready_mono hj xr;rw[H.1] at this;cases this):p:=h
theorem ma0 (h:p:=by
 have hK:=D (JJ hk);go_wp2
 go_meet
 exact⟨rfl,by rw[hK.out,Bool.false_and]⟩):p:=h
theorem mbt (h:p:=by
 go_ret;refine⟨CN ?_,rfl⟩;rw[Y0 (bs s) k (by rw[Br];exact hlt)];rw[Hg.out,XU,decide_eq_false_iff_not];omega):p:=h
variable {w w':World} {ok:Nat->Prop} {v:Value} {xs:List Value} {M:List Nat} {a:Act} {b k Ac size g cap i s d j:Nat} {l:List ByteArray} {x:ByteArray} {e T:TypeId} {o oi:Oper} {c:Array Value} {E P' Q':Prop} {α:Type} {listed:Array Bool} {rest:List (Nat×Bool)} {R K:Act->World->Prop} {P:Program} {Bf:Array Oper} {Q:Exit->Act->World->Prop}
def low (c:UInt8):Bool:=97<=c && c<=122
def Cg (s:By):Bool:=s.all low && (decide (0<J s) && decide (J s<=6))
theorem Y0 (l:By) (k:Nat) (hk:k<J l) (h:low l[k]=I):Cg l=I:=by
 unfold Cg;have:l.all low=I:=by
  rw[List.all_eq_false];exact⟨l[k],JP hk,by simp[h]⟩
 simp[this]
theorem XU (c:UInt8):low c=decide (97<=(c.toNat:Int)/\(c.toNat:Int)<=122):=by
 unfold low;rw[Q1];simp[UInt8.le_iff_toNat_le];omega
theorem cQ (s:ByteArray) (w:World) (hs:s.size<=maxLen):
  Calls prog 54 #[qA s] w λe w'=>e= qF (qB (Cg (bs s)))/\w'=w:=by
 unfold maxLen at hs;go_enter func54,ntmps54;go_wp2
 go_loop [3] (λi=>∃k:Nat,k<=s.size/\i= iI k/\((bs s).take k).all low=V) (λi=>s.size-(intOf i).toNat)
 case atStart=>exact⟨0,Jr _,rfl,rfl⟩
 case round=>
  obtain⟨k,hk,rfl,DT⟩:=hrel;have PE:=D DT;clear DT;by_cases hlt:k<s.size
  .have hg:(bs s)[k]'(by rw[Br];exact hlt)=s[k]:=rfl;have Hg:=D hg;clear hg;go_wp2
   .exact mbt
   .go_round
    case rel=>
     refine⟨k+1,Y,by go_num,?_⟩;rw[bE _ _ _ (by rw[Br];exact hlt),PE.out,Hg.out,XU,Ql,JB];omega
    case measure=>simp[intOf];omega
   .exact mbt
  .have hE:(bs s).take k=bs s:=J6 (by rw[Br];omega);have HE:=D hE;clear hE;go_wp2;all_goals
    go_ret;refine⟨CN ?_,rfl⟩;have:=PE.out;rw[HE.out] at this;unfold Cg;rw[this,Br,Ql];first|(rw[J3 (by assumption:0<s.size),Ql];congr 1;exact propext ⟨λ_=>Y,λ_=>Y⟩)|(rw[JJ (by assumption:¬0<s.size),Bool.false_and])
def ED (below:Bool):By->Int->Option Int
 |[],v=>U v
 |c::r,v=>if (c.toNat:Int)<48\/57<(c.toNat:Int) then Z else
   ED below r (if below then wrap64 (wrap64 (10*v)-((c.toNat:Int)-48)) else wrap64 (wrap64 (10*v)+((c.toNat:Int)-48)))
def K8:By:=[57,50,50,51,51,55,50,48,51,54,56,53,52,55,55,53,56,48,55]
def La:By:=[57,50,50,51,51,55,50,48,51,54,56,53,52,55,55,53,56,48,56]
def F3 (below:Bool) (t:By) (BE:By):Bool:=
 t.isEmpty || decide (J BE<J t) || (decide (J t=J BE) && (!Op.bytesLess t BE && !(t==BE))) || ((t.headD 0==48) && (decide (1<J t) || below))
def number (l:By):Option Int:=
 let below:=l.headD 0==45
 let t:=if below then l.tail else l
 if F3 below t (if below then La else K8) then Z else ED below t 0
def Ng (l:By):Value:= qC #[iI ((number l).getD 0),qB (number l).isSome]
theorem oB (B:Bool) (T M:ByteArray) (h:T.size=0):F3 B (bs T) (bs M)=V:=by
 have:=Jm ((Br T).trans h);simp[F3,this]
theorem uh (T:ByteArray) (h:1<=T.size):(bs T).headD 0=T[0]:=by
 obtain⟨⟨l⟩⟩:=T;cases l with
 |nil=>exact Jk h Do
 |cons c r=>rfl
theorem mj (s:ByteArray):bs (s.extract 1 s.size)=(bs s).tail:=by
 show(s.extract 1 s.size).data.toList=_;rw[Lib.extract_data];show((bs s).drop 1).take _=_;rw[J6 (by rw[QU,Br];omega),List.drop_one]
theorem uf (c d:UInt8):(c==d)=decide ((c.toNat:Int)=(d.toNat:Int)):=by
 rw[Q1,Q0,JB];constructor
 .intro h1;rw[h1]
 .intro h1;apply UInt8.toNat_inj.1;omega
theorem vG (B:Bool) (T M:ByteArray) (h:1<=T.size):F3 B (bs T) (bs M)=
  (decide (M.size<T.size) || (decide (T.size=M.size) && (!Op.bytesLess T.toList M.toList && !(T.toList==M.toList))) || (decide ((T[0].toNat:Int)=48) && (decide (1<T.size) || B))):=by
 have he:(bs T).isEmpty=I:=by
  rw[d7];intro h0;rw[QS,Br] at h0;omega
 unfold F3;rw[he,uh T h,Br,Br,ByteArray.toList_eq,ByteArray.toList_eq,jD,uf];rfl
theorem Se (l:By) (B:Bool) (T M:By) (hB:(l.headD 0==45)=B) (hT:T=if B then l.tail else l) (hM:M=if B then La else K8):
  number l=if F3 B T M then Z else ED B T 0:=by
 subst hB hT hM;rfl
theorem oA (l:By) (B:Bool) (T M:By) (hB:(l.headD 0==45)=B) (hT:T=if B then l.tail else l) (hM:M=if B then La else K8) (hN:F3 B T M=V):
  Ng l= qC #[iI 0,qB I]:=by
 unfold Ng;rw[Se l B T M hB hT hM,Jb hN];rfl
theorem W7 (l:By) (B:Bool) (T M:By) (hB:(l.headD 0==45)=B) (hT:T=if B then l.tail else l) (hM:M=if B then La else K8) (hN:F3 B T M=I)
  (h:ED B T 0=Z):Ng l= qC #[iI 0,qB I]:=by
 unfold Ng;rw[Se l B T M hB hT hM,In (by rw[hN];simp),h];rfl
theorem kx (l:By) (B:Bool) (T M:By) (hB:(l.headD 0==45)=B) (hT:T=if B then l.tail else l) (hM:M=if B then La else K8) (hN:F3 B T M=I)
  {v:Int} (h:ED B T 0=U v):Ng l= qC #[iI v,qB V]:=by
 unfold Ng;rw[Se l B T M hB hT hM,In (by rw[hN];simp),h];rfl
theorem L0 (s:ByteArray) (w:World) (hs:s.size<=maxLen):
  Calls prog 86 #[qA s] w λe w'=>e= qF (Ng (bs s))/\w'=w:=by
 unfold maxLen at hs;go_enter func86,ntmps86;go_upto_region 2 with(fail)
 go_cut [5] (λb w'=>w'=w/\b= qB ((bs s).headD 0==45))
 case first=>
  by_cases h0:s.size=0
  .have HE:=D (show(bs s).headD 0=0 by rw[Jm ((Br s).trans h0)];rfl);go_wp2;all_goals go_meet
   refine⟨rfl,?_⟩;rw[HE.out];rfl
  .have h1:1<=s.size:=Y
   have HE:=D (uh s h1);clear h0;go_wp2;all_goals go_meet
   refine⟨rfl,?_⟩;rw[HE.out,uf];rfl
 case rest=>
  obtain⟨rfl,rfl⟩:=hcut;generalize hB:((bs s).headD 0==45)=B;have HB:=D hB;clear hB
  go_upto_if 19 with(fail)
  go_cut [4] (λt w'=>w'=wc/\∃T:ByteArray,t= qA T/\bs T=(if B then (bs s).tail else bs s))
  case first=>
   cases B
   .go_wp2
    go_meet
    exact⟨rfl,s,rfl,rfl⟩
   .have h1:1<=s.size:=by
     rcases d5 s.size with h|h
     .have:=HB.out;rw[Jm ((Br s).trans h)] at this;exact Jk this Do
     .exact h
    have HX:=D (mj s);go_wp2
    go_meet
    exact⟨rfl,_,rfl,HX⟩
  case rest=>
   obtain⟨hw,T,rfl,hT⟩:=hcut;obtain rfl:=hw;have HT:=D hT;clear hT
   go_upto_if 22 with(fail)
   go_cut [6] (λm w'=>w'=wc/\∃M:ByteArray,m= qA M/\bs M=(if B then La else K8))
   case first=>
    cases B
    .go_wp2
     go_meet
     exact⟨rfl,_,rfl,rfl⟩
    .go_wp2
     go_meet
     exact⟨rfl,_,rfl,rfl⟩
   case rest=>
    obtain⟨hw,M,rfl,hM⟩:=hcut;obtain rfl:=hw;have HM:=D hM;clear hM;go_upto_region 8 with(fail)
    go_cut [56] (λm w'=>w'=wc/\m= qB (F3 B (bs T) (bs M)))
    case first=>
     by_cases hT0:T.size=0
     .have he:T.toList.isEmpty=V:=by rw[ByteArray.toList_eq,QS];exact(Br T).trans hT0
      have HB:=D (oB B T M hT0);clear hT0;go_wp2;all_goals go_meet
      rw[HB.out];exact⟨rfl,rfl⟩
     .have he:T.toList.isEmpty=I:=by rw[ByteArray.toList_eq,d7];intro h;rw[QS] at h;exact hT0 ((Br T).symm.trans h)
      have h1:1<=T.size:=Y
      have HN:=D (vG B T M h1);clear hT0;go_wp2;all_goals go_meet
      all_goals (refine⟨rfl,?_⟩;rw[HN.out])
      all_goals first|(congr 1;grind)|(exfalso;grind)|skip
    case rest=>
     obtain⟨hw,rfl⟩:=hcut;obtain rfl:=hw;generalize hN:F3 B (bs T) (bs M)=N;have HN:=D hN;clear hN;cases N
     .go_wp2;have hTs:T.size<=s.size:=by
       rw[<-Br T,HT.out,<-Br s];cases B
       .exact Jf _
       .show(bs s).tail.length<=_;rw[QF];omega
      go_loop [8,7] (λi v=>∃(k:Nat) (x:Int),k<=T.size/\i= iI k/\v= iI x/\ED B ((bs T).drop k) x=ED B (bs T) 0) (λi _=>T.size-(intOf i).toNat)
      case atStart=>exact⟨0,0,Jr _,rfl,rfl,rfl⟩
      case round=>
       obtain⟨k,x,hk,rfl,rfl,hx⟩:=hrel;by_cases hlt:k<T.size
       .have Rv:(bs T).drop k=T[k]::(bs T).drop (k+1):=JO (by rw[Br];exact hlt);rw[Rv] at hx;have HX:=D hx;clear hx Rv;cases B;all_goals
         go_wp2
         .go_ret2;refine⟨OG ?_,rfl⟩;rw[W7 _ _ _ _ HB.out HT.out HM.out HN.out (by rw[<-HX.out];unfold ED;rw[Jb Y])];rfl
         .go_roundw;case rel=>
           refine⟨k+1,_,Y,by go_num,rfl,?_⟩;rw[<-HX.out];conv=>rhs;unfold ED
           rw[In Y];rfl
          case measure=>simp[intOf];omega
         .go_ret2;refine⟨OG ?_,rfl⟩;rw[W7 _ _ _ _ HB.out HT.out HM.out HN.out (by rw[<-HX.out];unfold ED;rw[Jb Y])];rfl
       .rw[Qa (by rw[Br];omega)] at hx;have HX:=D hx;clear hx;go_wp2;go_ret2;refine⟨OG ?_,rfl⟩;rw[kx _ _ _ _ HB.out HT.out HM.out HN.out HX.out.symm];rfl
     .go_wp2;go_ret2;refine⟨OG ?_,rfl⟩;rw[oA _ _ _ _ HB.out HT.out HM.out HN.out];rfl
def Sl (w:World) (ok:Nat->Prop) (v:Value) (xs:List Value):Prop:=
 J xs<=maxLen/\((v= m9 Z 0 0/\xs=[])\/
  ∃b off cap,v= m9 (U ⟨b,off,Z⟩) (J xs) cap/\J xs<=cap/\cap<=maxLen/\ok b/\b<w.heap.size/\∀i,(h:i<J xs)->w.cell? ⟨b,off+i,Z⟩=U xs[i])
theorem Sl.mono {ok':Nat->Prop} (h:Sl w ok v xs) (hk:∀b,b<w.heap.size->ok b->ok' b):Sl w ok' v xs:=by
 obtain⟨hm,h|⟨b,off,cap,rfl,h1,h2,h3,h4,h5⟩⟩:=h
 .exact⟨hm,.inl h⟩
 .exact⟨hm,.inr ⟨b,off,cap,rfl,h1,h2,hk b h4 h3,h4,h5⟩⟩
theorem Sl.mod (h:Sl w ok v xs) (k:Az M w w') (hM:∀b,ok b->b∉M):Sl w' ok v xs:=by
 obtain⟨hm,h|⟨b,off,cap,rfl,h1,h2,h3,h4,h5⟩⟩:=h
 .exact⟨hm,.inl h⟩
 .refine⟨hm,.inr ⟨b,off,cap,rfl,h1,h2,h3,JR h4 k.size,λi hi=>?_⟩⟩;rw[<-h5 i hi];exact jE (w:=w) (k.block b h4 (hM b h3))
theorem Sl.L9 (h:Sl w ok v xs):∃p cap,v= m9 p (J xs) cap/\J xs<=cap/\cap<=maxLen:=by
 obtain⟨hm,⟨rfl,rfl⟩|⟨b,off,cap,rfl,h1,h2,h3,h4,h5⟩⟩:=h
 .exact⟨Z,0,rfl,Jf _,Jr _⟩
 .exact⟨_,_,rfl,h1,h2⟩
def Bq (l:List ByteArray):List Value:=l.map Value.string
theorem Cj (l:List ByteArray):(Bq l).length=J l:=JZ _
def Ee:List ByteArray->ByteArray->Nat->Int
 |[],_,_=> -1
 |a::r,x,k=>if bs a=bs x then k else Ee r x (k+1)
def Be (l:List ByteArray) (x:ByteArray):Int:=Ee l x 0
theorem WR {a b:ByteArray} (h:bs a=bs b):(a.toList==b.toList)=V:=by
 rw[ByteArray.toList_eq,ByteArray.toList_eq,Q0];exact h
theorem Uq {a b:ByteArray} (h:¬bs a=bs b):(a.toList==b.toList)=I:=by
 rw[ByteArray.toList_eq,ByteArray.toList_eq,Jh];exact h
theorem Gh (l:List ByteArray) (x:ByteArray) (v:Value) (w:World) (ok:Nat->Prop) (hv:Sl w ok v (Bq l)):
  Calls prog 58 #[v,qA x] w λe w'=>e= qF (iI (Be l x))/\w'=w:=by
 obtain⟨hm,⟨rfl,hn⟩|⟨b,off,cap,rfl,h1,h2,h3,h4,h5⟩⟩:=hv
 .have hl:l=[]:=by cases l with|nil=>rfl|cons a r=>simp[Bq] at hn
  subst hl;clear hn hm;go_enter func58,ntmps58;go_wp2
  go_loop [5] (λi=>i= iI 0) (λ_=>0)
  case atStart=>rfl
  case round=>
   obtain rfl:=hrel;go_wp2;go_ret;exact⟨rfl,rfl⟩
 .rw[Cj] at hm h1⊢;unfold maxLen at hm h2;clear h3 h4;have H5:=D h5;clear h5;go_enter func58,ntmps58;go_wp2
  go_loop [5] (λi=>∃k:Nat,k<=J l/\i= iI k/\Ee (l.drop k) x k=Be l x) (λi=>J l-(intOf i).toNat)
  case atStart=>exact⟨0,Jr _,rfl,rfl⟩
  case round=>
   obtain⟨k,hk,rfl,hp⟩:=hrel;by_cases hlt:k<J l
   .have hc:=H5.out k (by rw[Cj];exact hlt);simp only[Bq,List.getElem_map] at hc;rw[JO hlt] at hp;by_cases he:bs l[k]=bs x
    .have hq:=WR he;have HP:=D (show Be l x=(k:Int) by rw[<-hp];simp only[Ee];rw[Jb he]);clear hp he;go_wp2;go_ret;exact⟨fu HP.symm,rfl⟩
    .have hq:=Uq he;have HP:=D (show Ee (l.drop (k+1)) x (k+1)=Be l x by rw[<-hp];simp only[Ee];rw[In he]);clear hp he;go_wp2
     go_round
     case rel=>exact⟨k+1,Y,by go_num,HP⟩
     case measure=>simp[intOf];omega
   .rw[Qa Y] at hp;have HP:=D hp;clear hp;go_wp2;go_ret;exact⟨fu HP,rfl⟩
theorem Ado (s:ByteArray) (w:World) (hs:s.size<=maxLen):
  Calls prog 55 #[qA s] w λe w'=>e= qF (qB (Cg (bs s) || (number (bs s)).isSome))/\w'=w:=by
 unfold maxLen at hs;generalize hb:Cg (bs s)=b;generalize hn:number (bs s)=n;have h1:Calls prog 54 #[qA s] w λe w'=>e= qF (qB b)/\w'=w:=by rw[<-hb];exact cQ s w hs
 have h2:Calls prog 86 #[qA s] w λe w'=>e= qF (qC #[iI (n.getD 0),qB n.isSome])/\w'=w:=by rw[<-hn];exact L0 s w hs
 have H1:=D h1;have H2:=D h2;clear h1 h2 hb hn;generalize n.getD 0=x at*;generalize n.isSome=c at*;cases b<;>cases c<;>(
   go_enter func55,ntmps55;go_wp2_with (first|(go_at_call 54;refine H1.mono ?_;rintro e w' ⟨rfl,rfl⟩)|(go_at_call 86;refine H2.mono ?_;rintro e w' ⟨rfl,rfl⟩));go_ret;exact⟨rfl,rfl⟩)
def GC (s:By) (BE:Int):Bool:=match number s with
 |some v=>decide (1<=v) && decide (v<=BE)
 |none=>I
theorem o4 (s:ByteArray) (m:Int) (w:World) (hs:s.size<=maxLen):
  Calls prog 56 #[qA s,iI m] w λe w'=>e= qF (qB (GC (bs s) m))/\w'=w:=by
 unfold maxLen at hs;unfold GC;have h2:=L0 s w hs;unfold Ng at h2;generalize number (bs s)=n at*;have H2:=D h2;clear h2;cases n with
 |none=>
  go_enter func56,ntmps56;go_wp2_with (first|(go_at_call 86;refine H2.mono ?_;rintro e w' ⟨rfl,rfl⟩));go_ret;exact⟨rfl,rfl⟩
 |some v=>
  by_cases h1:1<=v<;>by_cases h3:v<=m<;>(
    go_enter func56,ntmps56;go_wp2_with (first|(go_at_call 86;refine H2.mono ?_;rintro e w' ⟨rfl,rfl⟩));go_ret;exact⟨CN (by simp[*]),rfl⟩)
theorem Sl.new (xs:List Value) (T:TypeId) (n:Nat) (hn:J xs=n) (hb:n<=1000) (ok:Nat->Prop) (hok:ok w.heap.size):
  Sl (w.alloc (qG xs.toArray T)) ok (m9 (U ⟨w.heap.size,0,Z⟩) n n) xs:=by
 subst hn;refine⟨by unfold maxLen;omega,.inr ⟨w.heap.size,0,J xs,rfl,Jf _,by unfold maxLen;omega,hok,by show _<(w.heap.push _).size;rw[QO];omega,λi hi=>?_⟩⟩;rw[(Ci.new w xs.toArray T).cell];simp[hi]
def Dc:List ByteArray:=[⟨#[43]⟩,⟨#[45]⟩,⟨#[42]⟩,⟨#[47]⟩,⟨#[37]⟩,⟨#[38]⟩,⟨#[124]⟩,⟨#[94]⟩,⟨#[60,60]⟩,⟨#[62,62]⟩,⟨#[60]⟩,⟨#[61,61]⟩]
def B4:List ByteArray:=[⟨#[97,100,100]⟩,⟨#[115,117,98]⟩,⟨#[109,117,108]⟩,⟨#[100,105,118]⟩,⟨#[109,111,100]⟩,⟨#[97,110,100]⟩,⟨#[111,114]⟩,⟨#[120,111,114]⟩,⟨#[115,104,108]⟩,⟨#[115,104,114]⟩,⟨#[108,116]⟩,⟨#[101,113]⟩]
def mP (l:List ByteArray) (w:World) (e:Ending) (w':World):Prop:=
 ∃v,e= qF v/\Az [] w w'/\Sl w' (λb=>w.heap.size<=b) v (Bq l)
theorem cg (w:World):Calls prog 57 #[] w (mP Dc w):=by
 go_enter func57,ntmps57;go_wp2;go_ret;exact⟨_,rfl,(Az.refl _ _).alloc _,Sl.new (Bq Dc) 9 12 rfl Y _ (Jf _)⟩
theorem bO (w:World):Calls prog 88 #[] w (mP B4 w):=by
 go_enter func88,ntmps88;go_wp2;go_ret;exact⟨_,rfl,(Az.refl _ _).alloc _,Sl.new (Bq B4) 9 12 rfl Y _ (Jf _)⟩
def AiL (r:Bool) (w:World) (e:Ending) (w':World):Prop:=e= qF (qB r)/\Az [] w w'
def Dt (s:By):Bool:=Cg s || (number s).isSome
def AR:By:=[115,104,97,114,101,100]
def AE:By:=[116,104,114,101,97,100]
def EK:By:=[101,110,100]
def A8:By:=[97,116,111,109,105,99]
def Fw:By:=[115,101,116]
def DQ:By:=[103,101,116]
def EF:By:=[112,117,116]
def Iz:By:=[111,117,116]
def Uj:By:=[105,102]
def EW:By:=[108,111,111,112]
def kAt:By:=[97,116]
def wd (l:List ByteArray) (i:Nat):ByteArray:=l.getD i ByteArray.empty
def Fv (x:By) (n:Nat) (a b c g p v k1 l6 l4:Bool):Bool:=
 if x=AR then a && (decide (n=2) || (decide (n=3) && l6))
 else if x=AE then decide (n=1) else if x=EK then decide (n=1) else if x=A8 then decide (n=1)
 else if x=Fw then a && b && (decide (n=3) || (decide (n=5) && (p && v)))
 else if x=DQ then a && (decide (2<n) && g) && (decide (n=3) || (decide (n=5) && c))
 else if x=EF then a && b && (decide (n=3) || (decide (n=5) && c))
 else if x=Iz then decide (n=2) && k1 else if x=Uj then decide (n=2) && k1
 else if x=EW then decide (n=2) && l4
 else I
def Bv (l:List ByteArray):Bool:=
 Fv (bs (wd l 0)) (J l) (decide (1<J l) && Cg (bs (wd l 1))) (decide (2<J l) && Dt (bs (wd l 2)))
  (decide (4<J l) && (decide (bs (wd l 3)=kAt) && Dt (bs (wd l 4)))) (Cg (bs (wd l 2))) (decide (0<=Be Dc (wd l 3))) (Dt (bs (wd l 4)))
  (Dt (bs (wd l 1))) (GC (bs (wd l 2)) 6) (GC (bs (wd l 1)) 4)
theorem Sl.M9 {off:Nat} (h:∀i,(hi:i<(Bq l).length)->w.cell? ⟨b,off+i,Z⟩=U (Bq l)[i]) (i:Nat) (hi:i<J l):
  w.cell? ⟨b,off+i,Z⟩=U (qA (wd l i)):=by
 rw[h i (by rw[Cj];exact hi)];simp[Bq,wd,hi]
theorem CZ {k:By} (h:bs x=k):(x.toList==k)=V:=by rw[ByteArray.toList_eq,Q0];exact h
theorem Bx {k:By} (h:¬bs x=k):(x.toList==k)=I:=by rw[ByteArray.toList_eq,Jh];exact h
theorem Kr (h:∀s,s∈l->s.size<=maxLen) (i:Nat):(wd l i).size<=maxLen:=by
 unfold wd;rcases jL i (J l) with hi|hi
 .rw[Je,Ja hi];exact h _ (JP hi)
 .rw[Je,Q4 hi];exact Jr _
theorem AbJ (l:List ByteArray) (v:Value) (w:World) (ok:Nat->Prop) (hv:Sl w ok v (Bq l)) (hne:l≠[]) (hs:∀s,s∈l->s.size<=maxLen):
  Calls prog 36 #[v] w (AiL (Bv l) w):=by
 have hlen:0<J l:=by cases l with|nil=>exact Jk rfl hne|cons a r=>simp
 obtain⟨hm,⟨rfl,hn⟩|⟨b,off,cap,rfl,h1,h2,h3,h4,h5⟩⟩:=hv
 .exact Jk (by cases l with|nil=>rfl|cons a r=>simp[Bq] at hn) hne
 rw[Cj] at hm h1⊢;unfold maxLen at hm h2;have c0:=Sl.M9 h5 0 hlen;simp only[JX] at c0;have H5:=D (Sl.M9 h5);have S:=λi=>Kr hs i
 have HS:=D S;have HN:=λs hs w=>cQ s w hs
 have HA:=λs hs w=>Ado s w hs
 have HL:=λs m hs w=>o4 s m w hs
 have ik:=D HN;have bK:=D HA;have Lh:=D HL;clear h5 h3 h4 hs S HN HA HL hne;generalize hX:wd l 0=x at c0;have HX:=D hX;clear hX;go_enter func36,ntmps36;go_upto_region 3 with(fail)
 go_cut [5] (λa w'=>w'=w/\a= qB (decide (1<J l) && Cg (bs (wd l 1))))
 case first=>
  by_cases hk:1<J l
  .have c1:=H5.out 1 hk;have hK:=D (J3 hk);go_wp2_with (go_at_call 54;refine(ik _ (HS 1) _).mono ?_;rintro e w' ⟨rfl,rfl⟩)
   go_meet
   exact⟨rfl,by rw[hK.out,Ql]⟩
  .exact ma0
 case rest=>
  obtain⟨hw,rfl⟩:=hcut;obtain rfl:=hw;generalize hA:(decide (1<J l) && Cg (bs (wd l 1)))=A;have mW:=D hA;clear hA;go_upto_region 4 with(fail)
  go_cut [6] (λa w'=>w'=wc/\a= qB (decide (2<J l) && Dt (bs (wd l 2))))
  case first=>
   by_cases hk:2<J l
   .have c1:=H5.out 2 hk;have hK:=D (J3 hk);go_wp2_with (go_at_call 55;refine(bK _ (HS 2) _).mono ?_;rintro e w' ⟨rfl,rfl⟩)
    go_meet
    exact⟨rfl,by rw[hK.out,Ql];rfl⟩
   .exact ma0
  case rest=>
   obtain⟨hw,rfl⟩:=hcut;obtain rfl:=hw;generalize hB:(decide (2<J l) && Dt (bs (wd l 2)))=B;have mV:=D hB;clear hB
   go_upto_if 35 with(fail)
   go_cut [7] (λa w'=>w'=wc/\a= qB (decide (4<J l) && (decide (bs (wd l 3)=kAt) && Dt (bs (wd l 4)))))
   case first=>
    by_cases hk:4<J l
    .have c1:=H5.out 3 Y;have c2:=H5.out 4 hk;have hK:=D (J3 hk);by_cases he:bs (wd l 3)=kAt
     .have hq:=CZ he;have hE:=D (J3 he);clear he;unfold kAt at hq;go_wp2_with (go_at_call 55;refine(bK _ (HS 4) _).mono ?_;rintro e w' ⟨rfl,rfl⟩)
      go_meet
      exact⟨rfl,by rw[hK.out,hE.out,Ql,Ql];rfl⟩
     .have hq:=Bx he;have hE:=D (JJ he);clear he;unfold kAt at hq;go_wp2
      go_meet
      exact⟨rfl,by rw[hK.out,hE.out,Ql,Bool.false_and]⟩
    .exact ma0
   case rest=>
    obtain⟨hw,rfl⟩:=hcut;obtain rfl:=hw;generalize hC:(decide (4<J l) && (decide (bs (wd l 3)=kAt) && Dt (bs (wd l 4))))=C;have mU:=D hC;clear hC;have HB0:Bv l=Fv (bs x) (J l) A B C (Cg (bs (wd l 2))) (decide (0<=Be Dc (wd l 3))) (Dt (bs (wd l 4))) (Dt (bs (wd l 1))) (GC (bs (wd l 2)) 6) (GC (bs (wd l 1)) 4):=by
     rw[<-HX.out,<-mW.out,<-mV.out,<-mU.out];rfl
    have Sz:=D HB0;clear HB0;by_cases Sn:bs x=AR
    .have qShared:=CZ Sn;have HF:=D (show Bv l=(A && (decide (J l=2) || (decide (J l=3) && GC (bs (wd l 2)) 6))) from Sz.trans (by rw[Sn];rfl));clear Sn;unfold AR at qShared;by_cases n3:J l=3
     .have c2:=H5.out 2 Y;go_wp2_with (go_at_call 56;refine(Lh _ _ (HS 2) _).mono ?_;rintro e w' ⟨rfl,rfl⟩);all_goals (go_ret;refine⟨CN ?_,Az.refl _ _⟩;rw[HF.out];clear HF Sz mW mV mU HX ik bK Lh H5 HS;first|grind|(cases A<;>cases B<;>cases C<;>first|grind|simp_all))
     .exact mah
    have qShared:=Bx Sn;unfold AR at qShared;by_cases Sk:bs x=AE
    .have qThread:=CZ Sk;have HF:=D (show Bv l=(decide (J l=1)) from Sz.trans (by rw[Sk];rfl));clear Sk;unfold AE at qThread;exact mah
    have qThread:=Bx Sk;unfold AE at qThread;by_cases xF:bs x=EK
    .have qEnd:=CZ xF;have HF:=D (show Bv l=(decide (J l=1)) from Sz.trans (by rw[xF];rfl));clear xF;unfold EK at qEnd;exact mah
    have qEnd:=Bx xF;unfold EK at qEnd;by_cases So:bs x=A8
    .have qAtomic:=CZ So;have HF:=D (show Bv l=(decide (J l=1)) from Sz.trans (by rw[So];rfl));clear So;unfold A8 at qAtomic;exact mah
    have qAtomic:=Bx So;unfold A8 at qAtomic;by_cases xB:bs x=Fw
    .have qSet:=CZ xB;have HF:=D (show Bv l=(A && B && (decide (J l=3) || (decide (J l=5) && (decide (0<=Be Dc (wd l 3)) && Dt (bs (wd l 4)))))) from Sz.trans (by rw[xB];rfl));clear xB;unfold Fw at qSet;by_cases n5:J l=5
     .have c3:=H5.out 3 Y;have c4:=H5.out 4 Y;go_wp2_with fail;refine(cg _).mono ?_;rintro e w1 ⟨v1,rfl,Dg,dt⟩;have c3':=(AK Dg c3);have c4':=(AK Dg c4);have HP:=D (Gh Dc (wd l 3) v1 w1 _ dt);generalize hP:Be Dc (wd l 3)=P at HF HP;clear hP;have HM:=D Dg;clear Dg dt;go_wp2_with fail;refine(HP).mono ?_;rintro e w2 ⟨rfl,rfl⟩;go_wp2_with (go_at_call 55;refine(bK _ (HS 4) _).mono ?_;rintro e w' ⟨rfl,rfl⟩);all_goals (go_ret;refine⟨CN ?_,HM⟩;rw[HF.out];clear HP HF Sz mW mV mU HX ik bK Lh H5 HS HM;first|grind|(simp only[Dt];grind))
     .exact mah
    have qSet:=Bx xB;unfold Fw at qSet;by_cases xE:bs x=DQ
    .have qGet:=CZ xE;have HF:=D (show Bv l=(A && (decide (2<J l) && Cg (bs (wd l 2))) && (decide (J l=3) || (decide (J l=5) && C))) from Sz.trans (by rw[xE];rfl));clear xE;unfold DQ at qGet;by_cases n2:2<J l
     .have c2:=H5.out 2 n2;generalize hG:Cg (bs (wd l 2))=G at HF;have HG:=D hG;clear hG;go_wp2_with (go_at_call 54;refine(ik _ (HS 2) _).mono ?_;rintro e w' ⟨rfl,rfl⟩;rw[HG.out]);all_goals (go_ret;refine⟨CN ?_,Az.refl _ _⟩;rw[HF.out];clear HG HF Sz mW mV mU HX ik bK Lh H5 HS;first|grind|(cases A<;>cases B<;>cases C<;>first|grind|simp_all))
     .exact mah
    have qGet:=Bx xE;unfold DQ at qGet;by_cases xD:bs x=EF
    .have qPut:=CZ xD;have HF:=D (show Bv l=(A && B && (decide (J l=3) || (decide (J l=5) && C))) from Sz.trans (by rw[xD];rfl));clear xD;unfold EF at qPut;exact mah
    have qPut:=Bx xD;unfold EF at qPut;by_cases hOut:bs x=Iz
    .have qOut:=CZ hOut;have HF:=D (show Bv l=(decide (J l=2) && Dt (bs (wd l 1))) from Sz.trans (by rw[hOut];rfl));clear hOut;unfold Iz at qOut;by_cases n2:J l=2
     .exact maI
     .exact mah
    have qOut:=Bx hOut;unfold Iz at qOut;by_cases hIf:bs x=Uj
    .have qIf:=CZ hIf;have HF:=D (show Bv l=(decide (J l=2) && Dt (bs (wd l 1))) from Sz.trans (by rw[hIf];rfl));clear hIf;unfold Uj at qIf;by_cases n2:J l=2
     .exact maI
     .exact mah
    have qIf:=Bx hIf;unfold Uj at qIf;by_cases dy:bs x=EW
    .have qLoop:=CZ dy;have HF:=D (show Bv l=(decide (J l=2) && GC (bs (wd l 1)) 4) from Sz.trans (by rw[dy];rfl));clear dy;unfold EW at qLoop;by_cases n2:J l=2
     .have c1:=H5.out 1 Y;go_wp2_with (go_at_call 56;refine(Lh _ _ (HS 1) _).mono ?_;rintro e w' ⟨rfl,rfl⟩);all_goals (go_ret;refine⟨CN ?_,Az.refl _ _⟩;rw[HF.out];clear HF Sz mW mV mU HX ik bK Lh H5 HS;first|grind|(simp only[Dt];grind))
     .exact mah
    have qLoop:=Bx dy;unfold EW at qLoop;have HF:=D (show Bv l=I from Sz.trans (by unfold Fv;simp only[In Sn,In Sk,In xF,In So,In xB,In xE,In xD,In hOut,In hIf,In dy]));clear Sn Sk xF So xB xE xD hOut hIf dy;go_wp2;go_ret;exact⟨CN HF.symm,Az.refl _ _⟩
theorem B7 {n:Nat} (h:w.ownsRow Ac e size v n xs) (k:Az M w w')
  (hm:∀g,v.ownBlock=U g->g∉M):w'.ownsRow Ac e size v n xs:=by
 obtain⟨hl,h|⟨g,cap,Ic,rfl,h1,h2,h3⟩⟩:=h
 .exact⟨hl,.inl h⟩
 .exact⟨hl,.inr ⟨g,cap,Ic,rfl,h1,k.heap h2 (hm g rfl),h3⟩⟩
theorem Ll {n:Nat} (h:w.ownsRow Ac e size v n xs):w.drew.ownsRow Ac e size v n xs:=h
theorem ownsRow_nil (w:World) (Ac:Nat) (e:TypeId) (size:Nat):w.ownsRow Ac e size (m9 Z 0 0) 0 []:=⟨EQ,AC⟩
theorem DX {n:Nat} (h:w.ownsRow Ac e size v n xs) {g:Nat} (hg:v.ownBlock=U g):Ac<=g/\g<w.heap.size:=by
 obtain⟨hl,⟨rfl,h⟩|⟨g',cap,Ic,rfl,h1,h2,h3⟩⟩:=h
 .cases hg
 .cases hg<;>grind
theorem Av {n:Nat} (h:w.ownsRow Ac e size v n xs) (hn:0<n):
  ∃g cap,v= m9 (U ⟨g,0,Z⟩) n cap/\Ac<=g/\g<w.heap.size/\n<=cap/\cap<=maxLen/\(∀i,(hi:i<J xs)->w.cell? ⟨g,i,Z⟩=U xs[i])/\(∀i,w.frozen? ⟨g,i,Z⟩=I):=by
 obtain⟨hl,⟨rfl,h⟩|⟨g,cap,Ic,rfl,h1,h2,h3,h4,h5,h6⟩⟩:=h
 .omega
 .refine⟨g,cap,rfl,h1,AC,h3,h4,λi hi=>?_,λi=>?_⟩
  .rw[Ci.cell (c:=Ic) (T:=e) h2];grind
  .exact Ci.free (c:=Ic) (T:=e) h2 i
theorem W5 {n:Nat} (h:w.ownsRow Ac e size v n xs):J xs=n*size:=h.1
theorem W4 {n:Nat} (h:w.ownsRow Ac e size (m9 (U ⟨g,0,Z⟩) n cap) n xs) (i:Nat) (hi:i<J xs) (u:Value):
  (w.setCell ⟨g,i,Z⟩ u).ownsRow Ac e size (m9 (U ⟨g,0,Z⟩) n cap) n (xs.set i u):=by
 obtain⟨hl,⟨hv,h⟩|⟨g',cap',Ic,hv,h1,h2,h3,h4,h5,h6⟩⟩:=h
 .cases hv
 .cases hv;refine⟨by rw[Ju];exact hl,.inr ⟨g,cap,Ic.setIfInBounds i u,rfl,h1,Ci.set (c:=Ic) (T:=e) h2 i u,h3,h4,AC,?_⟩⟩;subst h6;rw[Array.toList_setIfInBounds,List.take_set]
theorem W6 {n:Nat} (h:w.ownsRow Ac e size v n xs) {p:Addr} (hp:v.ownBlock≠U p.block) (u:Value):
  (w.setCell p u).ownsRow Ac e size v n xs:=
 B7 h ((Az.refl [p.block] w).setCell AC u) AC
theorem DY {n:Nat} (h:w.ownsRow Ac e size v n xs) (o:Obj):(w.alloc o).ownsRow Ac e size v n xs:=
 B7 h ((Az.refl [] w).alloc o) AC
theorem UJ {n:Nat} (h:w.ownsRow Ac e size (m9 (U ⟨g,0,Z⟩) n cap) n xs) (k:Nat) (hk:k<=n):
  w.ownsRow Ac e size (m9 (U ⟨g,0,Z⟩) k cap) k (xs.take (k*size)):=by
 obtain⟨hl,⟨hv,h⟩|⟨g',cap',Ic,hv,h1,h2,h3,h4,h5,h6⟩⟩:=h
 .cases hv
 .cases hv;have hks:k*size<=n*size:=Qq _ hk;refine⟨by rw[LE,hl];omega,.inr ⟨g,cap,Ic,rfl,h1,h2,Y,h4,h5,?_⟩⟩;subst h6;rw[List.take_take,Nat.min_eq_left hks]
theorem Az.grown {a:World} {row:Option Nat} (h:Az M a w) (hg:w.grownBy w' row) (hr:∀k,row=U k->k∈M\/a.heap.size<=k):Az M a w':=
 ⟨hg.os.trans h.os,hg.tape.trans h.tape,hg.output.trans h.output,QA h.size hg.size,λk hk hm=>by
   rw[hg.block k (JR hk h.size) AC];exact h.block k hk hm⟩
theorem Sl.OK {n:Nat} (h:w.ownsRow Ac e 1 v n xs):Sl w (λb=>Ac<=b/\v.ownBlock=U b) v xs:=by
 have hl:=W5 h;rw[jQ] at hl;obtain⟨_,⟨rfl,h0⟩|⟨g,cap,Ic,rfl,h1,h2,h3,h4,h5,h6⟩⟩:=id h
 .subst h0;exact⟨by rw[hl];grind,AC⟩
 .rcases d5 n with h0|h0
  .subst h0;obtain rfl:=Jm hl;exact⟨AC,.inr ⟨g,0,cap,rfl,AC,h4,⟨h1,rfl⟩,AC,AC⟩⟩
  .obtain⟨g',cap',he,a1,a2,a3,a4,a5,a6⟩:=Av h h0;cases he;refine⟨by rw[hl];omega,.inr ⟨g,0,cap,by rw[hl],by rw[hl];exact a3,a4,⟨a1,rfl⟩,a2,λi hi=>?_⟩⟩<;>grind
structure SG where
 p:Option Addr
 c:Nat
inductive Ob where
 |W2 (b:Nat) (o:Obj)
 |row (v:Value) (e:TypeId) (size n:Nat) (xs:List Value)
variable {L A B C:List Ob}
abbrev Ob.Ao (b:Nat) (c:Array Value) (T:TypeId):Ob:=.W2 b (qG c T (0,0))
def Ob.fp:Ob->List Nat
 |.W2 b _=>[b]
 |.row v _ _ _ _=>v.ownBlock.toList
def Ob.holds (w:World):Ob->Prop
 |.W2 b o=>w.heap[b]?=U o
 |.row v e size n xs=>w.ownsRow 0 e size v n xs
def Et (L:List Ob):List Nat:=L.flatMap Ob.fp
structure Aq (w:World) (L:List Ob):Prop where
 holds:∀o,o∈L->o.holds w
 K7:(Et L).Nodup
theorem Ob.lt {o:Ob} (h:o.holds w):∀b,b∈o.fp->b<w.heap.size:=by
 cases o with
 |W2 b o=>grind [Ob.fp,Dq h]
 |row v e s n xs=>intro x hx;exact(DX h (by grind [Ob.fp])).2
theorem Ob.mod {o:Ob} (h:o.holds w) (k:Az M w w') (hd:∀b,b∈o.fp->b∉M):o.holds w':=by
 cases o with
 |W2 b o=>exact k.heap h (hd b (by simp[Ob.fp]))
 |row v e s n xs=>exact B7 h k λg hg=>hd g (by simp[Ob.fp,hg])
theorem Aq.lt (h:Aq w L):∀b,b∈Et L->b<w.heap.size:=by
 intro b hb;obtain⟨o,ho,hb⟩:=JT.1 hb;exact Ob.lt (h.holds o ho) b hb
theorem Aq.mod (h:Aq w L) (k:Az M w w') (hd:∀b,b∈Et L->b∉M):Aq w' L:=
 ⟨λo ho=>Ob.mod (h.holds o ho) k λb hb=>hd b (JT.2 AC),h.K7⟩
theorem Aq.get (h:Aq w L) {i:Nat} {o:Ob} (hi:L[i]?=U o):o.holds w:=h.holds o AC
theorem Aq.nil (w:World):Aq w []:=⟨AC,List.nodup_nil⟩
theorem Bo (A B:List Ob):Et (A++B)=Et A++Et B:=J9
theorem GV (a:Ob) (B:List Ob):Et (a::B)=a.fp++Et B:=JV
theorem iK {α:Type} {L:List α} {o:α} (hi:L[i]?=U o):∃A B,L=A++o::B/\J A=i/\∀x,L.set i x=A++x::B:=by
 obtain⟨h,rfl⟩:=Jn.1 hi;have e:L=L.take i++L[i]::L.drop (i+1):=EQ
 have hl:(L.take i).length=i:=by simp;omega
 refine⟨L.take i,L.drop (i+1),e,hl,λx=>?_⟩;rw[List.set_eq_take_append_cons_drop,Jb h]
theorem Aq.far (h:Aq w L) {i j:Nat} {o p:Ob} (hi:L[i]?=U o) (hj:L[j]?=U p) (hij:i≠j):∀b,b∈o.fp->b∉p.fp:=by
 intro b hb hp;obtain⟨A,B,e,hA,_⟩:=iK hi;have hn:=h.K7;rw[e,Bo,GV] at hn;have hpm:p∈A\/p∈B:=by
  rw[e] at hj;grind
 rw[Jt,Jt] at hn;rcases hpm with h1|h1
 .exact hn.2.2 b (JT.2 ⟨p,h1,hp⟩) b AC rfl
 .exact hn.2.1.2.2 b hb b (JT.2 ⟨p,h1,hp⟩) rfl
theorem Aq.ne (h:Aq w L) {i j:Nat} {b c:Nat} {o p:Obj} (hi:L[i]?=U (.W2 b o)) (hj:L[j]?=U (.W2 c p)) (hij:i≠j):b≠c:=by
 have:=h.far hi hj hij b (by simp[Ob.fp]);grind [Ob.fp]
theorem Aq.Aho (h:Aq w L) {i j:Nat} {b:Nat} {o:Obj} {v:Value} {e:TypeId} {s n:Nat} {xs:List Value} (hi:L[i]?=U (.W2 b o)) (hj:L[j]?=U (.row v e s n xs)) (hij:i≠j):U b≠v.ownBlock:=by
 have:=h.far hi hj hij b (by simp[Ob.fp]);grind [Ob.fp]
structure Ai (w:World) (L:List Ob) (w':World) (L':List Ob):Prop where
 Ak:Aq w' L'
 mod:Az (Et L) w w'
 fp:∀b,b∈Et L'->b∈Et L\/w.heap.size<=b
theorem Ai.refl (h:Aq w L):Ai w L w L:=⟨h,Az.refl _ _,AC⟩
theorem Ai.trans {a b c:World} {M N:List Ob} (h:Ai a L b M) (k:Ai b M c N):Ai a L c N:=
 ⟨k.Ak,h.mod.trans k.mod λx hx=>h.fp x hx,λx hx=>by
   grind [h.mod.size,Ai]⟩
theorem Ai.quiet (h:Aq w L) (k:Az [] w w'):Ai w L w' L:=⟨h.mod k EQ,k.nil,AC⟩
theorem Ai.drew (h:Aq w L):Ai w L w.drew L:=Ai.quiet h (Az.refl _ _).drew
theorem Ai.alloc (h:Aq w L) (o:Obj):Ai w L (w.alloc o) L:=Ai.quiet h ((Az.refl _ _).alloc o)
theorem Ai.new (h:Aq w L) (o:Obj):Ai w L (w.alloc o) (L++[.W2 w.heap.size o]):=by
 have h1:=(Ai.alloc h o).Ak;refine⟨⟨λp hp=>?_,?_⟩,((Az.refl _ _).alloc o),λb hb=>?_⟩
 .rcases Jp.1 hp with hp|hp
  .exact h1.holds p hp
  .rw[GE] at hp;subst hp;show(w.heap.push o)[w.heap.size]?=U o;simp
 .rw[Bo];refine Jt.2 ⟨h.K7,by simp[Et,Ob.fp],λa ha b hb=>?_⟩;have:=h.lt a ha;grind [Et,Ob.fp]
 grind [Et,Ob.fp]
theorem Aq.VU {M:List Ob} (h:Aq w L) (p:L.Perm M):Aq w M:=
 ⟨λo ho=>h.holds o (p.mem_iff.2 ho),(p.flatMap_right Ob.fp).nodup_iff.1 h.K7⟩
theorem Ai.VU {M:List Ob} (h:Aq w L) (p:L.Perm M):Ai w L w M:=
 ⟨h.VU p,Az.refl _ _,λb hb=> .inl ((p.flatMap_right Ob.fp).mem_iff.2 hb)⟩
theorem Ai.NP (h:Aq w L) (o:Obj):Ai w L (w.alloc o) (.W2 w.heap.size o::L):=
 (Ai.new h o).trans (Ai.VU (Ai.new h o).Ak (J4 (l₁:=L) (l₂:=[.W2 w.heap.size o])))
theorem Ai.frame {L' E:List Ob} (h:Aq w (L++E)) (k:Ai w L w' L'):Ai w (L++E) w' (L'++E):=by
 have hn:=h.K7;have hlt:=h.lt;rw[Bo] at hn hlt;obtain⟨n1,n2,n3⟩:=Jt.1 hn;have hE:∀b,b∈Et E->b∉Et L:=AC;refine⟨⟨λo ho=>?_,?_⟩,?_,λb hb=>?_⟩
 .rcases Jp.1 ho with h1|h1;grind [Aq,Ai]
  .exact Ob.mod (h.holds o AC) k.mod λb hb=>hE b (JT.2 AC)
 .rw[Bo];refine Jt.2 ⟨k.Ak.K7,n2,λa ha b hb Vj=>?_⟩;subst Vj;rcases k.fp a ha with h1|h1;grind
  .have:=hlt a AC;omega
 grind [k.mod.mono,Bo];grind [Bo,Ai]
theorem Ai.drop (h:Aq w (A++B++C)):Ai w (A++B++C) w (A++C):=by
 refine⟨⟨λo ho=>h.holds o ?_,?_⟩,Az.refl _ _,λb hb=> .inl ?_⟩<;>grind [Bo,Aq]
theorem Ai.AJ (h:Aq w (A++C)):Ai w (A++C) w A:=by
 have:=Ai.drop (A:=A) (B:=C) (C:=[]) (by rw[Jo];exact h);rw[Jo,Jo] at this;exact this
theorem Aq.swap {o o':Ob} (h:Aq w L) (hi:L[i]?=U o) (k:Az o.fp w w') (nf:o'.holds w') (EG:o'.fp.Nodup) (yS:∀b,b∈o'.fp->b∈o.fp\/w.heap.size<=b):Ai w L w' (L.set i o'):=by
 obtain⟨A,B,e,hA,Ace⟩:=iK hi;rw[Ace];have hn:=h.K7;have hlt:=h.lt;have hA':∀p,p∈A\/p∈B->p∈L:=λp hp=>by
  rw[e];rcases hp with hp|hp
  .exact IR _ hp
  .exact Jc _ (Id _ hp)
 rw[e,Bo,GV] at hn hlt;rw[Jt,Jt] at hn;obtain⟨n1,⟨n2,n3,n4⟩,n5⟩:=hn;have Amx:∀b,b∈Et A\/b∈Et B->b∉o.fp:=AC;have pC:∀p,p∈A\/p∈B->p.holds w':=λp hp=>Ob.mod (h.holds p (hA' p hp)) k λb hb=>Amx b (by
   rcases hp with hp|hp
   · exact .inl (JT.2 ⟨p,hp,hb⟩)
   · exact .inr (JT.2 ⟨p,hp,hb⟩))
 have Aku:∀b,b∈o'.fp->b∉Et A/\b∉Et B:=λb hb=>by
  grind [Az]
 refine⟨⟨λp hp=>?_,?_⟩,?_,λb hb=>?_⟩
 .rcases Jp.1 hp with hp|hp
  .exact pC p (.inl hp)
  .rcases Jl.1 hp with rfl|hp
   .exact nf
   .exact pC p (.inr hp)
 .rw[Bo,GV,Jt,Jt];grind
 grind [Bo,GV,Az];grind [Bo,GV]
theorem Aq.set (h:Aq w L) (hi:L[i]?=U (.Ao b c T)) (k:Nat) (v:Value):
  Ai w L (w.setCell ⟨b,k,Z⟩ v) (L.set i (.Ao b (c.setIfInBounds k v) T)):=
 h.swap hi ((Az.refl _ _).setCell (.inl (by simp[Ob.fp])) v) (Ci.set (c:=c) (T:=T) (h.get hi) k v) (by simp[Ob.fp]) (λ_ hb=> .inl hb)
theorem Aq.ET {n:Nat} (h:Aq w L) (hi:L[i]?=U (.row (m9 (U ⟨g,0,Z⟩) n cap) e size n xs)) (k:Nat) (hk:k<J xs) (v:Value):
  Ai w L (w.setCell ⟨g,k,Z⟩ v) (L.set i (.row (m9 (U ⟨g,0,Z⟩) n cap) e size n (xs.set k v))):=
 h.swap hi ((Az.refl _ _).setCell (.inl (by simp[Ob.fp,Value.ownBlock])) v) (W4 (h.get hi) k hk v) (by grind [Ob.fp]) (λ_ hb=> .inl hb)
theorem Aq.grow {n:Nat} (h:Aq w L) (hi:L[i]?=U (.row v e size n xs)) {g n' cap':Nat} {ys:List Value}
  (Cp:w'.ownsRow 0 e size (m9 (U ⟨g,0,Z⟩) n' cap') n' ys) (hg:w.grownBy w' v.ownBlock) (FE:v.ownBlock=U g\/w.heap.size<=g):
  Ai w L w' (L.set i (.row (m9 (U ⟨g,0,Z⟩) n' cap') e size n' ys)):=by
 refine h.swap hi ((Az.refl _ w).grown hg λk hk=> .inl (by simp[Ob.fp,hk])) Cp (by simp[Ob.fp,Value.ownBlock]) λb hb=>?_<;>grind [Ob.fp,Value.ownBlock]
theorem Aq.row (h:Aq w L) {i:Nat} {v:Value} {e:TypeId} {s n:Nat} {xs:List Value} (hi:L[i]?=U (.row v e s n xs)):w.ownsRow 0 e s v n xs:=h.get hi
theorem Aq.Ao (h:Aq w L) {i b:Nat} {c:Array Value} {T:TypeId} (hi:L[i]?=U (.Ao b c T)):Ci w b c T:=h.get hi
theorem Sg {o:Ob}:(A++o::B)[J A]?=U o:=EQ
theorem fL {o x:Ob}:(A++o::B).set (J A) x=A++x::B:=EQ
theorem Aq.vf {n:Nat} (h:Aq w (A++ .row (m9 (U ⟨g,0,Z⟩) n cap) e size n xs::B)) (k:Nat) (hk:k<J xs) (v:Value):
  Ai w (A++ .row (m9 (U ⟨g,0,Z⟩) n cap) e size n xs::B) (w.setCell ⟨g,k,Z⟩ v) (A++ .row (m9 (U ⟨g,0,Z⟩) n cap) e size n (xs.set k v)::B):=by
 have:=h.ET Sg k hk v;rw[fL] at this;exact this
theorem Uz {n:Nat} (h:w.ownsRow 0 e s v n xs):∃p c,v= m9 p n c/\n<=c/\c<=maxLen:=by
 rcases h.2 with⟨rfl,h0⟩|⟨g,c,Ic,rfl,_,_,h3,h4,_⟩<;>grind
def BF {α:Type} (g:List SG) (l:List (List α)):List Value:=List.zipWith (λa x=>m9 a.p (J x) a.c) g l
theorem Bu (g:List SG) (a:SG) (l:List (List α)) (x:List α) (h:J g=J l):BF (g++[a]) (l++[x])=BF g l++[m9 a.p (J x) a.c]:=by
 unfold BF;rw[Qs h];rfl
theorem Ch (g:List SG) (l:List (List α)) (h:J g=J l):(BF g l).length=J l:=by
 grind [BF]
section
variable {P:Program} {Bf:Array Oper} {Q:Exit->Act->World->Prop} {md:Region.Mode} {S:World->Prop}
def WU (md:Region.Mode) (Bf:Array Oper) (n:Nat):Bool:=
 (List.range Bf.size).all λk=>k==n || (List.range Bf.size).any λj=>decide (k<j) && match Bf[j]? with
  |some o=>o.after.any λe=>Region.binds md e && e.on==k
  |none=>I
def GD (md:Region.Mode) (Bf:Array Oper) (listed:Array Bool):Prop:=
 ∀j o,Bf[j]?=U o->listed.getD j I=V->∀e∈o.after,Region.binds md e=V->listed.getD e.on I=V
theorem GD.set (h:GD md Bf listed) (hi:i∈Region.ready md Bf listed):GD md Bf (listed.setIfInBounds i V):=by
 intro j o ho hl e he hb;obtain⟨_,oi,xp,DT⟩:=mem_ready.1 hi;refine getD_set_true ?_;by_cases hij:i=j;grind
 .rw[getD_set_ne I hij] at hl;exact h j o ho hl e he hb
theorem nX {n:Nat} (h:WU md Bf n=V) (hc:GD md Bf listed) (hn:n∈Region.ready md Bf listed):∀m k,Bf.size-k<=m->k<Bf.size->k≠n->listed.getD k I=V:=by
 intro m;induction m with
 |zero=>grind
 |succ m ih=>
  intro k hk hlt hne;have h1:=Nm.1 h k AC;simp only[QP,Q0,hne,false_or,QG,Qo,JD,JB] at h1;obtain⟨j,hj,hkj,h2⟩:=h1;cases hoj:Bf[j]? with
  |none=>rw[hoj] at h2;cases h2
  |some o=>
   rw[hoj] at h2;obtain⟨e,he,hb⟩:=Array.any_eq_true'.1 h2;simp only[JD,Q0] at hb;by_cases hjn:j=n;grind [mem_ready]
   .have:=hc j o hoj AC e he hb.1;rw[hb.2] at this;exact this
def Ow (P:Program) (md:Region.Mode) (Bf:Array Oper) (Q:Exit->Act->World->Prop) (S:World->Prop) (n:Nat):Nat->Array Bool->Act->World->Prop
 |0,listed,a,w=>Region.ready md Bf listed=[]/\Q .normal a w
 |fuel+1,listed,a,w=>
  (Region.ready md Bf listed=[]->Q .normal a w)/\
  ∀i∈Region.ready md Bf listed,wpOp P Bf Q i (λa' w'=>(i≠n->S w')/\Ow P md Bf Q S n fuel (listed.setIfInBounds i V) a' w') a w
theorem Tj {n:Nat}:∀(fuel:Nat) (listed:Array Bool) (a:Act) (w:World),Ow P md Bf Q S n fuel listed a w->wpAny P md Bf Q fuel listed a w
 |0,_,_,_,h=>h
 |fuel+1,_,_,_,h=>⟨h.1,λi hi=>wpOp_mono (λa' w' h'=>Tj fuel _ a' w' h'.2) (h.2 i hi)⟩
theorem Un {n:Nat} (hsn:WU md Bf n=V) (Pv:i≠n) (hi:Bf[i]?=U oi) (hsel:∀(j:Nat) (o:Oper) cs b,Bf[j]?=U o->o.op≠ .select cs b)
  (hQ:∀c a w,Q (.panic c) (a.put oi.dst v) w->Q (.panic c) a w):
  ∀(fuel:Nat) (listed:Array Bool) (a:Act) (w:World),GD md Bf listed->
   (∀j oj,Bf[j]?=U oj->j≠i->listed.getD j V=I->(∀e∈oj.after,Region.binds md e=V->e.on≠i)->oi.apart Bf oj=V)->
   i∈Region.ready md Bf listed->YieldsIf P Bf S oi v a->S w->
   Ow P md Bf Q S n fuel (listed.setIfInBounds i V) (a.put oi.dst v) w->Ow P md Bf Q S n (fuel+1) listed a w:=by
 intro fuel;induction fuel with
 |zero=>
  exact maY
 |succ fuel ih=>
  intro listed a w B8 Xf hr hy hS H;refine⟨AC,λj hj=>?_⟩;by_cases xr:j=i
  .subst xr;exact hy.wpOp hi hS AC
  .have hjn:j≠n:=by
    rintro rfl;have hlt:i<Bf.size:=AC;have h1:=nX hsn B8 hj _ i (Jf _) hlt Pv;have h0:=(mem_ready.1 hr).1;grind
   exact mao
def BN (P:Program) (Bf:Array Oper) (Q:Exit->Act->World->Prop) (S:World->Prop):List (Nat×Bool)->Act->World->Prop
 |[],a,w=>Q .normal a w
 |(i,V)::rest,a,w=>∃o v,Bf[i]?=U o/\YieldsIf P Bf S o v a/\BN P Bf Q S rest (a.put o.dst v) w
 |(i,I)::rest,a,w=>wpOp P Bf Q i (λa' w'=>(rest≠[]->S w')/\BN P Bf Q S rest a' w') a w
def SW (md:Region.Mode) (Bf:Array Oper) (n:Nat):List (Nat×Bool)->Array Bool->Bool
 |[],listed=>(Region.ready md Bf listed).isEmpty
 |(i,V)::rest,listed=>i !=n && !rest.isEmpty && (Region.ready md Bf listed).contains i && Region.free md Bf listed i && SW md Bf n rest (listed.setIfInBounds i V)
 |(i,I)::rest,listed=>(Region.ready md Bf listed==[i]) && (rest.isEmpty==(i==n)) && SW md Bf n rest (listed.setIfInBounds i V)
theorem Ko {n:Nat} (hsn:WU md Bf n=V) (hsel:Region.noSelect Bf=V) (hQ:∀c a d v w,Q (.panic c) (Act.put a d v) w->Q (.panic c) a w):
  ∀(l:List (Nat×Bool)) (listed:Array Bool) (a:Act) (w:World),GD md Bf listed->SW md Bf n l listed=V->(l≠[]->S w)->BN P Bf Q S l a w->Ow P md Bf Q S n (J l) listed a w
 |[],listed,a,w,_,hk,_,h=>⟨by simpa[SW] using hk,h⟩
 |(i,V)::rest,listed,a,w,B8,hk,hS,h=>by
  simp only[SW,JD,bne_iff_ne,ne_eq,Bool.not_eq_true',List.contains_iff_mem] at hk;obtain⟨⟨⟨⟨h1,h2⟩,h3⟩,h4⟩,h5⟩:=hk;obtain⟨o,v,ho,hy,hr⟩:=h;have hS':=hS EQ;exact Un hsn h1 ho (Region.noSelect_spec hsel) (λc a w=>hQ c a _ _ w) _ listed a w B8 (Region.free_spec ho h4) (by simpa using h3) hy hS'
   (Ko hsn hsel hQ rest _ _ w (B8.set (by simpa using h3)) h5 (λ_=>hS') hr)
 |(i,I)::rest,listed,a,w,B8,hk,hS,h=>by
  simp only[SW,JD,Q0] at hk;obtain⟨⟨h1,h2⟩,h3⟩:=hk;refine⟨λh0=>(by rw[h1] at h0;cases h0),λj hj=>?_⟩;rw[h1] at hj;obtain rfl:=GE.1 hj;refine wpOp_mono (λa' w' hh=>⟨λhjn=>hh.1 λhr=>?_,Ko hsn hsel hQ rest _ a' w' (B8.set (by rw[h1];exact GE.2 rfl)) h3 hh.1 hh.2⟩) h;rw[hr] at h2;simp at h2;exact hjn h2
theorem Cf {id:Nat} {l:List (Nat×Bool)} (S:World->Prop) (n:Nat) (hS:S w.drew) (h:BN P Bf Q S l a w.drew) (hm:P.follows .mixedOrders=V:=by kernel_rfl) (hlen:J l=Bf.size:=by kernel_rfl) (hsn:WU .any Bf n=V:=by kernel_rfl) (hsel:Region.noSelect Bf=V:=by kernel_rfl)
  (hk:SW .any Bf n l (Array.replicate Bf.size I)=V:=by kernel_rfl) (hQ:∀c a d v w,Q (.panic c) (Act.put a d v) w->Q (.panic c) a w:=by (intro c a d v w h;cases d<;>exact h)):(Code.region id Bf V).wp P Q a w:=by
 refine wp_region_any hm ?_;have:=Tj _ _ _ _ (Ko hsn hsel hQ l _ a w.drew (λj o _ hl=>by
   rw[QC,Q9] at hl;split at hl<;>cases hl) hk AC h)
 rw[hlen] at this;exact this
def sq (e:List Nat):Nat->Nat->List (Nat×Bool)
 |i,0=>[(i,I)]
 |i,n+1=>(i,!e.contains i)::sq e (i+1) n
theorem AF {id:Nat} (e:List Nat) (n:Nat) (S:World->Prop) (hS:S w.drew) (h:BN P Bf Q S (sq e 0 n) a w.drew) (hm:P.follows .mixedOrders=V:=by kernel_rfl) (hlen:(sq e 0 n).length=Bf.size:=by kernel_rfl) (hsn:WU .any Bf n=V:=by kernel_rfl) (hsel:Region.noSelect Bf=V:=by kernel_rfl)
  (hk:SW .any Bf n (sq e 0 n) (Array.replicate Bf.size I)=V:=by kernel_rfl) (hQ:∀c a d v w,Q (.panic c) (Act.put a d v) w->Q (.panic c) a w:=by (intro c a d v w h;cases d<;>exact h)):(Code.region id Bf V).wp P Q a w:=Cf S n hS h hm hlen hsn hsel hk hQ
theorem I9 (ho:Bf[i]?=U o) (hd:o.dst=U d) (hg:Region.wanted o (yielded Bf a.tmps)=V)
  (hv:∀W,S W->(execOp a.eval o).run P W=.ok (.value v) W) (h:BN P Bf Q S rest ⟨a.tmps.setIfInBounds d v,a.defers⟩ w):BN P Bf Q S ((i,V)::rest) a w:=
 ⟨o,v,ho,.inl AC,by unfold Act.put;rw[hd];exact h⟩
theorem Yc (ho:Bf[i]?=U o) (hd:o.dst=U d) (hg:Region.wanted o (yielded Bf a.tmps)=I)
  (h:BN P Bf Q S rest ⟨a.tmps.setIfInBounds d undef,a.defers⟩ w):BN P Bf Q S ((i,V)::rest) a w:=⟨o,undef,ho,.inr AC,by unfold Act.put;rw[hd];exact h⟩
theorem D3 {l:List (Nat×Bool)} {dst:Option Tmp} (hd:dst=U d) (h:BN P Bf Q S l ⟨a.tmps.setIfInBounds d v,a.defers⟩ w):BN P Bf Q S l (a.put dst v) w:=by
 unfold Act.put;rw[hd];exact h
theorem AI (ho:Bf[i]?=U o)
  (h:∀K:Act->World->Prop,(∀a' w',(rest≠[]->S w')->BN P Bf Q S rest a' w'->K a' w')->if Region.wanted o (yielded Bf a.tmps)=V then Oper.wp P o a w K Q else K (a.put o.dst undef) w):
  BN P Bf Q S ((i,I)::rest) a w:=by
 have h1:=h (λa' w'=>(rest≠[]->S w')/\BN P Bf Q S rest a' w') AC;unfold BN wpOp;rw[ho];grind
end
theorem FH:(∀(l:List Value) (i:Nat) (v:Value),l.toArray.setIfInBounds i v=(l.set i v).toArray)/\(∀(x:Value) (xs:List Value) (n:Nat) (a:Value),(x::xs).set (n+1) a=x::xs.set n a)/\∀(x:Value) (xs:List Value) (a:Value),(x::xs).set 0 a=a::xs:=AC
theorem Od (k:Q') (h:RowKit.Hid Q'->P':=by
  intro zk;repeat
    refine I9 (v:= ?_) rfl rfl rfl (λW hW=>?_) ?_;rotate_left
    · repeat (obtain⟨_,hW⟩:=hW)
      go_simp;rfl
    simp only[FH]
  exact zk.out):P':=h k
theorem Ds (k:Q') (h:RowKit.Hid Q'->P':=by
  intro zk;refine Od ?_;refine AI rfl (λzK hK=>?_);go_simp
  revert zK
  exact zk.out):P':=h k
section
variable {P:Program} {Bf:Array Oper} {Q:Exit->Act->World->Prop} {md:Region.Mode} {S:World->Prop}
def Tl (md:Region.Mode) (Bf:Array Oper) (j k:Nat):Bool:=match Bf[j]? with
 |some o=>o.after.any λe=>Region.binds md e && e.on==k
 |none=>I
def Uw (md:Region.Mode) (Bf:Array Oper) (n:Nat):Bool:=
 ((List.range n).all λk=>(List.range (n+1)).any λj=>decide (k<j) && Tl md Bf j k) &&
 (List.range Bf.size).all λj=>decide (j<=n) || (List.range j).any λi=>decide (n<=i) && Tl md Bf j i
theorem Ox (hc:GD md Bf listed) {j k:Nat} (h:Tl md Bf j k=V) (hj:listed.getD j I=V):listed.getD k I=V:=by
 unfold Tl at h;cases hoj:Bf[j]? with
 |none=>rw[hoj] at h;cases h
 |some o=>
  rw[hoj] at h;obtain⟨e,he,hb⟩:=Array.any_eq_true'.1 h;simp only[JD,Q0] at hb;have:=hc j o hoj hj e he hb.1;rw[hb.2] at this;exact this
theorem WK (h:Tl md Bf j k=V) (hj:j∈Region.ready md Bf listed):listed.getD k I=V:=by
 grind [Tl,mem_ready]
theorem WT {n:Nat} (h:Uw md Bf n=V) (hc:GD md Bf listed) (hn:∀k,Tl md Bf n k=V->listed.getD k I=V):∀m k,n-k<=m->k<n->listed.getD k I=V:=by
 unfold Uw at h;rw[JD] at h;intro m;induction m with
 |zero=>grind
 |succ m ih=>
  intro k hk hlt;have h1:=Nm.1 h.1 k AC;simp only[QG,Qo,JD,JB] at h1;grind [Ox]
theorem Aal {n:Nat} (h:Uw md Bf n=V) (hc:GD md Bf listed):∀m j,j<=m->n<=j->j<Bf.size->listed.getD j I=V->listed.getD n I=V:=by
 have h0:=h;unfold Uw at h;rw[JD] at h;intro m;induction m with
 |zero=>grind
 |succ m ih=>
  intro j hj hnj hjs hl;have h1:=Nm.1 h.2 j (Qo.2 hjs);simp only[QP,JB,QG,Qo,JD] at h1;rcases h1 with h1|⟨i,hi,hni,h2⟩
  .have:j=n:=Y
   rw[<-this];exact hl
  .exact ih i Y hni Y (Ox hc h2 hl)
theorem iM {n:Nat} (h:Uw md Bf n=V) (hc:GD md Bf listed) (hj:j∈Region.ready md Bf listed) (hnj:n<=j):∀k,k<n->listed.getD k I=V:=by
 intro k hk;by_cases hjn:j=n
 .subst hjn;exact WT h hc (λk hk=>WK hk hj) _ k (Jf _) hk
 .have h0:=h;unfold Uw at h0;rw[JD] at h0;obtain⟨_,o,ho,_⟩:=mem_ready.1 hj;have hjs:j<Bf.size:=(Array.getElem?_eq_some_iff.1 ho).1;have h1:=Nm.1 h0.2 j (Qo.2 hjs);simp only[QP,JB,QG,Qo,JD] at h1;rcases h1 with h1|⟨i,hi,hni,h2⟩
  .omega
  .have hl:=Aal h hc i i (Jf _) hni Y (WK h2 hj);exact WT h hc (λk hk=>Ox hc hk hl) _ k (Jf _) hk
def Ye (P:Program) (md:Region.Mode) (Bf:Array Oper) (Q:Exit->Act->World->Prop) (S:World->Prop) (n:Nat):Nat->Array Bool->Act->World->Prop
 |0,listed,a,w=>Region.ready md Bf listed=[]/\Q .normal a w
 |fuel+1,listed,a,w=>
  (Region.ready md Bf listed=[]->Q .normal a w)/\
  ∀i∈Region.ready md Bf listed,wpOp P Bf Q i (λa' w'=>(i<n->S w')/\Ye P md Bf Q S n fuel (listed.setIfInBounds i V) a' w') a w
theorem Yd {n:Nat}:∀(fuel:Nat) (listed:Array Bool) (a:Act) (w:World),Ye P md Bf Q S n fuel listed a w->wpAny P md Bf Q fuel listed a w
 |0,_,_,_,h=>h
 |fuel+1,_,_,_,h=>⟨h.1,λi hi=>wpOp_mono (λa' w' h'=>Yd fuel _ a' w' h'.2) (h.2 i hi)⟩
theorem eR {n:Nat} (hsn:Uw md Bf n=V) (Pv:i<n) (hi:Bf[i]?=U oi) (hsel:∀(j:Nat) (o:Oper) cs b,Bf[j]?=U o->o.op≠ .select cs b)
  (hQ:∀c a w,Q (.panic c) (a.put oi.dst v) w->Q (.panic c) a w):
  ∀(fuel:Nat) (listed:Array Bool) (a:Act) (w:World),GD md Bf listed->
   (∀j oj,Bf[j]?=U oj->j≠i->listed.getD j V=I->(∀e∈oj.after,Region.binds md e=V->e.on≠i)->oi.apart Bf oj=V)->
   i∈Region.ready md Bf listed->YieldsIf P Bf S oi v a->S w->
   Ye P md Bf Q S n fuel (listed.setIfInBounds i V) (a.put oi.dst v) w->Ye P md Bf Q S n (fuel+1) listed a w:=by
 intro fuel;induction fuel with
 |zero=>
  exact maY
 |succ fuel ih=>
  intro listed a w B8 Xf hr hy hS H;refine⟨AC,λj hj=>?_⟩;by_cases xr:j=i
  .subst xr;exact hy.wpOp hi hS AC
  .have hjn:j<n:=by
    grind [iM,mem_ready]
   exact mao
def Cr (P:Program) (Bf:Array Oper) (Q:Exit->Act->World->Prop) (S:World->Prop) (n:Nat):List (Nat×Bool)->Act->World->Prop
 |[],a,w=>Q .normal a w
 |(i,V)::rest,a,w=>∃o v,Bf[i]?=U o/\YieldsIf P Bf S o v a/\Cr P Bf Q S n rest (a.put o.dst v) w
 |(i,I)::rest,a,w=>wpOp P Bf Q i (λa' w'=>(i<n->S w')/\Cr P Bf Q S n rest a' w') a w
def Ts (md:Region.Mode) (Bf:Array Oper) (n:Nat):List (Nat×Bool)->Array Bool->Bool
 |[],listed=>(Region.ready md Bf listed).isEmpty
 |(i,V)::rest,listed=>decide (i<n) && (Region.ready md Bf listed).contains i && Region.free md Bf listed i && Ts md Bf n rest (listed.setIfInBounds i V)
 |(i,I)::rest,listed=>(Region.ready md Bf listed==[i]) && (decide (i<n) || rest.all λx=> !x.2) && Ts md Bf n rest (listed.setIfInBounds i V)
theorem M8 {n:Nat} (hsn:Uw md Bf n=V) (hsel:Region.noSelect Bf=V) (hQ:∀c a d v w,Q (.panic c) (Act.put a d v) w->Q (.panic c) a w):
  ∀(l:List (Nat×Bool)) (listed:Array Bool) (a:Act) (w:World),GD md Bf listed->Ts md Bf n l listed=V->((l.any λx=>x.2)=V->S w)->Cr P Bf Q S n l a w->Ye P md Bf Q S n (J l) listed a w
 |[],listed,a,w,_,hk,_,h=>⟨by simpa[Ts] using hk,h⟩
 |(i,V)::rest,listed,a,w,B8,hk,hS,h=>by
  simp only[Ts,JD,JB,List.contains_iff_mem] at hk;obtain⟨⟨⟨h1,h3⟩,h4⟩,h5⟩:=hk;obtain⟨o,v,ho,hy,hr⟩:=h;have hS':=hS EQ;exact eR hsn h1 ho (Region.noSelect_spec hsel) (λc a w=>hQ c a _ _ w) _ listed a w B8 (Region.free_spec ho h4) (by simpa using h3) hy hS'
   (M8 hsn hsel hQ rest _ _ w (B8.set (by simpa using h3)) h5 (λ_=>hS') hr)
 |(i,I)::rest,listed,a,w,B8,hk,hS,h=>by
  simp only[Ts,JD,Q0,QP,JB] at hk;obtain⟨⟨h1,h2⟩,h3⟩:=hk;refine⟨λh0=>(by rw[h1] at h0;cases h0),λj hj=>?_⟩;rw[h1] at hj;obtain rfl:=GE.1 hj;refine wpOp_mono (λa' w' hh=>⟨hh.1,M8 hsn hsel hQ rest _ a' w' (B8.set (by rw[h1];exact GE.2 rfl)) h3 (λAmI=>?_) hh.2⟩) h;rcases h2 with h2|h2
  .exact hh.1 h2
  .exfalso;obtain⟨x,hx,hx2⟩:=QG.1 AmI;have:=Nm.1 h2 x hx;rw[hx2] at this;cases this
theorem AO {id:Nat} {l:List (Nat×Bool)} (S:World->Prop) (n:Nat) (hS:S w.drew) (h:Cr P Bf Q S n l a w.drew) (hm:P.follows .mixedOrders=V:=by kernel_rfl) (hlen:J l=Bf.size:=by kernel_rfl) (hsn:Uw .any Bf n=V:=by kernel_rfl) (hsel:Region.noSelect Bf=V:=by kernel_rfl)
  (hk:Ts .any Bf n l (Array.replicate Bf.size I)=V:=by kernel_rfl) (hQ:∀c a d v w,Q (.panic c) (Act.put a d v) w->Q (.panic c) a w:=by (intro c a d v w h;cases d<;>exact h)):(Code.region id Bf V).wp P Q a w:=by
 refine wp_region_any hm ?_;have:=Yd _ _ _ _ (M8 hsn hsel hQ l _ a w.drew (λj o _ hl=>by
   rw[QC,Q9] at hl;split at hl<;>cases hl) hk AC h)
 rw[hlen] at this;exact this
theorem nt {n:Nat} (ho:Bf[i]?=U o) (hd:o.dst=U d) (hg:Region.wanted o (yielded Bf a.tmps)=V)
  (hv:∀W,S W->(execOp a.eval o).run P W=.ok (.value v) W) (h:Cr P Bf Q S n rest ⟨a.tmps.setIfInBounds d v,a.defers⟩ w):Cr P Bf Q S n ((i,V)::rest) a w:=
 ⟨o,v,ho,.inl AC,by unfold Act.put;rw[hd];exact h⟩
theorem A7 {n:Nat} (ho:Bf[i]?=U o)
  (h:∀K:Act->World->Prop,(∀a' w',(i<n->S w')->Cr P Bf Q S n rest a' w'->K a' w')->if Region.wanted o (yielded Bf a.tmps)=V then Oper.wp P o a w K Q else K (a.put o.dst undef) w):
  Cr P Bf Q S n ((i,I)::rest) a w:=by
 have h1:=h (λa' w'=>(i<n->S w')/\Cr P Bf Q S n rest a' w') AC;unfold Cr wpOp;rw[ho];grind
end
theorem Fg (k:Q') (h:RowKit.Hid Q'->P':=by
  intro zk;repeat
    refine nt (v:= ?_) rfl rfl rfl (λW hW=>?_) ?_;rotate_left
    · repeat (obtain⟨_,hW⟩:=hW)
      go_simp;rfl
    simp only[FH]
  exact zk.out):P':=h k
section
variable {P:Program} {Bf:Array Oper} {Q:Exit->Act->World->Prop} {md:Region.Mode} {S:World->Prop}
def uM (P:Program) (Bf:Array Oper) (Q:Exit->Act->World->Prop) (S:World->Prop) (R:Act->World->Prop):Nat->List Nat->List Nat->Act->World->Prop
 |0,_,_,a,w=>R a w
 |f+1,cs,al,a,w=>(∀c cs',cs=c::cs'->wpOp P Bf Q c (λa' w'=>S w'/\uM P Bf Q S R f cs' al a' w') a w)/\(∀i,i∈al->wpOp P Bf Q i (λa' w'=>S w'/\uM P Bf Q S R f cs (al.erase i) a' w') a w)
def AcN (md:Region.Mode) (Bf:Array Oper) (k:Array Bool->Bool):Nat->List Nat->List Nat->Array Bool->Bool
 |0,_,_,listed=>k listed
 |f+1,cs,al,listed=>(Region.ready md Bf listed).all (λi=>cs.head?==U i || al.contains i) && !(Region.ready md Bf listed).isEmpty
   && (match cs with|c::cs'=> !(Region.ready md Bf listed).contains c || AcN md Bf k f cs' al (listed.setIfInBounds c V)|[]=>V) && al.all (λi=> !(Region.ready md Bf listed).contains i || AcN md Bf k f cs (al.erase i) (listed.setIfInBounds i V))
theorem eS {n m:Nat} {k:Array Bool->Bool} (hR:∀listed a w,k listed=V->GD md Bf listed->S w->R a w->Ow P md Bf Q S n m listed a w):
  ∀(f:Nat) (cs al:List Nat) (listed:Array Bool) (a:Act) (w:World),GD md Bf listed->AcN md Bf k f cs al listed=V->S w->uM P Bf Q S R f cs al a w->Ow P md Bf Q S n (f+m) listed a w:=by
 intro f;induction f with
 |zero=>intro cs al listed a w B8 hk hS h;rw[JH];exact hR listed a w hk B8 hS h
 |succ f ih=>
  intro cs al listed a w B8 hk hS h;rw[show f+1+m=(f+m)+1 by omega];simp only[AcN,JD,Bool.not_eq_true'] at hk;obtain⟨⟨⟨h1,h2⟩,h3⟩,h4⟩:=hk;refine⟨AC,λi hi=>?_⟩;have hi1:=Nm.1 h1 i hi;have hic:(Region.ready md Bf listed).contains i=V:=AC
  by_cases hia:i∈al
  .have:=Nm.1 h4 i hia;rw[hic] at this;simp only[Bool.not_true,jD] at this;exact wpOp_mono (λa' w' hh=>⟨AC,ih _ _ _ a' w' (B8.set hi) this hh.1 hh.2⟩) (h.2 i hia)
  .have hc:cs.head?=U i:=by
    grind
   cases cs with
   |nil=>cases hc
   |cons c cs'=>
    simp only[jZ,Option.some.injEq] at hc;subst hc;simp only[hic,Bool.not_true,jD] at h3;exact wpOp_mono (λa' w' hh=>⟨AC,ih _ _ _ a' w' (B8.set hi) h3 hh.1 hh.2⟩) (h.1 c cs' rfl)
def WH (P:Program) (Bf:Array Oper) (S:World->Prop) (R:Act->World->Prop):List Nat->Act->World->Prop
 |[],a,w=>R a w
 |i::rest,a,w=>∃o v,Bf[i]?=U o/\YieldsIf P Bf S o v a/\WH P Bf S R rest (a.put o.dst v) w
def sG (md:Region.Mode) (Bf:Array Oper) (n:Nat) (k:Array Bool->Bool):List Nat->Array Bool->Bool
 |[],listed=>k listed
 |i::rest,listed=>i !=n && (Region.ready md Bf listed).contains i && Region.free md Bf listed i && sG md Bf n k rest (listed.setIfInBounds i V)
theorem SS {n m:Nat} {R:Act->World->Prop} {k:Array Bool->Bool} (hsn:WU md Bf n=V) (hsel:Region.noSelect Bf=V) (hQ:∀c a d v w,Q (.panic c) (Act.put a d v) w->Q (.panic c) a w)
  (hR:∀listed a w,k listed=V->GD md Bf listed->S w->R a w->Ow P md Bf Q S n m listed a w):
  ∀(l:List Nat) (listed:Array Bool) (a:Act) (w:World),GD md Bf listed->sG md Bf n k l listed=V->S w->WH P Bf S R l a w->Ow P md Bf Q S n (J l+m) listed a w
 |[],listed,a,w,B8,hk,hS,h=>by rw[Jw,JH];exact hR listed a w hk B8 hS h
 |i::rest,listed,a,w,B8,hk,hS,h=>by
  simp only[sG,JD,bne_iff_ne,ne_eq] at hk;obtain⟨⟨⟨h1,h3⟩,h4⟩,h5⟩:=hk;obtain⟨o,v,ho,hy,hr⟩:=h;rw[show(i::rest).length+m=(J rest+m)+1 by simp;omega];have h3':i∈Region.ready md Bf listed:=AC
  exact Un hsn h1 ho (Region.noSelect_spec hsel) AC _ listed a w B8 (Region.free_spec ho h4) h3' hy hS
   (SS hsn hsel hQ hR rest _ _ w (B8.set h3') h5 hS hr)
theorem Ov {id:Nat} (l1 cs al:List Nat) (l2:List (Nat×Bool)) (S:World->Prop) (n:Nat) (hS:S w.drew)
  (h:WH P Bf S (λa w=>uM P Bf Q S (λa w=>BN P Bf Q S l2 a w) (J cs+J al) cs al a w) l1 a w.drew) (hm:P.follows .mixedOrders=V:=by kernel_rfl) (hlen:J l1+((J cs+J al)+J l2)=Bf.size:=by kernel_rfl) (hsn:WU .any Bf n=V:=by kernel_rfl) (hsel:Region.noSelect Bf=V:=by kernel_rfl)
  (hk:sG .any Bf n (AcN .any Bf (SW .any Bf n l2) (J cs+J al) cs al) l1 (Array.replicate Bf.size I)=V:=by kernel_rfl) (hQ:∀c a d v w,Q (.panic c) (Act.put a d v) w->Q (.panic c) a w:=by (intro c a d v w h;cases d<;>exact h)):(Code.region id Bf V).wp P Q a w:=by
 refine wp_region_any hm ?_;have:=Tj _ _ _ _ (SS (n:=n) hsn hsel hQ (λlisted a w hk B8 hS h=>eS (λlisted a w hk B8 hS h=>Ko hsn hsel hQ l2 listed a w B8 hk AC h) _ cs al listed a w B8 hk hS h) l1 _ a w.drew (λj o _ hl=>by
   rw[QC,Q9] at hl;split at hl<;>cases hl) hk hS h)
 rw[hlen] at this;exact this
theorem Lw {rest:List Nat} (ho:Bf[i]?=U o) (hd:o.dst=U d) (hg:Region.wanted o (yielded Bf a.tmps)=V)
  (hv:∀W,S W->(execOp a.eval o).run P W=.ok (.value v) W) (h:WH P Bf S R rest ⟨a.tmps.setIfInBounds d v,a.defers⟩ w):WH P Bf S R (i::rest) a w:=
 ⟨o,v,ho,.inl AC,by unfold Act.put;rw[hd];exact h⟩
theorem uL (ho:Bf[i]?=U o) (h:if Region.wanted o (yielded Bf a.tmps)=V then Oper.wp P o a w K Q else K (a.put o.dst undef) w):wpOp P Bf Q i K a w:=by
 unfold wpOp;rw[ho];grind
theorem zw (Z97:List Nat->List Nat->Act->World->Prop) (hc:∀c cs al a w,Z97 (c::cs) al a w->wpOp P Bf Q c (λa' w'=>S w'/\Z97 cs al a' w') a w)
  (ha:∀cs al i a w,i∈al->Z97 cs al a w->wpOp P Bf Q i (λa' w'=>S w'/\Z97 cs (al.erase i) a' w') a w) (he:∀a w,Z97 [] [] a w->R a w):
  ∀(f:Nat) (cs al:List Nat) (a:Act) (w:World),J cs+J al=f->Z97 cs al a w->uM P Bf Q S R f cs al a w:=by
 intro f;induction f with
 |zero=>
  intro cs al a w hf h;have h1:cs=[]:=Jm Y;have h2:al=[]:=Jm Y;subst h1;subst h2;exact he a w h
 |succ f ih=>
  intro cs al a w hf h;refine⟨λc cs' e=>?_,λi hi=>?_⟩
  .subst e;exact wpOp_mono AC (hc c cs' al a w h)
  .exact wpOp_mono AC (ha cs al i a w hi h)
theorem VK {σ:Type} {T:Array Value} {Z95:List Deferred} (mk:Array Value->σ->Array Value) (Z96:List Nat->List Nat->σ->World->Prop)
  (hc:∀c cs al s w,Z96 (c::cs) al s w->wpOp P Bf Q c (λa' w'=>S w'/\∃s',a'=⟨mk T s',Z95⟩/\Z96 cs al s' w') ⟨mk T s,Z95⟩ w)
  (ha:∀cs al i s w,i∈al->Z96 cs al s w->wpOp P Bf Q i (λa' w'=>S w'/\∃s',a'=⟨mk T s',Z95⟩/\Z96 cs (al.erase i) s' w') ⟨mk T s,Z95⟩ w)
  (he:∀s w,Z96 [] [] s w->R ⟨mk T s,Z95⟩ w) {f:Nat} {cs al:List Nat} {w:World} (hf:J cs+J al=f) (s0:σ) (h0:mk T s0=T) (h:Z96 cs al s0 w):uM P Bf Q S R f cs al ⟨T,Z95⟩ w:=by
 refine zw (Z97:=λcs al a w=>∃s,a=⟨mk T s,Z95⟩/\Z96 cs al s w) ?_ ?_ ?_ f cs al _ w hf AC
 .rintro c cs al a w ⟨s,rfl,h⟩;exact hc c cs al s w h
 .rintro cs al i a w hi ⟨s,rfl,h⟩;exact ha cs al i s w hi h
 grind
end
theorem A4 {n:Nat} (h:w.ownsRow 0 e s (m9 (U ⟨g,0,Z⟩) n cap) n xs):(∀i,(hi:i<J xs)->w.cell? ⟨g,i,Z⟩=U xs[i])/\(∀i,w.frozen? ⟨g,i,Z⟩=I)/\g<w.heap.size:=by
 obtain⟨hl,⟨hv,h0⟩|⟨g',cap',Ic,hv,h1,h2,h3,h4,h5,h6⟩⟩:=h
 .cases hv
 .cases hv;refine⟨λi hi=>?_,λi=>Ci.free (c:=Ic) (T:=e) h2 i,AC⟩;rw[Ci.cell (c:=Ic) (T:=e) h2];grind
theorem BV {n:Nat} (bytes:Nat) (s x:Operand) (t:TypeId) (i:TypeInfo) (z:Value) (cs:Array Value) (te:TypeId)
  (hL:Aq w L) (hk:L[k]?=U (.row v e size n xs))
  (hgd:o.guard=Z) (ho:o.op=.call {callee:=.builtin .append,args:= #[s,x],argTypes:= #[t,t]})
  (ht:P.underlying t=U (.slice e)) (hi:P.info? e=U i) (hz:i.zero=U z) (Rl:i.size=size) (hby:i.bytes=bytes) (hzs:z.cells.size=size) (Gp:0<size)
  (hs:a.eval s=v) (hx:a.eval x= m9 (U ⟨w.heap.size,0,Z⟩) 1 1) (hl:cs.size=size) (h1:∀u∈cs.toList,u.oneCell'=V)
  (h63:n+1<=maxLen) (L8:(n+1)*bytes<=140737488355328)
  (h:∀g cap w',Ai w L w' (L.set k (.row (m9 (U ⟨g,0,Z⟩) (n+1) cap) e size (n+1) (xs++cs.toList)))->(∀b,b<w.heap.size->U b≠v.ownBlock->w'.heap[b]?=w.heap[b]?)->K (a.put o.dst (m9 (U ⟨g,0,Z⟩) (n+1) cap)) w'):
  if Region.wanted o (yielded Bf a.tmps)=V then Oper.wp P o a (w.alloc (qG cs te)).drew K Q else E:=by
 have EX:=hL.row hk;have Vg:(w.alloc (qG cs te)).drew.heap[w.heap.size]?=U (qG cs te (0,0)):=Ci.new w cs te;have pr:(w.alloc (qG cs te)).drew.heap.size=w.heap.size+1:=by show(w.heap.push _).size=_;simp
 refine step_append_lies _ hgd s x t ho 0 e i z size bytes ht hi hz Rl hby hzs Gp v n xs hs (Ll (DY EX _)) ⟨w.heap.size,0,Z⟩ 1 1 cs.toList hx AC (Qz Vg) h1 Y h63 L8 AC (w.heap.size+1) pr ?_;intro g cap w' Cp EH FE hlt;have s1:Ai w L (w.alloc (qG cs te)).drew L:=(Ai.alloc hL (qG cs te)).trans (Ai.drew (Ai.alloc hL _).Ak);refine h g cap w' (s1.trans (s1.Ak.grow hk Cp EH ?_)) λb hb hv=>?_
 grind
 .rw[EH.block b (by rw[pr];omega) hv];exact Below.heap_alloc w (qG cs te) b hb
theorem Bm {rest:List Oper} {n:Nat} (bytes:Nat) (s x:Operand) (t:TypeId) (i:TypeInfo) (z:Value) (cs:Array Value) (te:TypeId)
  (hL:Aq w L) (hk:L[k]?=U (.row v e size n xs))
  (hgd:o.guard=Z) (ho:o.op=.call {callee:=.builtin .append,args:= #[s,x],argTypes:= #[t,t]})
  (ht:P.underlying t=U (.slice e)) (hi:P.info? e=U i) (hz:i.zero=U z) (Rl:i.size=size) (hby:i.bytes=bytes) (hzs:z.cells.size=size) (Gp:0<size)
  (hs:a.eval s=v) (hx:a.eval x= m9 (U ⟨w.heap.size,0,Z⟩) 1 1) (hl:cs.size=size) (h1:∀u∈cs.toList,u.oneCell'=V)
  (h63:n+1<=maxLen) (L8:(n+1)*bytes<=140737488355328)
  (h:∀g cap w',Ai w L w' (L.set k (.row (m9 (U ⟨g,0,Z⟩) (n+1) cap) e size (n+1) (xs++cs.toList)))->(∀b,b<w.heap.size->U b≠v.ownBlock->w'.heap[b]?=w.heap[b]?)->wpList P Bf Q rest (a.put o.dst (m9 (U ⟨g,0,Z⟩) (n+1) cap)) w'):
  wpList P Bf Q (o::rest) a (w.alloc (qG cs te)):=by
 have EX:=hL.row hk;have Vg:(w.alloc (qG cs te)).heap[w.heap.size]?=U (qG cs te (0,0)):=Ci.new w cs te;have pr:(w.alloc (qG cs te)).heap.size=w.heap.size+1:=by show(w.heap.push _).size=_;simp
 refine wpList_append_lies _ hgd s x t ho 0 e i z size bytes ht hi hz Rl hby hzs Gp v n xs hs (DY EX _) ⟨w.heap.size,0,Z⟩ 1 1 cs.toList hx AC (Qz Vg) h1 Y h63 L8 AC (w.heap.size+1) pr ?_;intro g cap w' Cp EH FE hlt;have s1:Ai w L (w.alloc (qG cs te)) L:=Ai.alloc hL (qG cs te);refine h g cap w' (s1.trans (s1.Ak.grow hk Cp EH ?_)) λb hb hv=>?_
 grind;grind [EH.block,Below.heap_alloc]
theorem Ke {rest:List Oper} {n:Nat} (bytes:Nat) (s x:Operand) (t:TypeId) (i:TypeInfo) (z:Value) (cs:Array Value) (te:TypeId) (H:Nat) (hH:w.heap.size=H)
  (hL:Aq w L) (hk:L[k]?=U (.row v e size n xs))
  (hgd:o.guard=Z) (ho:o.op=.call {callee:=.builtin .append,args:= #[s,x],argTypes:= #[t,t]})
  (ht:P.underlying t=U (.slice e)) (hi:P.info? e=U i) (hz:i.zero=U z) (Rl:i.size=size) (hby:i.bytes=bytes) (hzs:z.cells.size=size) (Gp:0<size)
  (hs:a.eval s=v) (hx:a.eval x= m9 (U ⟨H,0,Z⟩) 1 1) (hl:cs.size=size) (h1:∀u∈cs.toList,u.oneCell'=V)
  (h63:n+1<=maxLen) (L8:(n+1)*bytes<=140737488355328)
  (h:∀g cap w',Ai w L w' (L.set k (.row (m9 (U ⟨g,0,Z⟩) (n+1) cap) e size (n+1) (xs++cs.toList)))->(∀b,b<w.heap.size->U b≠v.ownBlock->w'.heap[b]?=w.heap[b]?)->wpList P Bf Q rest (a.put o.dst (m9 (U ⟨g,0,Z⟩) (n+1) cap)) w'):
  wpList P Bf Q (o::rest) a (w.alloc (qG cs te)):=by
 subst hH;exact Bm bytes s x t i z cs te hL hk hgd ho ht hi hz Rl hby hzs Gp hs hx hl h1 h63 L8 h
theorem Ys {n:Nat} (bytes:Nat) (s x:Operand) (t:TypeId) (i:TypeInfo) (z:Value) (cs:Array Value) (te:TypeId) (nb:Nat)
  (hL:Aq w L) (hk:L[k]?=U (.row v e size n xs)) (Vg:w.heap[nb]?=U (qG cs te (0,0)))
  (hgd:o.guard=Z) (ho:o.op=.call {callee:=.builtin .append,args:= #[s,x],argTypes:= #[t,t]})
  (ht:P.underlying t=U (.slice e)) (hi:P.info? e=U i) (hz:i.zero=U z) (Rl:i.size=size) (hby:i.bytes=bytes) (hzs:z.cells.size=size) (Gp:0<size)
  (hs:a.eval s=v) (hx:a.eval x= m9 (U ⟨nb,0,Z⟩) 1 1) (hl:cs.size=size) (h1:∀u∈cs.toList,u.oneCell'=V)
  (h63:n+1<=maxLen) (L8:(n+1)*bytes<=140737488355328)
  (h:∀g cap w',Ai w L w' (L.set k (.row (m9 (U ⟨g,0,Z⟩) (n+1) cap) e size (n+1) (xs++cs.toList)))->(∀b,b<w.heap.size->U b≠v.ownBlock->w'.heap[b]?=w.heap[b]?)->K (a.put o.dst (m9 (U ⟨g,0,Z⟩) (n+1) cap)) w'):
  if Region.wanted o (yielded Bf a.tmps)=V then Oper.wp P o a w K Q else E:=by
 have EX:=hL.row hk;refine step_append_lies _ hgd s x t ho 0 e i z size bytes ht hi hz Rl hby hzs Gp v n xs hs EX ⟨nb,0,Z⟩ 1 1 cs.toList hx AC (Qz Vg) h1 Y h63 L8 AC w.heap.size rfl ?_;intro g cap w' Cp EH FE hlt;grind [hL.grow,EH.block]
theorem Aq.take {n:Nat} (h:Aq w L) (hi:L[i]?=U (.row (m9 (U ⟨g,0,Z⟩) n cap) e size n xs)) (k:Nat) (hk:k<=n):
  Ai w L w (L.set i (.row (m9 (U ⟨g,0,Z⟩) k cap) e size k (xs.take (k*size)))):=
 h.swap hi (Az.refl _ _) (UJ (h.get hi) k hk) (by grind [Ob.fp]) (λb hb=> .inl (by grind [Ob.fp,Value.ownBlock]))
def bL (w:World):Prop:=w.cell? ⟨0,0,Z⟩=U (.iface 213 (qD #[qE (U ⟨10,85,Z⟩)]))
theorem AdZ (w:World):Calls prog 34 #[.nilIface] w λe w'=>e= qF (qC #[iI 0,iI 0])/\Az [] w w':=by
 go_enter func34,ntmps34;go_wp2;go_ret2;exact⟨rfl,((Az.refl _ _).alloc _).alloc _⟩
theorem nG (fb:Nat) (c n:Int) (w:World) (h:Ci w fb #[iI c,iI n] 127) (hg:bL w):
  Calls prog 34 #[.iface 123 (iJ fb)] w λe w'=>e= qF (qC #[iI c,iI n])/\Az [] w w':=by
 have m1:Az [] w ((w.alloc (qG #[qE Z] 123)).alloc (qG #[iI 0] 58)):=((Az.refl _ _).alloc _).alloc _;have Is:Ci ((w.alloc (qG #[qE Z] 123)).alloc (qG #[iI 0] 58)) w.heap.size #[qE Z] 123:=(Ci.new w _ _).alloc _;have Has:=D (AiI ⟨fb,0,Z⟩ ⟨w.heap.size,0,Z⟩ (qE Z) ((w.alloc (qG #[qE Z] 123)).alloc (qG #[iI 0] 58)) (AK m1 hg) (Is.cell 0) (Is.free 0));have H:=D h;have Nt:=D m1;have Sz:=D Is;clear m1 Is hg h;go_enter func34,ntmps34;go_wp2_with fail;refine(Has.mono (R':=λe w'=>e= qF (qB V)/\Az [] w w'/\Ci w' w.heap.size #[iJ fb] 123) ?_).mono ?_
 .rintro e w' ⟨rfl,rfl⟩;refine⟨rfl,((((Nt.alloc _).alloc _).alloc _).alloc _).setCell (.inr (Jf _)) _,?_⟩;exact((((Sz.alloc _).alloc _).alloc _).alloc _).set 0 _
 intro e w2 he;obtain⟨Fx,FM,VI⟩:=he;subst Fx;have hf:=H.mod FM EQ;have c0:=hf.cell 0;have c1:=hf.cell 1;have t0:=VI.cell 0;have SQ:=D FM;clear hf VI FM;go_upto_region 6 with fail
 refine AF [] 9 (λW=>W.cell? ⟨w.heap.size,0,Z⟩=U (iJ fb)/\W.cell? ⟨fb,0,Z⟩=U (iI c)/\W.cell? ⟨fb,1,Z⟩=U (iI n)) ⟨t0,c0,c1⟩ ?_;refine Ds ?_;intro K hK;refine hK _ _ (λh=>Jk rfl h) ?_;clear hK;simp only[BN];go_wp2;go_ret2;exact⟨rfl,SQ.drew⟩
def AD (c:UInt8):By->List By
 |[]=>[[]]
 |x::r=>if x=c then []::AD c r else match AD c r with
  |[]=>[[x]]
  |p::ps=>(x::p)::ps
theorem Cc (c:UInt8) (s:By):AD c s≠[]:=by
 cases s with
 |nil=>simp[AD]
 |cons x r=>
  unfold AD;split
  .simp
  .split<;>simp
def SK (a:By):List By->List By
 |[]=>[a]
 |p::ps=>(a++p)::ps
theorem N8 (s:List By) (h:s≠[]):SK [] s=s:=by cases s with|nil=>exact Jk rfl h|cons p ps=>rfl
theorem X0 (c:UInt8) (a r:By):SK a (AD c (c::r))=a::AD c r:=by
 simp[AD,SK]
theorem HU (c x:UInt8) (r:By) (h:¬x=c):AD c (x::r)=SK [x] (AD c r):=by
 simp only[AD,In h];generalize AD c r=q;cases q<;>rfl
theorem tM (c x:UInt8) (a r:By) (h:¬x=c):SK a (AD c (x::r))=SK (a++[x]) (AD c r):=by
 rw[HU c x r h];have:=Cc c r;generalize AD c r=q at*;cases q with
 |nil=>exact Jk rfl this
 |cons p ps=>simp[SK]
theorem AbX:(prog.info? 9).map (λi=>(i.zero,i.size,i.bytes))=U (U (qA ByteArray.empty),1,16):=Fd
theorem mi (s:ByteArray) (k:Nat) (h:k<s.size):bs (s.extract k (k+1))=[s[k]]:=by
 show(s.extract k (k+1)).data.toList=_;rw[Lib.extract_data];show((bs s).drop k).take _=_;rw[JO (by rw[Br];exact h),show k+1-k=0+1 by omega,List.take_succ_cons,Q6];rfl
theorem x9 (a b:ByteArray):bs (a++b)=bs a++bs b:=by
 show(a++b).data.toList=_;rw[ByteArray.data_append,Array.toList_append]
def Ani (c:UInt8) (s:ByteArray) (w:World) (e:Ending) (w':World):Prop:=
 ∃v l,e= qF v/\Az [] w w'/\w'.ownsRow w.heap.size 9 1 v (J l) (Bq l)/\l.map bs=AD c (bs s)
theorem Vo (s:ByteArray) (c:UInt8) (w:World) (hs:s.size<=1000000):
  Calls prog 35 #[qA s,.int .u8 c.toNat] w (Ani c s w):=by
 obtain⟨i0,hi,Lc,Lb,Mm⟩:=info_parts AbX;go_enter func35,ntmps35;go_wp2;go_loopw [5,6] (λv i wr=>∃(k:Nat) (l:List ByteArray) (Ic:ByteArray),k<=s.size/\Ic.size<=k/\i= iI k/\J l<=k/\wr.ownsRow w.heap.size 9 1 v (J l+1) (Bq (l++[Ic]))/\Az [] w wr/\
     AD c (bs s)=l.map bs++SK (bs Ic) (AD c ((bs s).drop k))) (λ_ i _=>s.size-(intOf i).toNat)
 case atStart=>
  refine⟨0,[],⟨#[]⟩,Jr _,Jr _,rfl,Jf _,?_,(Az.refl _ _).alloc _,?_⟩
  .exact⟨rfl,.inr ⟨w.heap.size,1,#[qA ⟨#[]⟩],rfl,Jf _,Ci.new w _ _,Jf _,by unfold maxLen;omega,rfl,rfl⟩⟩
  .exact(N8 _ (Cc _ _)).symm
 case round=>
  obtain⟨k,l,Ic,hk,hck,rfl,hl,Cp,Nj,py⟩:=hrel;obtain⟨g,cap,rfl,hg1,hg2,hg3,hg4,hc,hf⟩:=Av Cp Y;have AiN:=D Cp;have gM:=D Nj;clear Cp Nj;by_cases hlt:k<s.size
  .have Rv:(bs s).drop k=s[k]::(bs s).drop (k+1):=JO (by rw[Br];exact hlt);rw[Rv] at py;by_cases he:s[k]=c
   .have hb:(((s[k]).toNat)==(c.toNat:Int))=V:=by rw[he];simp
    rw[he,X0] at py;have Hsp:=D py;clear py he Rv hc hf;go_wp2_with (at_builtin;go_loud (refine wpList_append_lies _ rfl _ _ _ rfl w.heap.size 9 i0 _ 1 16 underlying90 hi Lc Lb Mm rfl Y _ (J l+1) (Bq (l++[Ic])) rfl (DY AiN _) ⟨wr.heap.size,0,Z⟩ 1 1 [qA ⟨#[]⟩] rfl rfl (Qz (Ci.new wr #[qA ⟨#[]⟩] 9)) (by simp[Value.oneCell']) Y (by unfold maxLen;omega) Y ?_ _ rfl ?_))
    .have:=gM.size;simp;omega
    .intro g' cap' w1 Acj EH FE _;have Agu:=(gM.alloc _).grown EH λj hj=>by cases hj;exact .inr hg1
     have Ali:=D Acj;have All:=D Agu;clear Acj EH FE Agu;go_wp2;go_roundw;case rel=>
      refine⟨k+1,l++[Ic],⟨#[]⟩,Y,Jr _,by go_num,by simp;omega,?_,All,?_⟩
      .have:=Ali.out;simpa[Bq] using this
      .rw[Hsp.out,JQ,Ji];show _=_++([bs Ic]++SK [] _);rw[N8 _ (Cc _ _)];rfl
     case measure=>simp[intOf];omega
   .have hb:(((s[k]).toNat)==(c.toNat:Int))=I:=by
     rw[Jh];intro h;exact he (UInt8.toNat_inj.1 Y)
    rw[tM c _ _ _ he,<-mi s k hlt,<-x9] at py;have Hsp:=D py;have Te:wr.cell? ⟨g,J l,Z⟩=U (qA Ic):=by
     rw[hc (J l) (by simp[Bq])];simp[Bq]
    have Xf:=hf (J l);have hL0:0<=(J l:Int):=JG _;have hL1:J l<((J l:Int)+1):=Y
    have Wa:(s.extract k (k+1)).size=1:=by rw[<-Br,mi s k hlt];rfl
    have AjX:Ic.size+(s.extract k (k+1)).size<=9223372036854775807:=Y
    have AmC:=λw=>run_string_add_sum (P:=prog) (w:=w) Ic (s.extract k (k+1)) AjX
    have bI:=D Wa;have xi:IntKind.i64.wrap (k+1)=k+1:=IntWalk.i64_in _ Y;have Rr:0<=(k:Int)+1:=Y
    have GJ:k+1<=(s.size:Int):=Y
    have VE:((k:Int)+1).toNat=k+1:=Y
    clear py he Rv hc hf AjX Wa;go_wp2
    go_region
    all_goals clear xi VE AmC
    all_goals go_wp2
    go_roundw;case rel=>
     refine⟨k+1,l,Ic++s.extract k (k+1),Y,?_,by go_num,Y,?_,(gM.setCell (.inr hg1) _).drew,Hsp⟩
     .rw[ByteArray.size_append,bI.out];omega
     .have:=Ll (W4 AiN (J l) (by simp[Bq]) (qA (Ic++s.extract k (k+1))));simpa[Bq] using this
    case measure=>simp[intOf];omega
  .rw[Qa (by rw[Br];omega)] at py;have Hsp:=D py;clear py hc hf;go_wp2;go_ret;refine⟨_,l++[Ic],rfl,gM,?_,?_⟩
   .have:=AiN.out;simpa[Bq] using this
   .rw[Hsp.out,JQ];simp[AD,SK]
def NH (l:By):Option Nat:=
 if J l=2/\(l.getD 0 0).toNat=114/\48<=(l.getD 1 0).toNat/\(l.getD 1 0).toNat<=55 then U ((l.getD 1 0).toNat-48) else Z
def Tv (l:By):Value:= qC #[iI ((NH l).getD 0:Nat),qB (NH l).isSome]
theorem WZ {l:By} (h:¬(J l=2/\(l.getD 0 0).toNat=114/\48<=(l.getD 1 0).toNat/\(l.getD 1 0).toNat<=55)):Tv l= qC #[iI 0,qB I]:=by
 unfold Tv NH;rw[In h];rfl
theorem iY {l:By} (h:J l=2/\(l.getD 0 0).toNat=114/\48<=(l.getD 1 0).toNat/\(l.getD 1 0).toNat<=55):Tv l= qC #[iI (((l.getD 1 0).toNat-48:Nat):Int),qB V]:=by
 unfold Tv NH;rw[Jb h];rfl
theorem ui (s:ByteArray) (k:Nat) (h:k<s.size):(bs s).getD k 0=s[k]:=by
 rw[Je,Ja (by rw[Br];exact h)];rfl
theorem UC (s:ByteArray) (w:World):
  Calls prog 93 #[qA s] w λe w'=>e= qF (Tv (bs s))/\w'=w:=by
 by_cases h2:s.size=2
 .have hq:((s.size:Int) !=2)=I:=by rw[h2];rfl
  have h0:0<s.size:=Y
  have h3:1<s.size:=Y
  have hn:=λh=> @WZ (bs s) h
  have hp:=λh=> @iY (bs s) h
  rw[Br,ui s 0 h0,ui s 1 h3] at hn hp;have Hn:=D hn;have Hp:=D hp;have H2:=D h2;clear hn hp h2;go_enter func93,ntmps93;go_wp2;all_goals go_ret2
  all_goals refine⟨OG ?_,rfl⟩
  all_goals first
   |(rw[Hn.out Y];rfl)
   |(rw[Hp.out (by have:=H2.out;omega)];exact AlH (int_eq Y) rfl)
 .have hq:((s.size:Int) !=2)=V:=by rw[bne_iff_ne];omega
  have Hn:=D (@WZ (bs s) (by rw[Br];exact λh=>h2 h.1));clear h2;go_enter func93,ntmps93;go_wp2;go_ret2;exact⟨OG Hn.symm,rfl⟩
structure SO where
 Dd:Bool
 v:Int
def SO.val (a:SO):Value:= qD #[qB a.Dd,iI a.v]
def Nw (l:By):Option SO:=match NH l with
 |some r=>U ⟨V,r⟩
 |none=>match number l with
  |some v=>U ⟨I,v⟩
  |none=>Z
def SO.zero:SO:=⟨I,0⟩
def AiJ (l:By) (w:World) (e:Ending) (w':World):Prop:=e= qF (qC #[((Nw l).getD .zero).val,qB (Nw l).isSome])/\Az [] w w'
theorem AdR (s:ByteArray) (w:World) (hs:s.size<=maxLen):
  Calls prog 92 #[qA s] w (AiJ (bs s) w):=by
 have h1:=λw=>UC s w
 have h2:=λw=>L0 s w hs
 unfold Tv at h1;unfold Ng at h2;unfold AiJ Nw;generalize NH (bs s)=r at*;generalize number (bs s)=n at*;have H1:=D h1;have H2:=D h2;clear h1 h2;cases r with
 |some k=>
  go_enter func92,ntmps92;go_wp2_with (first|(go_at_call 93;refine(H1 _).mono ?_;rintro e w' ⟨rfl,rfl⟩)|(go_at_call 86;refine(H2 _).mono ?_;rintro e w' ⟨rfl,rfl⟩));exact bodyPost_ret (v:= qC #[qD #[qB V,iI k],qB V]) (by simp[results,results92,go_sem]) rfl ⟨rfl,(Az.refl _ _).alloc _⟩
 |none=>
  rcases n with _|v
  .skip
   go_enter func92,ntmps92;go_wp2_with (first|(go_at_call 93;refine(H1 _).mono ?_;rintro e w' ⟨rfl,rfl⟩)|(go_at_call 86;refine(H2 _).mono ?_;rintro e w' ⟨rfl,rfl⟩));exact bodyPost_ret (v:= qC #[qD #[qB I,iI 0],qB I]) (by simp[results,results92,go_sem]) rfl ⟨rfl,(Az.refl _ _).alloc _⟩
  .go_enter func92,ntmps92;go_wp2_with (first|(go_at_call 93;refine(H1 _).mono ?_;rintro e w' ⟨rfl,rfl⟩)|(go_at_call 86;refine(H2 _).mono ?_;rintro e w' ⟨rfl,rfl⟩));exact bodyPost_ret (v:= qC #[qD #[qB I,iI v],qB V]) (by simp[results,results92,go_sem]) rfl ⟨rfl,(Az.refl _ _).alloc _⟩
def aO:List ByteArray:=[⟨#[109,111,118]⟩,⟨#[108,111,97,100]⟩,⟨#[115,116,111,114,101]⟩,⟨#[99,97,115]⟩,⟨#[120,97,100,100]⟩,⟨#[102,101,110,99,101]⟩,⟨#[111,117,116]⟩,⟨#[106,109,112]⟩,⟨#[106,122]⟩,⟨#[116,114,97,112]⟩,⟨#[104,97,108,116]⟩]
def Ry:List ByteArray:=[⟨#[100,97]⟩,⟨#[100,97,107]⟩,⟨#[97,107,98]⟩,⟨#[100,97,107,98,99]⟩,⟨#[100,97,107,98]⟩,⟨#[]⟩,⟨#[97]⟩,⟨#[116]⟩,⟨#[97,116]⟩,⟨#[110]⟩,⟨#[]⟩]
def Ib (x:ByteArray):ByteArray:=
 if 0<=Be B4 x then ⟨#[100,97,98]⟩ else if Be aO x<0 then ⟨#[63]⟩ else wd Ry (Be aO x).toNat
def AgK (x:ByteArray) (w:World) (e:Ending) (w':World):Prop:=e= qF (qA (Ib x))/\Az [] w w'
theorem vx (l:List ByteArray) (x:ByteArray) (k:Nat):Ee l x k= -1\/((k:Int)<=Ee l x k/\Ee l x k<k+J l):=by
 induction l generalizing k with
 |nil=>exact .inl rfl
 |cons a r ih=>
  unfold Ee;split
  .exact .inr ⟨Y,by simp only[Jg];omega⟩
  .rcases ih (k+1) with h|⟨h1,h2⟩
   .exact .inl h
   .exact .inr ⟨Y,by simp only[Jg];omega⟩
theorem UH (l:List ByteArray) (x:ByteArray):Be l x= -1\/(0<=Be l x/\Be l x<J l):=by
 rcases vx l x 0 with h|⟨h1,h2⟩
 .exact .inl h
 .exact .inr ⟨h1,by unfold Be;omega⟩
theorem AcL (x:ByteArray) (w:World):Calls prog 91 #[qA x] w (AgK x w):=by
 have hP:=UH B4 x;have hQ:=UH aO x;have hF:Ib x=if 0<=Be B4 x then ⟨#[100,97,98]⟩ else if Be aO x<0 then ⟨#[63]⟩ else wd Ry (Be aO x).toNat:=rfl
 go_enter func91,ntmps91;go_wp2_with fail;refine(bO _).mono ?_;rintro e w1 ⟨v1,rfl,Dg,dt⟩;have HP:=D (Gh B4 x v1 w1 _ dt);have HM:=D Dg;clear dt Dg;generalize Be B4 x=p at*;generalize hq:Be aO x=q at*;have HF:=D hF;have HhQ:=D hQ;have Hq:=D hq;clear hP hQ hF hq;go_wp2_with fail;refine HP.mono ?_;rintro e w2 ⟨rfl,rfl⟩;by_cases hp:0<=p
 .go_wp2;go_ret;refine⟨OG ?_,HM⟩;rw[HF.out,Jb hp];rfl
 .have hpn:p<0:=Y
  go_wp2_with fail;refine(Gh aO x _ _ (λ_=>True) ((Sl.new (w:=w2) (Bq aO) 9 11 rfl Y _ trivial).mod ((Az.refl [] _).alloc _) EQ)).mono ?_;rintro e w3 ⟨rfl,rfl⟩;rw[Hq.out];by_cases hq:q<0
  .go_wp2;go_ret;refine⟨OG ?_,(HM.alloc _).alloc _⟩;rw[HF.out,In (Int.not_le.2 hpn),Jb hq];rfl
  .obtain⟨n,rfl⟩:∃n:Nat,q=n:=⟨q.toNat,Y⟩;have hn:n<11:=by
    rcases HhQ.out with h|⟨h1,h2⟩
    .omega
    .have:(J aO:Int)=11:=rfl;omega
   have HF':=D (show Ib x=wd Ry n by rw[HF.out,In (Int.not_le.2 hpn),In hq];simp);have hW:(Bq Ry)[n]'hn= qA (wd Ry n):=by
    simp only[Bq,List.getElem_map];simp[wd,Ja (show n<J Ry from hn)]
   have HW:=D hW;clear hq hpn hW;go_wp2;go_ret;refine⟨OG ?_,(HM.alloc _).alloc _⟩;rw[HF'.out];exact HW.out
structure Bh where
 M9:ByteArray
 d:Int
 a:SO
 b:SO
 c:SO
 k:Int
def Bh.cells (i:Bh):Array Value:= #[qA i.M9,iI i.d,qB i.a.Dd,iI i.a.v,qB i.b.Dd,iI i.b.v,qB i.c.Dd,iI i.c.v,iI i.k]
def Bh.val (i:Bh):Value:= qD i.cells
def Bh.of (x:ByteArray):Bh:=⟨x,0,.zero,.zero,.zero,0⟩
def Gn (f:UInt8) (x:By) (i:Bh):Bh×Bool:=
 if f.toNat=100 then ({i with d:=((NH x).getD 0:Nat)},(NH x).isSome)
 else if f.toNat=97 then ({i with a:=(Nw x).getD .zero},(Nw x).isSome)
 else if f.toNat=98 then ({i with b:=(Nw x).getD .zero},(Nw x).isSome)
 else if f.toNat=99 then ({i with c:=(Nw x).getD .zero},(Nw x).isSome)
 else if f.toNat=107 then ({i with k:=(number x).getD 0},(number x).isSome)
 else if f.toNat=116 then ({i with k:=(number x).getD 0},(number x).isSome && decide (0<=(number x).getD 0) && decide ((number x).getD 0<=4000))
 else if f.toNat=110 then ({i with k:=(number x).getD 0},(number x).isSome && decide (1<=(number x).getD 0) && decide ((number x).getD 0<=9))
 else (i,(Nw x).isSome)
def SY:By->List ByteArray->Bh->Option Bh
 |[],_,i=>U i
 |f::fs,l,i=>if (Gn f (bs (wd l 0)) i).2 then SY fs l.tail (Gn f (bs (wd l 0)) i).1 else Z
def Er (l:List ByteArray):Option Bh:=
 if bs (Ib (wd l 0))=[63]\/J l≠1+(Ib (wd l 0)).size then Z else SY (bs (Ib (wd l 0))) l.tail (.of (wd l 0))
def AdH (l:List ByteArray) (w:World) (e:Ending) (w':World):Prop:=
 ∃i:Bh,e= qF (qC #[i.val,qB (Er l).isSome])/\(∀j,Er l=U j->i=j)/\Az [] w w'
theorem xO (x:ByteArray):(Ib x).size<=5:=by
 unfold Ib;split
 .exact Nat.le_of_ble_eq_true rfl
 .split
  .exact Nat.le_of_ble_eq_true rfl
  .unfold wd;have:∀a,a∈Ry->a.size<=5:=Do
   rcases jL (Be aO x).toNat (J Ry) with h|h
   .rw[Je,Ja h];exact this _ (JP h)
   .rw[Je,Q4 h];exact Jr _
theorem XR {w1:World} (h:Az [] w w1) {v0 v1 v2 v3 v4 v5 v6 v7 v8:Value}:Az [] w
  (((((((((w1.setCell ⟨w.heap.size,0,Z⟩ v0).setCell ⟨w.heap.size,1,Z⟩ v1).setCell ⟨w.heap.size,2,Z⟩ v2).setCell ⟨w.heap.size,3,Z⟩ v3).setCell ⟨w.heap.size,4,Z⟩ v4).setCell
    ⟨w.heap.size,5,Z⟩ v5).setCell ⟨w.heap.size,6,Z⟩ v6).setCell ⟨w.heap.size,7,Z⟩ v7).setCell ⟨w.heap.size,8,Z⟩ v8):=by
 have l:∀o,(⟨w.heap.size,o,Z⟩:Addr).block∈([])\/w.heap.size<=(⟨w.heap.size,o,Z⟩:Addr).block:=λ_=> .inr (Jf _)
 exact((((((((h.setCell (l 0) _).setCell (l 1) _).setCell (l 2) _).setCell (l 3) _).setCell (l 4) _).setCell (l 5) _).setCell (l 6) _).setCell (l 7) _).setCell (l 8) _
theorem sI {α β:Type} {a c:α} {b d:β} (h:a=c) (k:b=d):(a,b)=(c,d):=by rw[h,k]
theorem Ci.fj (h:Ci w b c T) (i:Nat) (v:Value) {c':Array Value} (e:c.setIfInBounds i v=c'):Ci (w.setCell ⟨b,i,Z⟩ v) b c' T:=e▸h.set i v
theorem AfL {a0 a1 a2 a3 a4 a5 a6 a7 a8:Value} (h:Ci w b #[a0,a1,a2,a3,a4,a5,a6,a7,a8] T) {v0 v1 v2 v3 v4 v5 v6 v7 v8:Value}:
  Ci (((((((((w.setCell ⟨b,0,Z⟩ v0).setCell ⟨b,1,Z⟩ v1).setCell ⟨b,2,Z⟩ v2).setCell ⟨b,3,Z⟩ v3).setCell ⟨b,4,Z⟩ v4).setCell ⟨b,5,Z⟩ v5).setCell ⟨b,6,Z⟩ v6).setCell
    ⟨b,7,Z⟩ v7).setCell ⟨b,8,Z⟩ v8) b #[v0,v1,v2,v3,v4,v5,v6,v7,v8] T:=by
 have h0:=h.fj 0 v0 (c':= #[v0,a1,a2,a3,a4,a5,a6,a7,a8]) rfl;have h1:=h0.fj 1 v1 (c':= #[v0,v1,a2,a3,a4,a5,a6,a7,a8]) rfl;have h2:=h1.fj 2 v2 (c':= #[v0,v1,v2,a3,a4,a5,a6,a7,a8]) rfl;have h3:=h2.fj 3 v3 (c':= #[v0,v1,v2,v3,a4,a5,a6,a7,a8]) rfl;have h4:=h3.fj 4 v4 (c':= #[v0,v1,v2,v3,v4,a5,a6,a7,a8]) rfl;have h5:=h4.fj 5 v5 (c':= #[v0,v1,v2,v3,v4,v5,a6,a7,a8]) rfl;have h6:=h5.fj 6 v6 (c':= #[v0,v1,v2,v3,v4,v5,v6,a7,a8]) rfl;have h7:=h6.fj 7 v7 (c':= #[v0,v1,v2,v3,v4,v5,v6,v7,a8]) rfl;exact h7.fj 8 v8 rfl
theorem kX (a:Act) (w:World) (rb:Nat) (i:Bh) (c:Bool) (h:Ci w rb i.cells 101) (h2:a.tmps.getD 2 undef= iJ rb) (h3:a.tmps.getD 3 undef= qB c):
  (results f62 a.tmps).run prog w=.ok (qC #[i.val,qB c]) w:=by
 have hc:=h.cell;unfold Bh.cells at hc;simp[QC] at h2 h3;simp[results,results62,go_sem,hc,Bh.val,Bh.cells,h2,h3]
theorem XX (l:List ByteArray) (v:Value) (w:World) (ok:Nat->Prop) (hv:Sl w ok v (Bq l)) (hne:l≠[]) (hs:∀s,s∈l->s.size<=maxLen):
  Calls prog 62 #[v] w (AdH l w):=by
 have hlen:0<J l:=by cases l with|nil=>exact Jk rfl hne|cons a r=>simp
 obtain⟨hm,⟨rfl,hn⟩|⟨b,off,cap,rfl,h1,h2,h3,h4,h5⟩⟩:=hv
 .exact Jk (by cases l with|nil=>rfl|cons a r=>simp[Bq] at hn) hne
 rw[Cj] at hm h1⊢;unfold maxLen at hm h2;have c0:=Sl.M9 h5 0 hlen;simp only[JX] at c0;have H5:=D (Sl.M9 h5);have HS:=D (λi=>Kr hs i);have hfs:=xO (wd l 0);have hD:Er l=(if bs (Ib (wd l 0))=[63]\/J l≠1+(Ib (wd l 0)).size then Z else SY (bs (Ib (wd l 0))) l.tail (.of (wd l 0))):=rfl;clear h5 h3 hs hne;generalize hX:wd l 0=x at*;have hF:=λw=>AcL x w
 unfold AgK at hF;generalize hFo:Ib x=f at*;have HF:=D hF;have HD:=D hD;clear hF hFo hX hD;go_enter func62,ntmps62;go_wp2_with fail;refine(HF _).mono ?_;rintro e w1 ⟨rfl,Dg⟩;have hR:=((Ci.new w (Bh.of ByteArray.empty).cells _).alloc _).mod Dg EQ;have hI:Ci w1 (w.heap.size+1) (Bh.of x).cells 101:=by
  have:=(Ci.new (w.alloc (qG (Bh.of ByteArray.empty).cells 101)) (Bh.of x).cells 101).mod Dg EQ;rw[show(w.alloc (qG (Bh.of ByteArray.empty).cells 101)).heap.size=w.heap.size+1 from QO _] at this;exact this
 have FM:=(((Az.refl [] w).alloc _).alloc _).trans Dg EQ;have HM:=D FM;have xC:=hR.cell;have hRf:=hR.free;have hIc:=hI.cell;clear Dg FM HF;by_cases hq:bs f=[63]
 .have hq':=CZ hq;have HN:Hid (Er l=Z):=by rw[HD.out,Jb (.inl hq)];rfl
  clear hq hR hI;unfold Bh.cells at xC hIc;go_wp2;refine bodyPost_ret (v:= qC #[(Bh.of x).val,qB I]) (by simp[results,results62,go_sem,xC,Bh.val,Bh.cells]) rfl ⟨Bh.of x,by rw[HN.out];rfl,(λj hj=>by rw[HN.out] at hj;cases hj),?_⟩;exact XR HM.out
 .have hq':=Bx hq;by_cases hlf:J l=1+f.size
  .have hD2:Er l=SY (bs f) l.tail (.of x):=by rw[HD.out,In (by rintro(h|h);exact hq h;exact h hlf)]
   have HD2:=D hD2;have Is:(J l !=1+(f.size:Int))=I:=by rw[d7];intro h;rw[bne_iff_ne] at h;omega
   have hR':=D hR;have hI':=D hI;have gX:f.size+1<=J l:=Y
   clear hq hD2 hlf hR hI xC hRf hIc HD c0;go_wp2;go_loopw [6] (λj wr=>∃(k:Nat) (i:Bh),k<=f.size/\j= iI k/\Ci wr w.heap.size (Bh.of ByteArray.empty).cells 101/\Ci wr (w.heap.size+1) i.cells 101/\Az [] w wr/\
     Er l=SY ((bs f).drop k) (l.tail.drop k) i) (λj _=>f.size-(intOf j).toNat)
   case atStart=>exact⟨0,_,Jr _,rfl,hR',hI',HM,HD2⟩
   case round=>
    clear hq' Is hR' hI' HD2 HM;obtain⟨k,i,hk,rfl,hR,hI,Nj,tD⟩:=hrel;by_cases hkf:k<f.size
    .have hcf:(bs f).drop k=f[k]::(bs f).drop (k+1):=JO (by rw[Br];exact hkf);have B8:(l.tail.drop k).tail=l.tail.drop (k+1):=by rw[d8]
     have hcw:wd (l.tail.drop k) 0=wd l (k+1):=by
      unfold wd;rw[Je,Je,List.getElem?_drop,List.getElem?_tail]
     rw[hcf] at tD;unfold SY at tD;rw[B8,hcw] at tD;have c1:wr.cell? ⟨b,off+(1+k),Z⟩=U (qA (wd l (k+1))):=by rw[Nat.add_comm 1 k];exact AK Nj (H5 (k+1) Y)
     have hX:=HS.out (k+1);generalize wd l (k+1)=X at*;have hV:=λw=>AdR X w hX
     have hN:=λw=>L0 X w hX
     have hRg:=λw=>UC X w
     unfold AiJ at hV;unfold Ng at hN;unfold Tv at hRg;simp only[SO.val] at hV;generalize hva:Nw (bs X)=va at*;generalize hnu:number (bs X)=nu at*;generalize hre:NH (bs X)=re at*;have Hva:=D hva;have Hnu:=D hnu;have Hre:=D hre;clear hva hnu hre;have Hgo:=D tD;have HV:=D hV;have HNu:=D hN;have HRg:=D hRg;have HR:=D hR;have HI:=D hI;have gM:=D Nj;clear hcf B8 hcw tD hX hV hN hRg hR hI Nj;go_wp2_with fail;refine(HV _).mono ?_;rintro e w2 ⟨rfl,FM⟩;have SQ:=D (gM.Aj FM);have eJ:=D (HR.mod FM EQ);have uF:=D (HI.mod FM EQ);have hIc:=uF.cell;have hIf:=uF.free;have xC:=eJ.cell;have hIl:=uF.lt;unfold Bh.cells at hIc xC;clear FM HR HI gM HV;go_wp2_with fail;refine(HNu _).mono ?_;rintro e w' ⟨rfl,rfl⟩
     go_upto_block 2 with(fail)
     go_cut [9,12,13] (λo _ _ wz=>∃(j:Bh) (c:Bool),o= qB c/\Gn f[k] (bs X) i=(j,c)/\Ci wz w.heap.size (Bh.of ByteArray.empty).cells 101/\Ci wz (w.heap.size+1) j.cells 101/\Az [] w wz)
     case first=>
      clear xC;by_cases hd:(f[k]).toNat=100
      .have qd:(((f[k]).toNat:Int)==100)=V:=by rw[hd];rfl
       have HZ:=D (show Gn f[k] (bs X) i=_ by simp only[Gn,Jb hd,Hva.out,Hnu.out,Hre.out];exact rfl);clear hd;go_wp2_with (go_at_call 93;refine(HRg _).mono ?_;rintro e w' ⟨rfl,rfl⟩)
       go_meet
       exact⟨_,_,rfl,HZ,((eJ).FZ (Qe (JC _)) _).alloc _,((uF).set 1 _).alloc _,((SQ).setCell (.inr (JI _)) _).alloc _⟩
      have qd:(((f[k]).toNat:Int)==100)=I:=by rw[Jh];omega
      by_cases ha:(f[k]).toNat=97
      .have qa:(((f[k]).toNat:Int)==97)=V:=by rw[ha];rfl
       have HZ:=D (show Gn f[k] (bs X) i=_ by simp only[Gn,In hd,Jb ha,Hva.out,Hnu.out,Hre.out];exact rfl);clear hd ha;go_wp2_with (go_at_call 93;refine(HRg _).mono ?_;rintro e w' ⟨rfl,rfl⟩)
       go_meet
       exact⟨_,_,rfl,HZ,(((eJ).FZ (Qe (JC _)) _).FZ (Qe (JC _)) _).alloc _,(((uF).set 2 _).set 3 _).alloc _,(((SQ).setCell (.inr (JI _)) _).setCell (.inr (JI _)) _).alloc _⟩
      have qa:(((f[k]).toNat:Int)==97)=I:=by rw[Jh];omega
      by_cases hb:(f[k]).toNat=98
      .have qb:(((f[k]).toNat:Int)==98)=V:=by rw[hb];rfl
       have HZ:=D (show Gn f[k] (bs X) i=_ by simp only[Gn,In hd,In ha,Jb hb,Hva.out,Hnu.out,Hre.out];exact rfl);clear hd ha hb;go_wp2_with (go_at_call 93;refine(HRg _).mono ?_;rintro e w' ⟨rfl,rfl⟩)
       go_meet
       exact⟨_,_,rfl,HZ,(((eJ).FZ (Qe (JC _)) _).FZ (Qe (JC _)) _).alloc _,(((uF).set 4 _).set 5 _).alloc _,(((SQ).setCell (.inr (JI _)) _).setCell (.inr (JI _)) _).alloc _⟩
      have qb:(((f[k]).toNat:Int)==98)=I:=by rw[Jh];omega
      by_cases hc:(f[k]).toNat=99
      .have qc:(((f[k]).toNat:Int)==99)=V:=by rw[hc];rfl
       have HZ:=D (show Gn f[k] (bs X) i=_ by simp only[Gn,In hd,In ha,In hb,Jb hc,Hva.out,Hnu.out,Hre.out];exact rfl);clear hd ha hb hc;go_wp2_with (go_at_call 93;refine(HRg _).mono ?_;rintro e w' ⟨rfl,rfl⟩)
       go_meet
       exact⟨_,_,rfl,HZ,(((eJ).FZ (Qe (JC _)) _).FZ (Qe (JC _)) _).alloc _,(((uF).set 6 _).set 7 _).alloc _,(((SQ).setCell (.inr (JI _)) _).setCell (.inr (JI _)) _).alloc _⟩
      have qc:(((f[k]).toNat:Int)==99)=I:=by rw[Jh];omega
      by_cases hk:(f[k]).toNat=107
      .have qk:(((f[k]).toNat:Int)==107)=V:=by rw[hk];rfl
       have HZ:=D (show Gn f[k] (bs X) i=_ by simp only[Gn,In hd,In ha,In hb,In hc,Jb hk,Hva.out,Hnu.out,Hre.out];exact rfl);clear hd ha hb hc hk;go_wp2_with (go_at_call 93;refine(HRg _).mono ?_;rintro e w' ⟨rfl,rfl⟩)
       go_meet
       exact⟨_,_,rfl,HZ,((eJ).FZ (Qe (JC _)) _).alloc _,((uF).set 8 _).alloc _,((SQ).setCell (.inr (JI _)) _).alloc _⟩
      have qk:(((f[k]).toNat:Int)==107)=I:=by rw[Jh];omega
      by_cases ht:(f[k]).toNat=116
      .have qt:(((f[k]).toNat:Int)==116)=V:=by rw[ht];rfl
       have HZ:=D (show Gn f[k] (bs X) i=_ by simp only[Gn,In hd,In ha,In hb,In hc,In hk,Jb ht,Hva.out,Hnu.out,Hre.out];exact rfl);clear hd ha hb hc hk ht;cases nu with
       |none=>
        exact maM
       |some r=>
        by_cases Vf:0<=r<;>by_cases Xr:r<=4000;all_goals try (exfalso;omega)
        all_goals
         go_wp2_with (go_at_call 93;refine(HRg _).mono ?_;rintro e w' ⟨rfl,rfl⟩)
         go_meet
         refine⟨_,_,rfl,HZ.trans (sI rfl ?_),((eJ).FZ (Qe (JC _)) _).alloc _,((uF).set 8 _).alloc _,((SQ).setCell (.inr (JI _)) _).alloc _⟩;simp[*]
      have qt:(((f[k]).toNat:Int)==116)=I:=by rw[Jh];omega
      by_cases hn:(f[k]).toNat=110
      .have qn:(((f[k]).toNat:Int)==110)=V:=by rw[hn];rfl
       have HZ:=D (show Gn f[k] (bs X) i=_ by simp only[Gn,In hd,In ha,In hb,In hc,In hk,In ht,Jb hn,Hva.out,Hnu.out,Hre.out];exact rfl);clear hd ha hb hc hk ht hn;cases nu with
       |none=>
        exact maM
       |some r=>
        by_cases Vf:1<=r<;>by_cases Xr:r<=9;all_goals try (exfalso;omega)
        all_goals
         go_wp2_with (go_at_call 93;refine(HRg _).mono ?_;rintro e w' ⟨rfl,rfl⟩)
         go_meet
         refine⟨_,_,rfl,HZ.trans (sI rfl ?_),((eJ).FZ (Qe (JC _)) _).alloc _,((uF).set 8 _).alloc _,((SQ).setCell (.inr (JI _)) _).alloc _⟩;simp[*]
      have qn:(((f[k]).toNat:Int)==110)=I:=by rw[Jh];omega
      have HZ:=D (show Gn f[k] (bs X) i=_ by simp only[Gn,In hd,In ha,In hb,In hc,In hk,In ht,In hn,Hva.out,Hnu.out,Hre.out];exact rfl);clear hd ha hb hc hk ht hn;go_wp2_with (go_at_call 93;refine(HRg _).mono ?_;rintro e w' ⟨rfl,rfl⟩)
      go_meet
      exact⟨_,_,rfl,HZ,eJ.alloc _,uF.alloc _,SQ.alloc _⟩
     case rest=>
      obtain⟨j,c,rfl,hj,hR,hI,Nj⟩:=hcut;have hg:=Hgo.out;rw[hj] at hg;have HR:=D hR;have HI:=D hI;have HM:=D Nj;have Hg:=D hg;have hIc:=hI.cell;have xC:=hR.cell;have hRf:=hR.free;unfold Bh.cells at hIc xC;clear hR hI Nj hg hj uF eJ SQ HRg Hgo HNu;cases c
      .have HB:Hid (Er l=Z):=Hg.out;go_wp2;exact bodyPost_ret (kX _ _ w.heap.size j I (AfL HR) rfl rfl) rfl ⟨j,by rw[HB.out];rfl,(λi hj=>by rw[HB.out] at hj;cases hj),XR HM⟩
      .go_wp2;go_roundw;case rel=>exact⟨k+1,j,Y,by go_num,HR,HI,HM,Hg⟩
       case measure=>simp[intOf];omega
    .have hE:Er l=U i:=by rw[tD,Qa (by rw[Br];omega)];rfl
     have HE:=D hE;have hIc:=hI.cell;have xC:=hR.cell;have hRf:=hR.free;have HM:=D Nj;unfold Bh.cells at hIc xC;clear tD hE hR hI Nj;go_wp2;refine bodyPost_ret (v:= qC #[i.val,qB V]) (by simp[results,results62,go_sem,xC,Bh.val,Bh.cells]) rfl ⟨i,by rw[HE.out];rfl,(λj hj=>by rw[HE.out] at hj;cases hj;rfl),?_⟩;exact XR HM.out
  .have HN:Hid (Er l=Z):=by rw[HD.out,Jb (.inr hlf)];rfl
   have Is:(J l !=1+(f.size:Int))=V:=by rw[bne_iff_ne];omega
   clear hq hlf hR hI;unfold Bh.cells at xC hIc;go_wp2;refine bodyPost_ret (v:= qC #[(Bh.of x).val,qB I]) (by simp[results,results62,go_sem,xC,Bh.val,Bh.cells]) rfl ⟨Bh.of x,by rw[HN.out];rfl,(λj hj=>by rw[HN.out] at hj;cases hj),?_⟩;exact XR HM.out
structure At where
 AX:Bool
 v:Int
deriving DecidableEq
def At.zero:At:=⟨I,0⟩
inductive Bj where
 |nil
 |set (v:Int) (op:ByteArray) (a b:At) (rest:Bj)
 |get (v:Int) (first size:Int) (AN:At) (rest:Bj)
 |put (first size:Int) (AN:At) (a:At) (rest:Bj)
 |out (a:At) (rest:Bj)
 |atomic (body rest:Bj)
 |Es (a:At) (body rest:Bj)
 |loop (n:Int) (body rest:Bj)
def Bj.FQ:Bj->Bj->Bj
 |.nil,t=>t
 |.set v op a b r,t=> .set v op a b (r.FQ t)
 |.get v f s a r,t=> .get v f s a (r.FQ t)
 |.put f s AN a r,t=> .put f s AN a (r.FQ t)
 |.out a r,t=> .out a (r.FQ t)
 |.atomic b r,t=> .atomic b (r.FQ t)
 |.Es a b r,t=> .Es a b (r.FQ t)
 |.loop n b r,t=> .loop n b (r.FQ t)
structure Ag where
 Dd:Bool
 v:Int
def Ag.n (v:Int):Ag:=⟨I,v⟩
def Ag.r (k:Int):Ag:=⟨V,k⟩
inductive GI where
 |Y4 (d:Int) (a:Ag)
 |op (name:ByteArray) (d:Int) (a b:Ag)
 |load (d:Int) (a:Ag) (k:Int)
 |store (a:Ag) (k:Int) (b:Ag)
 |KL (d:Int) (a:Ag) (k:Int) (b c:Ag)
 |Em (d:Int) (a:Ag) (k:Int) (b:Ag)
 |Ma
 |out (a:Ag)
 |GF (q:Int)
 |jz (a:Ag) (q:Int)
 |CR (k:Int)
 |halt
structure Ii where
 k:Nat
 a:Option Ag
structure GS where
 Ab:List GI
 Ac:Int
 cells:Int
 block:Bool
 BM:List Ii
 Af:Int
namespace GS
def AQ (g:GS) (i:GI):GS:={g with Ab:=g.Ab++[i]}
def Ba (g:GS) (l:Ii):GS:={g with Ab:=g.Ab.set l.k (match l.a with|none=> .GF (J g.Ab)|some a=> .jz a (J g.Ab))}
def V5 (g:GS):Ii:=⟨J g.Ab,Z⟩
def CW (g:GS):GS:=g.AQ (.GF 0)
def EL (g:GS) (a:Ag):Ii:=⟨J g.Ab,U a⟩
def CG (g:GS) (a:Ag):GS:=g.AQ (.jz a 0)
def lo (g:GS) (r k:Int):GS:=g.AQ (.load r (.n (g.Ac+k)) 0)
def SE (g:GS) (r table i:Int):GS:=g.AQ (.load r (.r i) (g.Ac+table))
def Pq (g:GS) (r k:Int):GS:=g.AQ (.load r (.n k) 0)
def st (g:GS) (k:Int) (a:Ag):GS:=g.AQ (.store (.n (g.Ac+k)) 0 a)
def IW (g:GS) (table i:Int) (a:Ag):GS:=g.AQ (.store (.r i) (g.Ac+table) a)
def Ut (g:GS) (k:Int) (a:Ag):GS:=g.AQ (.store (.n k) 0 a)
def IB (g:GS) (name:ByteArray) (d:Int) (a b:Ag):GS:=g.AQ (.op name d a b)
def Co (g:GS) (a:At) (r:Int):GS:=if a.AX then g.lo r a.v else g
def BD (a:At) (r:Int):Ag:=if a.AX then .r r else .n a.v
def I1 (g:GS) (r:Int):GS:={(g.CG (.r r)) with BM:=g.BM++[g.EL (.r r)]}
end GS
def KG:ByteArray:=⟨#[97,100,100]⟩
def KF:ByteArray:=⟨#[115,117,98]⟩
def aS:ByteArray:=⟨#[97,110,100]⟩
def nOr:ByteArray:=⟨#[111,114]⟩
def US:ByteArray:=⟨#[115,104,108]⟩
def Y1:ByteArray:=⟨#[115,104,114]⟩
def cR:ByteArray:=⟨#[108,116]⟩
def cS:ByteArray:=⟨#[101,113]⟩
namespace GS
def KC (g:GS) (r:Int):GS:=
 let g:=g.IB aS 3 (.r r) (.n 1)
 let g:=g.IB cS 3 (.r 3) (.n 0)
 let g:=g.I1 3
 let g:=g.IB Y1 3 (.r r) (.n 1)
 let g:=g.lo 4 38
 let g:=g.IB cR 3 (.r 4) (.r 3)
 let g:=g.IB cS 3 (.r 3) (.n 0)
 g.I1 3
def EN (g:GS) (first size:Int) (a:At):GS:=
 let AN:=BD a 0
 let g:=g.Co a 0
 let g:=g.IB cR 3 AN (.n 0)
 let low:=g.EL (.r 3)
 let g:=g.CG (.r 3)
 let g:=g.AQ (.CR 2)
 let g:=g.Ba low
 let g:=g.IB cR 3 AN (.n size)
 let g:=g.IB cS 3 (.r 3) (.n 0)
 let high:=g.EL (.r 3)
 let g:=g.CG (.r 3)
 let g:=g.AQ (.CR 2)
 let g:=g.Ba high
 g.IB KG 0 AN (.n first)
def SL (g:GS):GS:=
 let g:=g.SE 1 8 0
 let ZI:=g.EL (.r 1)
 let g:=g.CG (.r 1)
 let g:=g.SE 1 14 0
 let done:=g.V5
 let g:=g.CW
 let g:=g.Ba ZI
 let g:=g.AQ (.load 2 (.r 0) 8)
 let g:=g.KC 2
 let g:=g.AQ (.load 1 (.r 0) 0)
 let g:=g.AQ (.load 3 (.r 0) 8)
 let g:=g.IB cS 3 (.r 3) (.r 2)
 let g:=g.I1 3
 let g:=g.IW 20 0 (.n 1)
 g.Ba done
def NC (g:GS) (c table:Int):GS:=(g.lo 1 (table+c)).CG (.r 1)
def Uv (g:GS) (c table:Int):Ii:=(g.lo 1 (table+c)).EL (.r 1)
def P5 (c:Nat) (g:GS):GS:=
 let skip:=g.Uv c 8
 let g:=g.NC c 8
 let g:=g.Pq 2 (8+c)
 let g:=g.KC 2
 let g:=g.IB nOr 3 (.r 2) (.n 1)
 let g:=g.AQ (.KL 3 (.n (8+c)) 0 (.r 2) (.r 3))
 let g:=g.I1 3
 let g:=g.st (26+c) (.n 1)
 let g:=g.st (32+c) (.r 2)
 g.Ba skip
def P4 (c:Nat) (g:GS):GS:=
 let skip:=g.Uv c 20
 let g:=g.NC c 20
 let A3:=g.Uv c 26
 let g:=g.NC c 26
 let Ak:=g.V5
 let g:=g.CW
 let g:=g.Ba A3
 let g:=g.Pq 2 (8+c)
 let g:=g.KC 2
 let g:=g.Ba Ak
 g.Ba skip
def YM (c:Nat) (g:GS):GS:=
 let skip:=g.Uv c 8
 let g:=g.NC c 8
 let g:=g.lo 2 (14+c)
 let g:=g.Ut c (.r 2)
 g.Ba skip
def Rx (c:Nat) (g:GS):GS:=
 let skip:=g.Uv c 8
 let g:=g.NC c 8
 let g:=g.Ut (8+c) (.r 5)
 g.Ba skip
def Oo (f:Nat->GS->GS):Nat->GS->GS
 |0,g=>g
 |n+1,g=>f n (Oo f n g)
def Ei (g:GS):GS:=
 let n:=g.cells.toNat
 let g:=Oo P5 n g
 let g:=g.AQ (.Em 5 (.n 16) 0 (.n 1))
 let g:=g.IB KG 5 (.r 5) (.n 1)
 let g:=g.IB US 5 (.r 5) (.n 1)
 let g:=Oo P4 n g
 let g:=Oo YM n g
 Oo Rx n g
def Gf (g:GS):GS:=
 let g:=g.AQ (.Y4 1 (.n 0))
 let C5:=J g.Ab
 let g:=g.lo 2 39
 let g:=g.IB cR 2 (.r 1) (.r 2)
 let done:=g.EL (.r 2)
 let g:=g.CG (.r 2)
 let g:=g.SE 2 40 1
 let g:=g.AQ (.out (.r 2))
 let g:=g.IB KG 1 (.r 1) (.n 1)
 let g:=g.AQ (.GF C5)
 g.Ba done
def Pe (c:Nat) (g:GS):GS:=
 let g:=g.lo 1 (26+c)
 let skip:=g.EL (.r 1)
 let g:=g.CG (.r 1)
 let g:=g.lo 2 (32+c)
 let g:=g.Ut (8+c) (.r 2)
 g.Ba skip
def O8 (i:Nat) (g:GS):GS:=(g.lo 1 (4+i)).st i (.r 1)
def Gb (g:GS) (C5:Nat):GS:=
 let g:=Oo Pe g.cells.toNat g
 let g:=Oo O8 4 g
 g.AQ (.GF C5)
def O6 (i:Nat) (g:GS):GS:=(g.lo 1 i).st (4+i) (.r 1)
def Kj (c:Nat) (g:GS):GS:=((g.st (8+c) (.n 0)).st (20+c) (.n 0)).st (26+c) (.n 0)
end GS
def BU:Bj->Bool
 |.nil=>I
 |.put .. =>V
 |.Es _ b r=>BU b || BU r
 |.loop _ b r=>BU b || BU r
 |.set _ _ _ _ r=>BU r
 |.get _ _ _ _ r=>BU r
 |.out _ r=>BU r
 |.atomic _ r=>BU r
namespace GS
def BT (g:GS):GS:=
 let g:=Oo O6 4 g
 g
def T7 (g:GS):GS:=
 let g:=Oo Kj g.cells.toNat g
 let g:=g.st 39 (.n 0)
 let g:=g.Pq 1 16
 let g:=g.st 38 (.r 1)
 {g with block:=V,BM:=[]}
def Pz (g:GS) (C5:Nat) (BX:Bool):GS:=
 let g:={g with block:=I}
 let g:=if BX then g.Ei else g
 let g:=g.Gf
 let done:=g.V5
 let g:=g.CW
 let g:=g.BM.foldl Ba g
 let g:=g.Gb C5
 g.Ba done
def Dh:Bj->GS->GS
 |.nil,g=>g
 |.set v op a b r,g=>
  let g1:=g.Co a 1
  let g2:=if op.size=0 then g1.st v (BD a 1) else
   let g3:=g1.Co b 2
   (g3.IB op 1 (BD a 1) (BD b 2)).st v (.r 1)
  Dh r g2
 |.get v f s a r,g=>Dh r (((g.EN f s a).SL).st v (.r 1))
 |.put f s AN a r,g=>
  let g1:=g.EN f s AN
  let g2:=g1.Co a 1
  Dh r ((g2.IW 14 0 (BD a 1)).IW 8 0 (.n 1))
 |.out a r,g=>
  let g1:=g.Co a 1
  Dh r (if g.block then (((g1.lo 2 39).IW 40 2 (BD a 1)).IB KG 2 (.r 2) (.n 1)).st 39 (.r 2) else g1.AQ (.out (BD a 1)))
 |.Es a b r,g=>
  let g1:=g.Co a 1
  let skip:=g1.EL (BD a 1)
  Dh r ((Dh b (g1.CG (BD a 1))).Ba skip)
 |.loop n b r,g=>
  let k:=48+g.Af
  let g1:=g.st k (.n n)
  let C5:=J g1.Ab
  let g2:=Dh b {g1 with Af:=g1.Af+1}
  let g3:={g2 with Af:=g2.Af-1}
  let g4:=((g3.lo 1 k).IB KF 1 (.r 1) (.n 1)).st k (.r 1)
  let done:=g4.EL (.r 1)
  Dh r (((g4.CG (.r 1)).AQ (.GF C5)).Ba done)
 |.atomic b r,g=>
  let g1:=g.BT
  Dh r ((Dh b g1.T7).Pz (J g1.Ab) (BU b))
def start (k:Nat) (cells:Int):GS:=⟨[],32+64*k,cells,I,[],0⟩
end GS
def Ga (cells:Int) (k:Nat) (t:Bj):List GI:=((GS.Dh t (.start k cells)).AQ .halt).Ab
def AU (b:By):ByteArray:=⟨b.toArray⟩
theorem Dk (b:By):bs (AU b)=b:=by simp[bs,AU]
theorem XL (s:ByteArray):AU (bs s)=s:=O0 (Dk _)
theorem Uo {p:List By} (h:l.map bs=p):l=p.map AU:=by
 subst h;rw[jM];have:(AU∘bs)=id:=funext XL;rw[this,List.map_id]
def Bt (p:By):List ByteArray:=(AD 32 p).map AU
inductive KQ where
 |atomic
 |Es (a:At)
 |loop (n:Int)
structure Fr where
 kind:KQ
 body:Bj
def KQ.Cn:KQ->Bool
 |.atomic=>V
 |_=>I
def Fr.done (f:Fr) (rest:Bj):Bj:=match f.kind with
 |.atomic=> .atomic f.body rest
 |.Es a=> .Es a f.body rest
 |.loop n=> .loop n f.body rest
structure mH where
 name:ByteArray
 first:Int
 size:Int
structure qH where
 cells:Int
 Aa:List Bj
 Ax:List mH
 AA:List ByteArray
 Ad:List Fr
 Ah:Int
def qH.Dr:qH:=⟨0,[],[],[],[],0⟩
structure Wd where
 name:ByteArray
 v:Int
def Wd.zero:Wd:=⟨⟨#[]⟩,0⟩
abbrev Ws:=List ByteArray
def cN:Ws->Option (ByteArray×Ws)
 |[]=>Z
 |a::r=>if Cg (bs a) then U (a,r) else Z
def ES:Ws->Option (Wd×Ws)
 |[]=>Z
 |a::r=>if Cg (bs a) then U (⟨a,0⟩,r) else match number (bs a) with
  |some v=>U (⟨⟨#[]⟩,v⟩,r)
  |none=>Z
def Il (BE:Int) (l:Ws):Option (Int×Ws):=match ES l with
 |none=>Z
 |some (w,r)=>if w.name.size=0/\1<=w.v/\w.v<=BE then U (w.v,r) else Z
def atF:Ws->Option (Wd×Ws)
 |[]=>U (.zero,[])
 |a::r=>if bs a=kAt then ES r else U (.zero,a::r)
def vF (a:ByteArray):Option ByteArray:=if 0<=Be Dc a then U (wd B4 (Be Dc a).toNat) else Z
inductive Vw where
 |set (n:ByteArray) (a:Wd) (op:ByteArray) (b:Wd)
 |get (n s:ByteArray) (AN:Wd)
 |put (s:ByteArray) (a:Wd) (AN:Wd)
 |out (a:Wd)
 |atomic
 |Es (a:Wd)
 |loop (n:Int)
def Vw.Cn:Vw->Bool
 |.get .. =>V
 |.put .. =>V
 |_=>I
def GM {α:Type} (x:α):Ws->Option α
 |[]=>U x
 |_::_=>Z
def Kd (r:Ws):Option Vw:=match cN r with
 |none=>Z
 |some (n,r)=>match ES r with
  |none=>Z
  |some (a,[])=>U (.set n a ⟨#[]⟩ .zero)
  |some (a,o::r)=>match vF o with
   |none=>Z
   |some op=>match ES r with
    |none=>Z
    |some (b,r)=>GM (.set n a op b) r
def LY (r:Ws):Option Vw:=match cN r with
 |none=>Z
 |some (n,r)=>match cN r with
  |none=>Z
  |some (s,r)=>match atF r with
   |none=>Z
   |some (a,r)=>GM (.get n s a) r
def LW (r:Ws):Option Vw:=match cN r with
 |none=>Z
 |some (s,r)=>match ES r with
  |none=>Z
  |some (a,r)=>match atF r with
   |none=>Z
   |some (i,r)=>GM (.put s a i) r
def Fk (f:Wd->Vw) (r:Ws):Option Vw:=match ES r with
 |none=>Z
 |some (a,r)=>GM (f a) r
def Lk (r:Ws):Option Vw:=match Il 4 r with
 |none=>Z
 |some (n,r)=>GM (.loop n) r
def IF (w:ByteArray) (r:Ws):Option Vw:=
 if bs w=Fw then Kd r
 else if bs w=DQ then LY r
 else if bs w=EF then LW r
 else if bs w=Iz then Fk .out r
 else if bs w=A8 then GM .atomic r
 else if bs w=Uj then Fk .Es r
 else if bs w=EW then Lk r
 else Z
namespace qH
def EV (x:qH):Nat:=if x.Aa=[] then 0 else J x.Ad+1
def BB (x:qH):Bool:=x.Ad.any λf=>f.kind.Cn
def Cz (x:qH) (w:Wd):Except Int At:=
 if w.name.size=0 then .ok ⟨I,w.v⟩ else if 0<=Be x.AA w.name then .ok ⟨V,Be x.AA w.name⟩ else .error 4
def Wj (x:qH) (n:ByteArray):Option mH:=x.Ax.find? λs=>decide (bs s.name=bs n)
def Df (x:qH) (n:ByteArray):Except Int (Int×qH):=
 if (x.Wj n).isSome then .error 4
 else if 0<=Be x.AA n then .ok (Be x.AA n,x)
 else if J x.AA=4 then .error 5
 else .ok (J x.AA,{x with AA:=x.AA++[n]})
def cell (x:qH) (n:ByteArray) (AN:Wd):Except Int (Int×Int×At):=match x.Wj n with
 |none=> .error 4
 |some s=>match x.Cz AN with
  |.error c=> .error c
  |.ok a=> .ok (s.first,s.size,a)
def add (x:qH) (s:Bj->Bj):qH:=
 match x.Ad.getLast? with
 |some f=>{x with Ad:=x.Ad.dropLast++[{f with body:=f.body.FQ (s .nil)}]}
 |none=>match x.Aa.getLast? with
  |some t=>{x with Aa:=x.Aa.dropLast++[t.FQ (s .nil)]}
  |none=>x
def DU (x:qH) (k:KQ):qH:={x with Ad:=x.Ad++[⟨k,.nil⟩]}
def finish (x:qH):Vw->Except Int qH
 |.set n a op b=>match x.Cz a with
  |.error c=> .error c
  |.ok a=>match x.Cz b with
   |.error c=> .error c
   |.ok b=>match x.Df n with
    |.error c=> .error c
    |.ok (v,x)=> .ok (x.add (.set v op a b))
 |.get n s AN=>match x.cell s AN with
  |.error c=> .error c
  |.ok (f,z,a)=>match x.Df n with
   |.error c=> .error c
   |.ok (v,x)=> .ok (x.add (.get v f z a))
 |.put s a AN=>match x.cell s AN with
  |.error c=> .error c
  |.ok (f,z,i)=>match x.Cz a with
   |.error c=> .error c
   |.ok a=> .ok (x.add (.put f z i a))
 |.out a=>match x.Cz a with
  |.error c=> .error c
  |.ok a=> .ok (x.add (.out a))
 |.atomic=> .ok (x.DU .atomic)
 |.Es a=>match x.Cz a with
  |.error c=> .error c
  |.ok a=> .ok (x.DU (.Es a))
 |.loop n=> .ok (x.DU (.loop n))
def Bd (x:qH) (w:ByteArray) (r:Ws):Except Int qH:=match IF w r with
 |none=> .error 2
 |some s=>if x.Aa=[]\/(s.Cn=V/\x.BB=I)\/(bs w=A8/\x.BB=V) then .error 3
  else match x.finish s with
   |.error c=> .error c
   |.ok y=>if 14<y.Ah+1\/4<y.EV then .error 5 else .ok {y with Ah:=y.Ah+1}
def Ec (x:qH) (r:Ws):Except Int qH:=match cN r with
 |none=> .error 2
 |some (n,r)=>match (match r with|[]=>U (1,[])|a::r=>Il 6 (a::r)) with
  |none=> .error 2
  |some (_,_::_)=> .error 2
  |some (size,[])=>if x.Aa≠[] then .error 3 else if (x.Wj n).isSome then .error 4
   else .ok {x with Ax:=x.Ax++[⟨n,x.cells,size⟩],cells:=x.cells+size}
def row (x:qH):Ws->Except Int qH
 |[]=> .error 2
 |w::r=>
  if bs w=AR then x.Ec r
  else if bs w=AE then
   if r≠[] then .error 2 else if x.Ad≠[] then .error 3
   else .ok {x with Aa:=x.Aa++[.nil],AA:=[],Ah:=0,Ad:=[]}
  else if bs w=EK then
   if r≠[] then .error 2 else match x.Ad.getLast? with
    |none=> .error 3
    |some f=> .ok ({x with Ad:=x.Ad.dropLast}.add f.done)
  else x.Bd w r
end qH
def As:Bj->Int->Option (Int×Int)
 |.nil,_=>U (0,0)
 |.set _ _ _ _ r,n=>As r n
 |.get _ _ _ _ r,n=>As r n
 |.put _ _ _ _ r,n=>As r n
 |.out _ r,n=>match As r n with|none=>Z|some (b,o)=>U (b,n+o)
 |.Es _ b r,n=>match As b n with
  |none=>Z
  |some (b1,o1)=>match As r n with|none=>Z|some (b2,o2)=>U (b1+b2,o1+o2)
 |.loop k b r,n=>match As b (n*k) with
  |none=>Z
  |some (b1,o1)=>match As r n with|none=>Z|some (b2,o2)=>U (b1+b2,o1+o2)
 |.atomic b r,n=>match As b 1 with
  |none=>Z
  |some (_,e)=>if 8<e then Z else match As r n with|none=>Z|some (b2,o2)=>U (n+b2,o2)
def Ej (x:qH):Bool:=decide (x.cells<=6) && (decide (J x.Aa<=3) && x.Aa.all λt=>match As t 1 with|none=>I|some (b,_)=>decide (b<=3))
def II (n:Nat) (x:qH):Except (Int×Nat) qH:=
 if x.Ad≠[]\/x.Aa=[] then .error (3,n+1) else if Ej x then .ok x else .error (5,0)
def IG:List By->Nat->qH->Except (Int×Nat) qH
 |[],n,x=>II n x
 |[p],n,x=>if p=[]/\0<n then II n x else .error (2,n+1)
 |p::q::r,n,x=>match x.row (Bt p) with
  |.error c=> .error (c,n+1)
  |.ok y=>IG (q::r) (n+1) y
def Fl (s:By):Except (Int×Nat) qH:=if 2000<J s then .error (1,0) else IG (AD 10 s) 0 .Dr
structure Nd where
 kind:Nat
 v:Int
 op:ByteArray
 a:At
 b:At
 AN:At
 first:Int
 size:Int
 CL:Int
 n:Int
 Af:Int
def Nd.of (k:Nat):Nd:=⟨k,0,⟨#[]⟩,.zero,.zero,.zero,0,0,0,0,0⟩
structure RP where
 Aa:List (List Nd)
 cells:Int
 Ap:List (List Bool)
 BX:List Bool
structure RS where
 p:RP
 Ax:List ByteArray
 first:List Int
 size:List Int
 AA:List ByteArray
 Ad:List Nat
 Ah:Int
def RS.Dr:RS:=⟨⟨[],0,[],[]⟩,[],[],[],[],[],0⟩
namespace RS
def Dv (r:RS):List Nd:=(r.p.Aa.getLast?).getD []
def BA (r:RS) (l:List Nd):RS:={r with p:={r.p with Aa:=r.p.Aa.dropLast++[l]}}
def Cz (r:RS) (s:ByteArray):At×Bool:=match number (bs s) with
 |some v=>(⟨I,v⟩,V)
 |none=>(⟨V,Be r.AA s⟩,decide (0<=Be r.AA s))
def GN (r:RS) (c:Int):RS:={r with p:={r.p with Ap:=r.p.Ap.dropLast++[((r.p.Ap.getLast?).getD []).set c.toNat V]}}
def FX (r:RS):RS:={r with p:={r.p with BX:=r.p.BX.dropLast++[V]}}
def cell (r:RS) (x:Nd) (s:ByteArray) (w:Ws):RS×Nd×Bool:=
 let k:=Be r.Ax s
 if k<0 then (r,x,I) else
  let x:={x with first:=r.first.getD k.toNat 0,size:=r.size.getD k.toNat 0}
  let r:=r.GN x.first
  if J w=5 then
   let (a,ok):=r.Cz (wd w 4)
   (r,{x with AN:=a},ok)
  else (r,x,V)
def Ml (r:RS) (x:Nd) (s:ByteArray):Except Int (RS×Nd):=
 if 0<=Be r.Ax s then .error 4
 else if 0<=Be r.AA s then .ok (r,{x with v:=Be r.AA s})
 else if J r.AA=4 then .error 5
 else .ok ({r with AA:=r.AA++[s]},{x with v:=J r.AA})
def node (r:RS) (w:Ws):Except Int (RS×Nd):=
 let w0:=bs (wd w 0)
 if w0=Fw then
  let (a,ok):=r.Cz (wd w 2)
  let x:={Nd.of 115 with a:=a}
  let (x,ok):=if J w=5 then
    let (b,too):=r.Cz (wd w 4)
    ({x with op:=wd B4 (Be Dc (wd w 3)).toNat,b:=b},ok && too)
   else (x,ok)
  if ok then r.Ml x (wd w 1) else .error 4
 else if w0=DQ then
  let (r,x,ok):=r.cell (.of 103) (wd w 2) w
  if ok then r.Ml x (wd w 1) else .error 4
 else if w0=EF then
  let (r,x,ok):=r.cell (.of 112) (wd w 1) w
  let (a,fine):=r.Cz (wd w 2)
  if ok && fine then .ok (r.FX,{x with a:=a}) else .error 4
 else if w0=Iz then
  let (a,fine):=r.Cz (wd w 1)
  if fine then .ok (r,{Nd.of 111 with a:=a}) else .error 4
 else if w0=Uj then
  let (a,fine):=r.Cz (wd w 1)
  if fine then .ok (r,{Nd.of 122 with a:=a}) else .error 4
 else if w0=EW then .ok (r,{Nd.of 108 with n:=(number (bs (wd w 1))).getD 0})
 else if w0=A8 then .ok (r,.of 40)
 else .ok (r,.of 0)
def Ec (r:RS) (w:Ws):Except Int RS:=
 if r.p.Aa≠[] then .error 3 else if 0<=Be r.Ax (wd w 1) then .error 4
 else
  let n:=if 2<J w then (number (bs (wd w 2))).getD 0 else 1
  .ok {r with Ax:=r.Ax++[wd w 1],first:=r.first++[r.p.cells],size:=r.size++[n],p:={r.p with cells:=r.p.cells+n}}
def Px (r:RS):Except Int RS:=match r.Ad.getLast? with
 |none=> .error 3
 |some AN=>
  let l:=r.Dv
  let k:=(l.getD AN (.of 0)).kind
  let l:=if k=40 then l++[.of 41] else if k=108 then l++[{Nd.of 98 with CL:=AN+1,Af:=(l.getD AN (.of 0)).Af}] else l
  .ok ({r with Ad:=r.Ad.dropLast}.BA (l.set AN {l.getD AN (.of 0) with CL:=J l}))
def BB (r:RS):Bool:=r.Ad.any λk=>(r.Dv.getD k (.of 0)).kind==40
def row (r:RS) (w:Ws):Except Int RS:=
 let w0:=bs (wd w 0)
 if w0=AR then r.Ec w
 else if w0=AE then
  if r.Ad≠[] then .error 3
  else .ok {r with p:={r.p with Aa:=r.p.Aa++[[]],Ap:=r.p.Ap++[List.replicate r.p.cells.toNat I],BX:=r.p.BX++[I]},AA:=[],Ah:=0}
 else if w0=EK then r.Px
 else if r.p.Aa=[]\/(r.BB=I/\(w0=DQ\/w0=EF))\/(r.BB=V/\w0=A8) then .error 3
 else match r.node w with
  |.error c=> .error c
  |.ok (r,x)=>
   if 14<r.Ah+1 then .error 5
   else if x.kind=122\/x.kind=108\/x.kind=40 then
    if J r.Ad=3 then .error 5
    else .ok ({r with Ah:=r.Ah+1,Ad:=r.Ad++[J r.Dv]}.BA (r.Dv++[{x with Af:=J r.Ad}]))
   else .ok ({r with Ah:=r.Ah+1}.BA (r.Dv++[x]))
end RS
structure Ez where
 blocks:Int
 An:Int
 BE:Int
 CV:List Int
 BY:List Int
 Ff:Bool
def Ez.Dr:Ez:=⟨0,0,0,[1],[1],I⟩
def Ez.step (c:Ez) (x:Nd):Ez:=
 let o:=(c.CV.getLast?).getD 0
 let i:=(c.BY.getLast?).getD 0
 if x.kind=108 then {c with CV:=c.CV++[o*x.n],BY:=c.BY++[if c.Ff then i*x.n else 1]}
 else if x.kind=98 then {c with CV:=c.CV.dropLast,BY:=c.BY.dropLast}
 else if x.kind=40 then {c with blocks:=c.blocks+o,An:=0,Ff:=V,BY:=c.BY.dropLast++[1]}
 else if x.kind=41 then {c with Ff:=I}
 else if x.kind=111 then (if c.Ff then {c with An:=c.An+i,BE:=if c.BE<c.An+i then c.An+i else c.BE} else c)
 else c
def Ie (l:List Nd):Int×Int:=let c:=l.foldl Ez.step .Dr;(c.blocks,c.BE)
def Ku (n:Nat) (r:RS):Except (Int×Nat) RP:=
 if r.Ad≠[]\/r.p.Aa=[] then .error (3,n+1)
 else if (r.p.Aa.any λt=>decide (3<(Ie t).1) || decide (8<(Ie t).2)) || (decide (6<r.p.cells) || decide (3<J r.p.Aa)) then .error (5,0)
 else .ok r.p
def Nb:List By->Nat->RS->Except (Int×Nat) RP
 |[],n,r=>Ku n r
 |[p],n,r=>if p=[]/\0<n then Ku n r else .error (2,n+1)
 |p::q::l,n,r=>if Bv (Bt p) then match r.row (Bt p) with
   |.error c=> .error (c,n+1)
   |.ok r=>Nb (q::l) (n+1) r
  else .error (2,n+1)
def FL (s:By):Except (Int×Nat) RP:=if 2000<J s then .error (1,0) else Nb (AD 10 s) 0 .Dr
structure Pj (R:RS) (n:Nat):Prop where
 bn:J R.Ax+J R.p.Aa<=n
 nn:n<=2500
 c0:0<=R.p.cells
 c1:R.p.cells<=6*J R.Ax
 fi:∀c,c∈R.first->0<=c/\c<R.p.cells
 tc:∀t,t∈R.p.Ap->(J t:Int)=R.p.cells
structure Wy (R:RS):Prop where
 ne:R.Ad≠[]->R.p.Aa≠[]
 lt:∀k,k∈R.Ad->k<J R.Dv
 ol:J R.Ad<=3
 nl:J R.Dv<=100
def Di:Bj->Nat
 |.nil=>0
 |.set _ _ _ _ r=>1+Di r
 |.get _ _ _ _ r=>1+Di r
 |.put _ _ _ _ r=>1+Di r
 |.out _ r=>1+Di r
 |.atomic b r=>1+Di b+1+Di r
 |.Es _ b r=>1+Di b+Di r
 |.loop _ b r=>1+Di b+1+Di r
def Ca:Bj->Nat->Nat->List Nd
 |.nil,_,_=>[]
 |.set v op a b r,d,p=>{Nd.of 115 with v:=v,op:=op,a:=a,b:=b}::Ca r d (p+1)
 |.get v f s a r,d,p=>{Nd.of 103 with v:=v,first:=f,size:=s,AN:=a}::Ca r d (p+1)
 |.put f s i a r,d,p=>{Nd.of 112 with a:=a,first:=f,size:=s,AN:=i}::Ca r d (p+1)
 |.out a r,d,p=>{Nd.of 111 with a:=a}::Ca r d (p+1)
 |.atomic b r,d,p=>{Nd.of 40 with Af:=d,CL:=(p+1+Di b+1:Nat)}::(Ca b (d+1) (p+1)++Nd.of 41::Ca r d (p+1+Di b+1))
 |.Es a b r,d,p=>{Nd.of 122 with a:=a,Af:=d,CL:=(p+1+Di b:Nat)}::(Ca b (d+1) (p+1)++Ca r d (p+1+Di b))
 |.loop n b r,d,p=>{Nd.of 108 with n:=n,Af:=d,CL:=(p+1+Di b+1:Nat)}::(Ca b (d+1) (p+1)++{Nd.of 98 with CL:=(p+1:Nat),Af:=d}::Ca r d (p+1+Di b+1))
theorem CX (s:Bj) (d p:Nat):(Ca s d p).length=Di s:=by
 induction s generalizing d p<;>simp_all[Ca,Di]<;>omega
theorem lP (s t:Bj) (d p:Nat):Ca (s.FQ t) d p=Ca s d p++Ca t d (p+Di s):=by
 induction s generalizing p<;>grind [Bj.FQ,Ca,Di]
def DN (k:KQ) (d:Nat):Nd:=match k with
 |.atomic=>{Nd.of 40 with Af:=d}
 |.Es a=>{Nd.of 122 with a:=a,Af:=d}
 |.loop n=>{Nd.of 108 with n:=n,Af:=d}
def Gz:List Fr->Nat->Nat->List Nd
 |[],_,_=>[]
 |f::fs,d,p=>DN f.kind d::(Ca f.body (d+1) (p+1)++Gz fs (d+1) (p+1+Di f.body))
def NQ:List Fr->Nat
 |[]=>0
 |f::fs=>1+Di f.body+NQ fs
def NL:List Fr->Nat->List Nat
 |[],_=>[]
 |f::fs,p=>p::NL fs (p+1+Di f.body)
theorem Vl (fs:List Fr) (d p:Nat):(Gz fs d p).length=NQ fs:=by
 induction fs generalizing d p<;>grind [Gz,NQ,CX]
theorem Abj (fs gs:List Fr):NQ (fs++gs)=NQ fs+NQ gs:=by
 induction fs<;>grind [NQ]
theorem Wg (fs gs:List Fr) (d p:Nat):Gz (fs++gs) d p=Gz fs d p++Gz gs (d+J fs) (p+NQ fs):=by
 induction fs generalizing d p<;>grind [Gz,NQ]
theorem YP (fs gs:List Fr) (p:Nat):NL (fs++gs) p=NL fs p++NL gs (p+NQ fs):=by
 induction fs generalizing p<;>grind [NL,NQ]
theorem ki (fs:List Fr) (p:Nat):(NL fs p).length=J fs:=by
 induction fs generalizing p<;>grind [NL]
structure Ms (x:qH) (r:RS):Prop where
 cells:r.p.cells=x.cells
 cO:r.Ax=x.Ax.map mH.name
 first:r.first=x.Ax.map mH.first
 size:r.size=x.Ax.map mH.size
 AA:r.AA=x.AA
 Ah:r.Ah=x.Ah
 depth:J x.Ad<=3
 Aa:(x.Aa=[]/\x.Ad=[]/\r.p.Aa=[]/\r.Ad=[])\/
  ∃ts t,x.Aa=ts++[t]/\r.p.Aa=ts.map (Ca · 0 0)++[Ca t 0 0++Gz x.Ad 0 (Di t)]/\r.Ad=NL x.Ad (Di t)
theorem Ms.Dr:Ms .Dr .Dr:=⟨rfl,rfl,rfl,rfl,rfl,rfl,Jr _,.inl ⟨rfl,rfl,rfl,rfl⟩⟩
theorem UI (f:α->ByteArray) (l:List α) (n:ByteArray) (k:Nat):
  match l.find? (λs=>decide (bs (f s)=bs n)) with
  |none=>Ee (l.map f) n k= -1
  |some s=>∃i,l[i]?=U s/\Ee (l.map f) n k=((k+i:Nat):Int):=by
 induction l generalizing k with
 |nil=>simp[Ee]
 |cons a r ih=>
  simp only[UV,Js,Ee];by_cases h:bs (f a)=bs n
  .simp only[h,decide_true,Jb];exact⟨0,rfl,rfl⟩
  .simp only[h,decide_false,J1];have:=ih (k+1);generalize List.find? (λs=>decide (bs (f s)=bs n)) r=q at this⊢;cases q with
   |none=>exact this
   |some s=>
    obtain⟨i,h1,h2⟩:=this;exact⟨i+1,AC,AC⟩
theorem Wi {x:qH} {n:ByteArray} (h:x.Wj n=Z):Be (x.Ax.map mH.name) n= -1:=by
 have:=UI mH.name x.Ax n 0;unfold qH.Wj at h;rw[h] at this;exact this
theorem Wh {x:qH} {n:ByteArray} {s:mH} (h:x.Wj n=U s):∃i:Nat,x.Ax[i]?=U s/\Be (x.Ax.map mH.name) n=i:=by
 have:=UI mH.name x.Ax n 0;grind [qH.Wj,Be]
