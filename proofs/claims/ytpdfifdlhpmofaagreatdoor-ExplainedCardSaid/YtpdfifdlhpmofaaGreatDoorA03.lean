/- Part 3 of the proof. -/
import Derived.Test.YtpdfifdlhpmofaaGreatDoorA02
set_option linter.unusedVariables false
set_option linter.unusedSimpArgs false
set_option maxHeartbeats 0
set_option maxRecDepth 99999
namespace Go.Proofs.YtpdfifdlhpmofaaGreatDoor
open Go.RowKit Tryz
open Value renaming slice->qD,string->qE,bool->qF,tuple->qG,agg->qH,pointer->qI
open Ending renaming returned->qJ
open Obj renaming cells->qK
open Option renaming none->Z,some->U
open Bool renaming true->V,false->I
open Go.Lib renaming hid->D
open List renaming length->J
variable {p:Prop}
theorem mah (h:p:=by
 go_wp2;all_goals (go_ret;refine⟨CQ ?_,Aw.refl _ _⟩;rw[HF.out];clear HF SC oo oh og HX ku cI Ls H5 HS;first|grind|(cases A<;>cases B<;>cases C<;>first|grind|simp_all))):p:=h
theorem mao (h:p:=by
 have h1:=H.2 j (ready_mono hj yy);obtain⟨AmT,oj,hoj,Da⟩:=mem_ready.1 hj;have Afz:∀e∈oj.after,Region.binds md e=V->e.on≠i:=λe he hb heq=>by
  have h1:=Da e he hb;have h0:=(mem_ready.1 hr).1;rw[heq] at h1;grind
 have h2:=wpOp_putIf hoj AC AC AC hQ hy h1;have rW:∀k ok,Bh[k]?=U ok->k≠i->(listed.setIfInBounds j V).getD k V=I->
   (∀e∈ok.after,Region.binds md e=V->e.on≠i)->oi.apart Bh ok=V:=λk ok hk hki hun SN=>by
  refine Xy k ok hk hki ?_ SN;by_cases hjk:j=k;grind;grind [getD_set_ne V hjk]
 refine wpOp_mono (λa' w' h3=>⟨h3.2.1,ih (listed.setIfInBounds j V) a' w' (Cs.set hj) rW (ready_mono hr AC) h3.1 (AC) ?_⟩) h2;rw[Array.setIfInBounds_comm _ _ yy];exact h3.2.2):p:=h
theorem maK (h:p:=by
 have c1:=H5.out 1 Y;go_wp2_with (go_at_call 55;refine(cI _ (HS 1) _).mono ?_;rintro e w' ⟨rfl,rfl⟩);all_goals (go_ret;refine⟨CQ ?_,Aw.refl _ _⟩;rw[HF.out];clear HF SC oo oh og HX ku cI Ls H5 HS;first|grind|(simp only[Ds];grind))):p:=h
theorem maO (h:p:=by
 go_wp2_with (go_at_call 93;refine(HRg _).mono ?_;rintro e w' ⟨rfl,rfl⟩)
 go_meet
 exact⟨_,_,rfl,HZ,((fG).F8 (Qj (JG _)) _).alloc _,((vI).set 8 _).alloc _,((SX).setCell (.inr (JJ _)) _).alloc _⟩):p:=h
theorem ma2 (h:p:=by
 intro listed a w _ _ hr hy hS H;refine⟨AC,λj hj=>?_⟩;by_cases yy:j=i
 .subst yy;exact hy.wpOp hi hS AC
 .have:=ready_mono hj yy;rw[H.1] at this;cases this):p:=h
theorem ma4 (h:p:=by
 have hK:=D (Ju hk);go_wp2
 go_meet
 exact⟨rfl,by rw[hK.out,jT]⟩):p:=h
theorem mbx (h:p:=by
 go_ret;refine⟨CQ ?_,rfl⟩;rw[Zr (bs s) k (by rw[Bt];exact hlt)];rw[Hg.out,Yk,decide_eq_false_iff_not];omega):p:=h
variable {w w':World} {ok:Nat->Prop} {v:Value} {xs:List Value} {M:List Nat} {a:Act} {b k Ac size g cap i s d j:Nat} {l:List ByteArray} {x:ByteArray} {e T:TypeId} {o oi:Oper} {c:Array Value} {E P' Q':Prop} {α:Type} {listed:Array Bool} {rest:List (Nat×Bool)} {R K:Act->World->Prop} {P:Program} {Bh:Array Oper} {Q:Exit->Act->World->Prop}
def low (c:UInt8):Bool:=97<=c && c<=122
def Ci (s:By):Bool:=s.all low && (decide (0<J s) && decide (J s<=6))
theorem Zr (l:By) (k:Nat) (hk:k<J l) (h:low l[k]=I):Ci l=I:=by
 unfold Ci;have:l.all low=I:=by
  rw[List.all_eq_false];exact⟨l[k],JO hk,by simp[h]⟩
 simp[this]
theorem Yk (c:UInt8):low c=decide (97<=(c.toNat:Int)/\(c.toNat:Int)<=122):=by
 unfold low;rw[Q5];simp[UInt8.le_iff_toNat_le];omega
theorem dM (s:ByteArray) (w:World) (hs:s.size<=maxLen):
  Calls prog 54 #[qE s] w λe w'=>e= qJ (qF (Ci (bs s)))/\w'=w:=by
 unfold maxLen at hs;go_enter func54,ntmps54;go_wp2
 go_loop [3] (λi=>∃k:Nat,k<=s.size/\i= iI k/\((bs s).take k).all low=V) (λi=>s.size-(intOf i).toNat)
 case atStart=>exact⟨0,Jo _,rfl,rfl⟩
 case round=>
  obtain⟨k,hk,rfl,Da⟩:=hrel;have Kb:=D Da;clear Da;by_cases hlt:k<s.size
  .have hg:(bs s)[k]'(by rw[Bt];exact hlt)=s[k]:=rfl;have Hg:=D hg;clear hg;go_wp2
   .exact mbx
   .go_round
    case rel=>
     refine⟨k+1,Y,by go_num,?_⟩;rw[cB _ _ _ (by rw[Bt];exact hlt),Kb.out,Hg.out,Yk,Qo,JD];omega
    case measure=>simp[intOf];omega
   .exact mbx
  .have hE:(bs s).take k=bs s:=JV (by rw[Bt];omega);have HE:=D hE;clear hE;go_wp2;all_goals
    go_ret;refine⟨CQ ?_,rfl⟩;have:=Kb.out;rw[HE.out] at this;unfold Ci;rw[this,Bt,Qo];first|(rw[JC (by assumption:0<s.size),Qo];congr 1;exact propext ⟨λ_=>Y,λ_=>Y⟩)|(rw[Ju (by assumption:¬0<s.size),jT])
def ED (below:Bool):By->Int->Option Int
 |[],v=>U v
 |c::r,v=>if (c.toNat:Int)<48\/57<(c.toNat:Int) then Z else
   ED below r (if below then wrap64 (wrap64 (10*v)-((c.toNat:Int)-48)) else wrap64 (wrap64 (10*v)+((c.toNat:Int)-48)))
def Ll:By:=[57,50,50,51,51,55,50,48,51,54,56,53,52,55,55,53,56,48,55]
def Lm:By:=[57,50,50,51,51,55,50,48,51,54,56,53,52,55,55,53,56,48,56]
def Gc (below:Bool) (t:By) (Cd:By):Bool:=
 t.isEmpty || decide (J Cd<J t) || (decide (J t=J Cd) && (!Op.bytesLess t Cd && !(t==Cd))) || ((t.headD 0==48) && (decide (1<J t) || below))
def number (l:By):Option Int:=
 let below:=l.headD 0==45
 let t:=if below then l.tail else l
 if Gc below t (if below then Lm else Ll) then Z else ED below t 0
def ND (l:By):Value:= qG #[iI ((number l).getD 0),qF (number l).isSome]
theorem pR (B:Bool) (T M:ByteArray) (h:T.size=0):Gc B (bs T) (bs M)=V:=by
 have:=Jn ((Bt T).trans h);simp[Gc,this]
theorem u9 (T:ByteArray) (h:1<=T.size):(bs T).headD 0=T[0]:=by
 obtain⟨⟨l⟩⟩:=T;cases l with
 |nil=>exact Jk h Do
 |cons c r=>rfl
theorem nI (s:ByteArray):bs (s.extract 1 s.size)=(bs s).tail:=by
 show(s.extract 1 s.size).data.toList=_;rw[Lib.extract_data];show((bs s).drop 1).take _=_;rw[JV (by rw[WP,Bt];omega),List.drop_one]
theorem u6 (c d:UInt8):(c==d)=decide ((c.toNat:Int)=(d.toNat:Int)):=by
 rw[Q5,Q4,JD];constructor
 .intro h1;rw[h1]
 .intro h1;apply UInt8.toNat_inj.1;omega
theorem xi (B:Bool) (T M:ByteArray) (h:1<=T.size):Gc B (bs T) (bs M)=
  (decide (M.size<T.size) || (decide (T.size=M.size) && (!Op.bytesLess T.toList M.toList && !(T.toList==M.toList))) || (decide ((T[0].toNat:Int)=48) && (decide (1<T.size) || B))):=by
 have he:(bs T).isEmpty=I:=by
  rw[i6];intro h0;rw[QW,Bt] at h0;omega
 unfold Gc;rw[he,u9 T h,Bt,Bt,ByteArray.toList_eq,ByteArray.toList_eq,Q6,u6];rfl
theorem Sh (l:By) (B:Bool) (T M:By) (hB:(l.headD 0==45)=B) (hT:T=if B then l.tail else l) (hM:M=if B then Lm else Ll):
  number l=if Gc B T M then Z else ED B T 0:=by
 subst hB hT hM;rfl
theorem pQ (l:By) (B:Bool) (T M:By) (hB:(l.headD 0==45)=B) (hT:T=if B then l.tail else l) (hM:M=if B then Lm else Ll) (hN:Gc B T M=V):
  ND l= qG #[iI 0,qF I]:=by
 unfold ND;rw[Sh l B T M hB hT hM,Jd hN];rfl
theorem Xo (l:By) (B:Bool) (T M:By) (hB:(l.headD 0==45)=B) (hT:T=if B then l.tail else l) (hM:M=if B then Lm else Ll) (hN:Gc B T M=I)
  (h:ED B T 0=Z):ND l= qG #[iI 0,qF I]:=by
 unfold ND;rw[Sh l B T M hB hT hM,In (by rw[hN];simp),h];rfl
theorem lI (l:By) (B:Bool) (T M:By) (hB:(l.headD 0==45)=B) (hT:T=if B then l.tail else l) (hM:M=if B then Lm else Ll) (hN:Gc B T M=I)
  {v:Int} (h:ED B T 0=U v):ND l= qG #[iI v,qF V]:=by
 unfold ND;rw[Sh l B T M hB hT hM,In (by rw[hN];simp),h];rfl
theorem Me (s:ByteArray) (w:World) (hs:s.size<=maxLen):
  Calls prog 86 #[qE s] w λe w'=>e= qJ (ND (bs s))/\w'=w:=by
 unfold maxLen at hs;go_enter func86,ntmps86;go_upto_region 2 with(fail)
 go_cut [5] (λb w'=>w'=w/\b= qF ((bs s).headD 0==45))
 case first=>
  by_cases h0:s.size=0
  .have HE:=D (show(bs s).headD 0=0 by rw[Jn ((Bt s).trans h0)];rfl);go_wp2;all_goals go_meet
   refine⟨rfl,?_⟩;rw[HE.out];rfl
  .have h1:1<=s.size:=Y
   have HE:=D (u9 s h1);clear h0;go_wp2;all_goals go_meet
   refine⟨rfl,?_⟩;rw[HE.out,u6];rfl
 case rest=>
  obtain⟨rfl,rfl⟩:=hcut;generalize hB:((bs s).headD 0==45)=B;have HB:=D hB;clear hB
  go_upto_if 19 with(fail)
  go_cut [4] (λt w'=>w'=wc/\∃T:ByteArray,t= qE T/\bs T=(if B then (bs s).tail else bs s))
  case first=>
   cases B
   .go_wp2
    go_meet
    exact⟨rfl,s,rfl,rfl⟩
   .have h1:1<=s.size:=by
     rcases Q1 s.size with h|h
     .have:=HB.out;rw[Jn ((Bt s).trans h)] at this;exact Jk this Do
     .exact h
    have HX:=D (nI s);go_wp2
    go_meet
    exact⟨rfl,_,rfl,HX⟩
  case rest=>
   obtain⟨hw,T,rfl,hT⟩:=hcut;obtain rfl:=hw;have HT:=D hT;clear hT
   go_upto_if 22 with(fail)
   go_cut [6] (λm w'=>w'=wc/\∃M:ByteArray,m= qE M/\bs M=(if B then Lm else Ll))
   case first=>
    cases B
    .go_wp2
     go_meet
     exact⟨rfl,_,rfl,rfl⟩
    .go_wp2
     go_meet
     exact⟨rfl,_,rfl,rfl⟩
   case rest=>
    obtain⟨hw,M,rfl,hM⟩:=hcut;obtain rfl:=hw;have HM:=D hM;clear hM;go_upto_region 8 with(fail)
    go_cut [56] (λm w'=>w'=wc/\m= qF (Gc B (bs T) (bs M)))
    case first=>
     by_cases hT0:T.size=0
     .have he:T.toList.isEmpty=V:=by rw[ByteArray.toList_eq,QW];exact(Bt T).trans hT0
      have HB:=D (pR B T M hT0);clear hT0;go_wp2;all_goals go_meet
      rw[HB.out];exact⟨rfl,rfl⟩
     .have he:T.toList.isEmpty=I:=by rw[ByteArray.toList_eq,i6];intro h;rw[QW] at h;exact hT0 ((Bt T).symm.trans h)
      have h1:1<=T.size:=Y
      have HN:=D (xi B T M h1);clear hT0;go_wp2;all_goals go_meet
      all_goals (refine⟨rfl,?_⟩;rw[HN.out])
      all_goals first|(congr 1;grind)|(exfalso;grind)|skip
    case rest=>
     obtain⟨hw,rfl⟩:=hcut;obtain rfl:=hw;generalize hN:Gc B (bs T) (bs M)=N;have HN:=D hN;clear hN;cases N
     .go_wp2;have hTs:T.size<=s.size:=by
       rw[<-Bt T,HT.out,<-Bt s];cases B
       .exact Jf _
       .show(bs s).tail.length<=_;rw[QM];omega
      go_loop [8,7] (λi v=>∃(k:Nat) (x:Int),k<=T.size/\i= iI k/\v= iI x/\ED B ((bs T).drop k) x=ED B (bs T) 0) (λi _=>T.size-(intOf i).toNat)
      case atStart=>exact⟨0,0,Jo _,rfl,rfl,rfl⟩
      case round=>
       obtain⟨k,x,hk,rfl,rfl,hx⟩:=hrel;by_cases hlt:k<T.size
       .have Rv:(bs T).drop k=T[k]::(bs T).drop (k+1):=JS (by rw[Bt];exact hlt);rw[Rv] at hx;have HX:=D hx;clear hx Rv;cases B;all_goals
         go_wp2
         .go_ret2;refine⟨OS ?_,rfl⟩;rw[Xo _ _ _ _ HB.out HT.out HM.out HN.out (by rw[<-HX.out];unfold ED;rw[Jd Y])];rfl
         .go_roundw;case rel=>
           refine⟨k+1,_,Y,by go_num,rfl,?_⟩;rw[<-HX.out];conv=>rhs;unfold ED
           rw[In Y];rfl
          case measure=>simp[intOf];omega
         .go_ret2;refine⟨OS ?_,rfl⟩;rw[Xo _ _ _ _ HB.out HT.out HM.out HN.out (by rw[<-HX.out];unfold ED;rw[Jd Y])];rfl
       .rw[Qc (by rw[Bt];omega)] at hx;have HX:=D hx;clear hx;go_wp2;go_ret2;refine⟨OS ?_,rfl⟩;rw[lI _ _ _ _ HB.out HT.out HM.out HN.out HX.out.symm];rfl
     .go_wp2;go_ret2;refine⟨OS ?_,rfl⟩;rw[pQ _ _ _ _ HB.out HT.out HM.out HN.out];rfl
def Sl (w:World) (ok:Nat->Prop) (v:Value) (xs:List Value):Prop:=
 J xs<=maxLen/\((v= qD Z 0 0/\xs=[])\/
  ∃b off cap,v= qD (U ⟨b,off,Z⟩) (J xs) cap/\J xs<=cap/\cap<=maxLen/\ok b/\b<w.heap.size/\∀i,(h:i<J xs)->w.cell? ⟨b,off+i,Z⟩=U xs[i])
theorem Sl.mono {ok':Nat->Prop} (h:Sl w ok v xs) (hk:∀b,b<w.heap.size->ok b->ok' b):Sl w ok' v xs:=by
 obtain⟨hm,h|⟨b,off,cap,rfl,h1,h2,h3,h4,h5⟩⟩:=h
 .exact⟨hm,.inl h⟩
 .exact⟨hm,.inr ⟨b,off,cap,rfl,h1,h2,hk b h4 h3,h4,h5⟩⟩
theorem Sl.mod (h:Sl w ok v xs) (k:Aw M w w') (hM:∀b,ok b->b∉M):Sl w' ok v xs:=by
 obtain⟨hm,h|⟨b,off,cap,rfl,h1,h2,h3,h4,h5⟩⟩:=h
 .exact⟨hm,.inl h⟩
 .refine⟨hm,.inr ⟨b,off,cap,rfl,h1,h2,h3,JQ h4 k.size,λi hi=>?_⟩⟩;rw[<-h5 i hi];exact jJ (w:=w) (k.block b h4 (hM b h3))
theorem Sl.Mq (h:Sl w ok v xs):∃p cap,v= qD p (J xs) cap/\J xs<=cap/\cap<=maxLen:=by
 obtain⟨hm,⟨rfl,rfl⟩|⟨b,off,cap,rfl,h1,h2,h3,h4,h5⟩⟩:=h
 .exact⟨Z,0,rfl,Jf _,Jo _⟩
 .exact⟨_,_,rfl,h1,h2⟩
def Bp (l:List ByteArray):List Value:=l.map Value.string
theorem Cj (l:List ByteArray):(Bp l).length=J l:=JY _
def Ee:List ByteArray->ByteArray->Nat->Int
 |[],_,_=> -1
 |a::r,x,k=>if bs a=bs x then k else Ee r x (k+1)
def Bg (l:List ByteArray) (x:ByteArray):Int:=Ee l x 0
theorem Xb {a b:ByteArray} (h:bs a=bs b):(a.toList==b.toList)=V:=by
 rw[ByteArray.toList_eq,ByteArray.toList_eq,Q4];exact h
theorem UK {a b:ByteArray} (h:¬bs a=bs b):(a.toList==b.toList)=I:=by
 rw[ByteArray.toList_eq,ByteArray.toList_eq,Jh];exact h
theorem Gp (l:List ByteArray) (x:ByteArray) (v:Value) (w:World) (ok:Nat->Prop) (hv:Sl w ok v (Bp l)):
  Calls prog 58 #[v,qE x] w λe w'=>e= qJ (iI (Bg l x))/\w'=w:=by
 obtain⟨hm,⟨rfl,hn⟩|⟨b,off,cap,rfl,h1,h2,h3,h4,h5⟩⟩:=hv
 .have hl:l=[]:=by cases l with|nil=>rfl|cons a r=>simp[Bp] at hn
  subst hl;clear hn hm;go_enter func58,ntmps58;go_wp2
  go_loop [5] (λi=>i= iI 0) (λ_=>0)
  case atStart=>rfl
  case round=>
   obtain rfl:=hrel;go_wp2;go_ret;exact⟨rfl,rfl⟩
 .rw[Cj] at hm h1⊢;unfold maxLen at hm h2;clear h3 h4;have H5:=D h5;clear h5;go_enter func58,ntmps58;go_wp2
  go_loop [5] (λi=>∃k:Nat,k<=J l/\i= iI k/\Ee (l.drop k) x k=Bg l x) (λi=>J l-(intOf i).toNat)
  case atStart=>exact⟨0,Jo _,rfl,rfl⟩
  case round=>
   obtain⟨k,hk,rfl,hp⟩:=hrel;by_cases hlt:k<J l
   .have hc:=H5.out k (by rw[Cj];exact hlt);simp only[Bp,List.getElem_map] at hc;rw[JS hlt] at hp;by_cases he:bs l[k]=bs x
    .have hq:=Xb he;have HP:=D (show Bg l x=(k:Int) by rw[<-hp];simp only[Ee];rw[Jd he]);clear hp he;go_wp2;go_ret;exact⟨gn HP.symm,rfl⟩
    .have hq:=UK he;have HP:=D (show Ee (l.drop (k+1)) x (k+1)=Bg l x by rw[<-hp];simp only[Ee];rw[In he]);clear hp he;go_wp2
     go_round
     case rel=>exact⟨k+1,Y,by go_num,HP⟩
     case measure=>simp[intOf];omega
   .rw[Qc Y] at hp;have HP:=D hp;clear hp;go_wp2;go_ret;exact⟨gn HP,rfl⟩
theorem AdP (s:ByteArray) (w:World) (hs:s.size<=maxLen):
  Calls prog 55 #[qE s] w λe w'=>e= qJ (qF (Ci (bs s) || (number (bs s)).isSome))/\w'=w:=by
 unfold maxLen at hs;generalize hb:Ci (bs s)=b;generalize hn:number (bs s)=n;have h1:Calls prog 54 #[qE s] w λe w'=>e= qJ (qF b)/\w'=w:=by rw[<-hb];exact dM s w hs
 have h2:Calls prog 86 #[qE s] w λe w'=>e= qJ (qG #[iI (n.getD 0),qF n.isSome])/\w'=w:=by rw[<-hn];exact Me s w hs
 have H1:=D h1;have H2:=D h2;clear h1 h2 hb hn;generalize n.getD 0=x at*;generalize n.isSome=c at*;cases b<;>cases c<;>(
   go_enter func55,ntmps55;go_wp2_with (first|(go_at_call 54;refine H1.mono ?_;rintro e w' ⟨rfl,rfl⟩)|(go_at_call 86;refine H2.mono ?_;rintro e w' ⟨rfl,rfl⟩));go_ret;exact⟨rfl,rfl⟩)
def GL (s:By) (Cd:Int):Bool:=match number s with
 |some v=>decide (1<=v) && decide (v<=Cd)
 |none=>I
theorem ru (s:ByteArray) (m:Int) (w:World) (hs:s.size<=maxLen):
  Calls prog 56 #[qE s,iI m] w λe w'=>e= qJ (qF (GL (bs s) m))/\w'=w:=by
 unfold maxLen at hs;unfold GL;have h2:=Me s w hs;unfold ND at h2;generalize number (bs s)=n at*;have H2:=D h2;clear h2;cases n with
 |none=>
  go_enter func56,ntmps56;go_wp2_with (first|(go_at_call 86;refine H2.mono ?_;rintro e w' ⟨rfl,rfl⟩));go_ret;exact⟨rfl,rfl⟩
 |some v=>
  by_cases h1:1<=v<;>by_cases h3:v<=m<;>(
    go_enter func56,ntmps56;go_wp2_with (first|(go_at_call 86;refine H2.mono ?_;rintro e w' ⟨rfl,rfl⟩));go_ret;exact⟨CQ (by simp[*]),rfl⟩)
theorem Sl.new (xs:List Value) (T:TypeId) (n:Nat) (hn:J xs=n) (hb:n<=1000) (ok:Nat->Prop) (hok:ok w.heap.size):
  Sl (w.alloc (qK xs.toArray T)) ok (qD (U ⟨w.heap.size,0,Z⟩) n n) xs:=by
 subst hn;refine⟨by unfold maxLen;omega,.inr ⟨w.heap.size,0,J xs,rfl,Jf _,by unfold maxLen;omega,hok,by show _<(w.heap.push _).size;rw[QT];omega,λi hi=>?_⟩⟩;rw[(Ch.new w xs.toArray T).cell];simp[hi]
def Dc:List ByteArray:=[⟨#[43]⟩,⟨#[45]⟩,⟨#[42]⟩,⟨#[47]⟩,⟨#[37]⟩,⟨#[38]⟩,⟨#[124]⟩,⟨#[94]⟩,⟨#[60,60]⟩,⟨#[62,62]⟩,⟨#[60]⟩,⟨#[61,61]⟩]
def B7:List ByteArray:=[⟨#[97,100,100]⟩,⟨#[115,117,98]⟩,⟨#[109,117,108]⟩,⟨#[100,105,118]⟩,⟨#[109,111,100]⟩,⟨#[97,110,100]⟩,⟨#[111,114]⟩,⟨#[120,111,114]⟩,⟨#[115,104,108]⟩,⟨#[115,104,114]⟩,⟨#[108,116]⟩,⟨#[101,113]⟩]
def nY (l:List ByteArray) (w:World) (e:Ending) (w':World):Prop:=
 ∃v,e= qJ v/\Aw [] w w'/\Sl w' (λb=>w.heap.size<=b) v (Bp l)
theorem da (w:World):Calls prog 57 #[] w (nY Dc w):=by
 go_enter func57,ntmps57;go_wp2;go_ret;exact⟨_,rfl,(Aw.refl _ _).alloc _,Sl.new (Bp Dc) 9 12 rfl Y _ (Jf _)⟩
theorem cM (w:World):Calls prog 88 #[] w (nY B7 w):=by
 go_enter func88,ntmps88;go_wp2;go_ret;exact⟨_,rfl,(Aw.refl _ _).alloc _,Sl.new (Bp B7) 9 12 rfl Y _ (Jf _)⟩
def Ajc (r:Bool) (w:World) (e:Ending) (w':World):Prop:=e= qJ (qF r)/\Aw [] w w'
def Ds (s:By):Bool:=Ci s || (number s).isSome
def AQ:By:=[115,104,97,114,101,100]
def AE:By:=[116,104,114,101,97,100]
def EM:By:=[101,110,100]
def A8:By:=[97,116,111,109,105,99]
def Fz:By:=[115,101,116]
def DR:By:=[103,101,116]
def EF:By:=[112,117,116]
def IF:By:=[111,117,116]
def UD:By:=[105,102]
def EZ:By:=[108,111,111,112]
def kAt:By:=[97,116]
def wd (l:List ByteArray) (i:Nat):ByteArray:=l.getD i ByteArray.empty
def Fy (x:By) (n:Nat) (a b c g p v k1 l6 l4:Bool):Bool:=
 if x=AQ then a && (decide (n=2) || (decide (n=3) && l6))
 else if x=AE then decide (n=1) else if x=EM then decide (n=1) else if x=A8 then decide (n=1)
 else if x=Fz then a && b && (decide (n=3) || (decide (n=5) && (p && v)))
 else if x=DR then a && (decide (2<n) && g) && (decide (n=3) || (decide (n=5) && c))
 else if x=EF then a && b && (decide (n=3) || (decide (n=5) && c))
 else if x=IF then decide (n=2) && k1 else if x=UD then decide (n=2) && k1
 else if x=EZ then decide (n=2) && l4
 else I
def Bv (l:List ByteArray):Bool:=
 Fy (bs (wd l 0)) (J l) (decide (1<J l) && Ci (bs (wd l 1))) (decide (2<J l) && Ds (bs (wd l 2)))
  (decide (4<J l) && (decide (bs (wd l 3)=kAt) && Ds (bs (wd l 4)))) (Ci (bs (wd l 2))) (decide (0<=Bg Dc (wd l 3))) (Ds (bs (wd l 4)))
  (Ds (bs (wd l 1))) (GL (bs (wd l 2)) 6) (GL (bs (wd l 1)) 4)
theorem Sl.Nw {off:Nat} (h:∀i,(hi:i<(Bp l).length)->w.cell? ⟨b,off+i,Z⟩=U (Bp l)[i]) (i:Nat) (hi:i<J l):
  w.cell? ⟨b,off+i,Z⟩=U (qE (wd l i)):=by
 rw[h i (by rw[Cj];exact hi)];simp[Bp,wd,hi]
theorem CZ {k:By} (h:bs x=k):(x.toList==k)=V:=by rw[ByteArray.toList_eq,Q4];exact h
theorem Bz {k:By} (h:¬bs x=k):(x.toList==k)=I:=by rw[ByteArray.toList_eq,Jh];exact h
theorem Ky (h:∀s,s∈l->s.size<=maxLen) (i:Nat):(wd l i).size<=maxLen:=by
 unfold wd;rcases jR i (J l) with hi|hi
 .rw[Ja,Jb hi];exact h _ (JO hi)
 .rw[Ja,QC hi];exact Jo _
theorem Ace (l:List ByteArray) (v:Value) (w:World) (ok:Nat->Prop) (hv:Sl w ok v (Bp l)) (hne:l≠[]) (hs:∀s,s∈l->s.size<=maxLen):
  Calls prog 36 #[v] w (Ajc (Bv l) w):=by
 have hlen:0<J l:=by cases l with|nil=>exact Jk rfl hne|cons a r=>simp
 obtain⟨hm,⟨rfl,hn⟩|⟨b,off,cap,rfl,h1,h2,h3,h4,h5⟩⟩:=hv
 .exact Jk (by cases l with|nil=>rfl|cons a r=>simp[Bp] at hn) hne
 rw[Cj] at hm h1⊢;unfold maxLen at hm h2;have c0:=Sl.Nw h5 0 hlen;simp only[J4] at c0;have H5:=D (Sl.Nw h5);have S:=λi=>Ky hs i
 have HS:=D S;have HN:=λs hs w=>dM s w hs
 have HA:=λs hs w=>AdP s w hs
 have HL:=λs m hs w=>ru s m w hs
 have ku:=D HN;have cI:=D HA;have Ls:=D HL;clear h5 h3 h4 hs S HN HA HL hne;generalize hX:wd l 0=x at c0;have HX:=D hX;clear hX;go_enter func36,ntmps36;go_upto_region 3 with(fail)
 go_cut [5] (λa w'=>w'=w/\a= qF (decide (1<J l) && Ci (bs (wd l 1))))
 case first=>
  by_cases hk:1<J l
  .have c1:=H5.out 1 hk;have hK:=D (JC hk);go_wp2_with (go_at_call 54;refine(ku _ (HS 1) _).mono ?_;rintro e w' ⟨rfl,rfl⟩)
   go_meet
   exact⟨rfl,by rw[hK.out,Qo]⟩
  .exact ma4
 case rest=>
  obtain⟨hw,rfl⟩:=hcut;obtain rfl:=hw;generalize hA:(decide (1<J l) && Ci (bs (wd l 1)))=A;have oo:=D hA;clear hA;go_upto_region 4 with(fail)
  go_cut [6] (λa w'=>w'=wc/\a= qF (decide (2<J l) && Ds (bs (wd l 2))))
  case first=>
   by_cases hk:2<J l
   .have c1:=H5.out 2 hk;have hK:=D (JC hk);go_wp2_with (go_at_call 55;refine(cI _ (HS 2) _).mono ?_;rintro e w' ⟨rfl,rfl⟩)
    go_meet
    exact⟨rfl,by rw[hK.out,Qo];rfl⟩
   .exact ma4
  case rest=>
   obtain⟨hw,rfl⟩:=hcut;obtain rfl:=hw;generalize hB:(decide (2<J l) && Ds (bs (wd l 2)))=B;have oh:=D hB;clear hB
   go_upto_if 35 with(fail)
   go_cut [7] (λa w'=>w'=wc/\a= qF (decide (4<J l) && (decide (bs (wd l 3)=kAt) && Ds (bs (wd l 4)))))
   case first=>
    by_cases hk:4<J l
    .have c1:=H5.out 3 Y;have c2:=H5.out 4 hk;have hK:=D (JC hk);by_cases he:bs (wd l 3)=kAt
     .have hq:=CZ he;have hE:=D (JC he);clear he;unfold kAt at hq;go_wp2_with (go_at_call 55;refine(cI _ (HS 4) _).mono ?_;rintro e w' ⟨rfl,rfl⟩)
      go_meet
      exact⟨rfl,by rw[hK.out,hE.out,Qo,Qo];rfl⟩
     .have hq:=Bz he;have hE:=D (Ju he);clear he;unfold kAt at hq;go_wp2
      go_meet
      exact⟨rfl,by rw[hK.out,hE.out,Qo,jT]⟩
    .exact ma4
   case rest=>
    obtain⟨hw,rfl⟩:=hcut;obtain rfl:=hw;generalize hC:(decide (4<J l) && (decide (bs (wd l 3)=kAt) && Ds (bs (wd l 4))))=C;have og:=D hC;clear hC;have HB0:Bv l=Fy (bs x) (J l) A B C (Ci (bs (wd l 2))) (decide (0<=Bg Dc (wd l 3))) (Ds (bs (wd l 4))) (Ds (bs (wd l 1))) (GL (bs (wd l 2)) 6) (GL (bs (wd l 1)) 4):=by
     rw[<-HX.out,<-oo.out,<-oh.out,<-og.out];rfl
    have SC:=D HB0;clear HB0;by_cases Sq:bs x=AQ
    .have qShared:=CZ Sq;have HF:=D (show Bv l=(A && (decide (J l=2) || (decide (J l=3) && GL (bs (wd l 2)) 6))) from SC.trans (by rw[Sq];rfl));clear Sq;unfold AQ at qShared;by_cases n3:J l=3
     .have c2:=H5.out 2 Y;go_wp2_with (go_at_call 56;refine(Ls _ _ (HS 2) _).mono ?_;rintro e w' ⟨rfl,rfl⟩);all_goals (go_ret;refine⟨CQ ?_,Aw.refl _ _⟩;rw[HF.out];clear HF SC oo oh og HX ku cI Ls H5 HS;first|grind|(cases A<;>cases B<;>cases C<;>first|grind|simp_all))
     .exact mah
    have qShared:=Bz Sq;unfold AQ at qShared;by_cases Sp:bs x=AE
    .have qThread:=CZ Sp;have HF:=D (show Bv l=(decide (J l=1)) from SC.trans (by rw[Sp];rfl));clear Sp;unfold AE at qThread;exact mah
    have qThread:=Bz Sp;unfold AE at qThread;by_cases yL:bs x=EM
    .have qEnd:=CZ yL;have HF:=D (show Bv l=(decide (J l=1)) from SC.trans (by rw[yL];rfl));clear yL;unfold EM at qEnd;exact mah
    have qEnd:=Bz yL;unfold EM at qEnd;by_cases Sr:bs x=A8
    .have qAtomic:=CZ Sr;have HF:=D (show Bv l=(decide (J l=1)) from SC.trans (by rw[Sr];rfl));clear Sr;unfold A8 at qAtomic;exact mah
    have qAtomic:=Bz Sr;unfold A8 at qAtomic;by_cases yH:bs x=Fz
    .have qSet:=CZ yH;have HF:=D (show Bv l=(A && B && (decide (J l=3) || (decide (J l=5) && (decide (0<=Bg Dc (wd l 3)) && Ds (bs (wd l 4)))))) from SC.trans (by rw[yH];rfl));clear yH;unfold Fz at qSet;by_cases n5:J l=5
     .have c3:=H5.out 3 Y;have c4:=H5.out 4 Y;go_wp2_with fail;refine(da _).mono ?_;rintro e w1 ⟨v1,rfl,Dk,Ti⟩;have c3':=(AH Dk c3);have c4':=(AH Dk c4);have HP:=D (Gp Dc (wd l 3) v1 w1 _ Ti);generalize hP:Bg Dc (wd l 3)=P at HF HP;clear hP;have HM:=D Dk;clear Dk Ti;go_wp2_with fail;refine(HP).mono ?_;rintro e w2 ⟨rfl,rfl⟩;go_wp2_with (go_at_call 55;refine(cI _ (HS 4) _).mono ?_;rintro e w' ⟨rfl,rfl⟩);all_goals (go_ret;refine⟨CQ ?_,HM⟩;rw[HF.out];clear HP HF SC oo oh og HX ku cI Ls H5 HS HM;first|grind|(simp only[Ds];grind))
     .exact mah
    have qSet:=Bz yH;unfold Fz at qSet;by_cases yK:bs x=DR
    .have qGet:=CZ yK;have HF:=D (show Bv l=(A && (decide (2<J l) && Ci (bs (wd l 2))) && (decide (J l=3) || (decide (J l=5) && C))) from SC.trans (by rw[yK];rfl));clear yK;unfold DR at qGet;by_cases n2:2<J l
     .have c2:=H5.out 2 n2;generalize hG:Ci (bs (wd l 2))=G at HF;have HG:=D hG;clear hG;go_wp2_with (go_at_call 54;refine(ku _ (HS 2) _).mono ?_;rintro e w' ⟨rfl,rfl⟩;rw[HG.out]);all_goals (go_ret;refine⟨CQ ?_,Aw.refl _ _⟩;rw[HF.out];clear HG HF SC oo oh og HX ku cI Ls H5 HS;first|grind|(cases A<;>cases B<;>cases C<;>first|grind|simp_all))
     .exact mah
    have qGet:=Bz yK;unfold DR at qGet;by_cases yJ:bs x=EF
    .have qPut:=CZ yJ;have HF:=D (show Bv l=(A && B && (decide (J l=3) || (decide (J l=5) && C))) from SC.trans (by rw[yJ];rfl));clear yJ;unfold EF at qPut;exact mah
    have qPut:=Bz yJ;unfold EF at qPut;by_cases hOut:bs x=IF
    .have qOut:=CZ hOut;have HF:=D (show Bv l=(decide (J l=2) && Ds (bs (wd l 1))) from SC.trans (by rw[hOut];rfl));clear hOut;unfold IF at qOut;by_cases n2:J l=2
     .exact maK
     .exact mah
    have qOut:=Bz hOut;unfold IF at qOut;by_cases hIf:bs x=UD
    .have qIf:=CZ hIf;have HF:=D (show Bv l=(decide (J l=2) && Ds (bs (wd l 1))) from SC.trans (by rw[hIf];rfl));clear hIf;unfold UD at qIf;by_cases n2:J l=2
     .exact maK
     .exact mah
    have qIf:=Bz hIf;unfold UD at qIf;by_cases eH:bs x=EZ
    .have qLoop:=CZ eH;have HF:=D (show Bv l=(decide (J l=2) && GL (bs (wd l 1)) 4) from SC.trans (by rw[eH];rfl));clear eH;unfold EZ at qLoop;by_cases n2:J l=2
     .have c1:=H5.out 1 Y;go_wp2_with (go_at_call 56;refine(Ls _ _ (HS 1) _).mono ?_;rintro e w' ⟨rfl,rfl⟩);all_goals (go_ret;refine⟨CQ ?_,Aw.refl _ _⟩;rw[HF.out];clear HF SC oo oh og HX ku cI Ls H5 HS;first|grind|(simp only[Ds];grind))
     .exact mah
    have qLoop:=Bz eH;unfold EZ at qLoop;have HF:=D (show Bv l=I from SC.trans (by unfold Fy;simp only[In Sq,In Sp,In yL,In Sr,In yH,In yK,In yJ,In hOut,In hIf,In eH]));clear Sq Sp yL Sr yH yK yJ hOut hIf eH;go_wp2;go_ret;exact⟨CQ HF.symm,Aw.refl _ _⟩
theorem B9 {n:Nat} (h:w.ownsRow Ac e size v n xs) (k:Aw M w w')
  (hm:∀g,v.ownBlock=U g->g∉M):w'.ownsRow Ac e size v n xs:=by
 obtain⟨hl,h|⟨g,cap,IZ,rfl,h1,h2,h3⟩⟩:=h
 .exact⟨hl,.inl h⟩
 .exact⟨hl,.inr ⟨g,cap,IZ,rfl,h1,k.heap h2 (hm g rfl),h3⟩⟩
theorem Lw {n:Nat} (h:w.ownsRow Ac e size v n xs):w.drew.ownsRow Ac e size v n xs:=h
theorem ownsRow_nil (w:World) (Ac:Nat) (e:TypeId) (size:Nat):w.ownsRow Ac e size (qD Z 0 0) 0 []:=⟨EQ,AC⟩
theorem DY {n:Nat} (h:w.ownsRow Ac e size v n xs) {g:Nat} (hg:v.ownBlock=U g):Ac<=g/\g<w.heap.size:=by
 obtain⟨hl,⟨rfl,h⟩|⟨g',cap,IZ,rfl,h1,h2,h3⟩⟩:=h
 .cases hg
 .cases hg<;>grind
theorem Av {n:Nat} (h:w.ownsRow Ac e size v n xs) (hn:0<n):
  ∃g cap,v= qD (U ⟨g,0,Z⟩) n cap/\Ac<=g/\g<w.heap.size/\n<=cap/\cap<=maxLen/\(∀i,(hi:i<J xs)->w.cell? ⟨g,i,Z⟩=U xs[i])/\(∀i,w.frozen? ⟨g,i,Z⟩=I):=by
 obtain⟨hl,⟨rfl,h⟩|⟨g,cap,IZ,rfl,h1,h2,h3,h4,h5,h6⟩⟩:=h
 .omega
 .refine⟨g,cap,rfl,h1,AC,h3,h4,λi hi=>?_,λi=>?_⟩
  .rw[Ch.cell (c:=IZ) (T:=e) h2];grind
  .exact Ch.free (c:=IZ) (T:=e) h2 i
theorem Xm {n:Nat} (h:w.ownsRow Ac e size v n xs):J xs=n*size:=h.1
theorem Xl {n:Nat} (h:w.ownsRow Ac e size (qD (U ⟨g,0,Z⟩) n cap) n xs) (i:Nat) (hi:i<J xs) (u:Value):
  (w.setCell ⟨g,i,Z⟩ u).ownsRow Ac e size (qD (U ⟨g,0,Z⟩) n cap) n (xs.set i u):=by
 obtain⟨hl,⟨hv,h⟩|⟨g',cap',IZ,hv,h1,h2,h3,h4,h5,h6⟩⟩:=h
 .cases hv
 .cases hv;refine⟨by rw[Jp];exact hl,.inr ⟨g,cap,IZ.setIfInBounds i u,rfl,h1,Ch.set (c:=IZ) (T:=e) h2 i u,h3,h4,AC,?_⟩⟩;subst h6;rw[Array.toList_setIfInBounds,List.take_set]
theorem Xn {n:Nat} (h:w.ownsRow Ac e size v n xs) {p:Addr} (hp:v.ownBlock≠U p.block) (u:Value):
  (w.setCell p u).ownsRow Ac e size v n xs:=
 B9 h ((Aw.refl [p.block] w).setCell AC u) AC
theorem DZ {n:Nat} (h:w.ownsRow Ac e size v n xs) (o:Obj):(w.alloc o).ownsRow Ac e size v n xs:=
 B9 h ((Aw.refl [] w).alloc o) AC
theorem U6 {n:Nat} (h:w.ownsRow Ac e size (qD (U ⟨g,0,Z⟩) n cap) n xs) (k:Nat) (hk:k<=n):
  w.ownsRow Ac e size (qD (U ⟨g,0,Z⟩) k cap) k (xs.take (k*size)):=by
 obtain⟨hl,⟨hv,h⟩|⟨g',cap',IZ,hv,h1,h2,h3,h4,h5,h6⟩⟩:=h
 .cases hv
 .cases hv;have hks:k*size<=n*size:=Qu _ hk;refine⟨by rw[Qv,hl];omega,.inr ⟨g,cap,IZ,rfl,h1,h2,Y,h4,h5,?_⟩⟩;subst h6;rw[List.take_take,Nat.min_eq_left hks]
theorem Aw.grown {a:World} {row:Option Nat} (h:Aw M a w) (hg:w.grownBy w' row) (hr:∀k,row=U k->k∈M\/a.heap.size<=k):Aw M a w':=
 ⟨hg.os.trans h.os,hg.tape.trans h.tape,hg.output.trans h.output,Qb h.size hg.size,λk hk hm=>by
   rw[hg.block k (JQ hk h.size) AC];exact h.block k hk hm⟩
theorem Sl.OU {n:Nat} (h:w.ownsRow Ac e 1 v n xs):Sl w (λb=>Ac<=b/\v.ownBlock=U b) v xs:=by
 have hl:=Xm h;rw[Nat.mul_one] at hl;obtain⟨_,⟨rfl,h0⟩|⟨g,cap,IZ,rfl,h1,h2,h3,h4,h5,h6⟩⟩:=id h
 .subst h0;exact⟨by rw[hl];grind,AC⟩
 .rcases Q1 n with h0|h0
  .subst h0;obtain rfl:=Jn hl;exact⟨AC,.inr ⟨g,0,cap,rfl,AC,h4,⟨h1,rfl⟩,AC,AC⟩⟩
  .obtain⟨g',cap',he,a1,a2,a3,a4,a5,a6⟩:=Av h h0;cases he;refine⟨by rw[hl];omega,.inr ⟨g,0,cap,by rw[hl],by rw[hl];exact a3,a4,⟨a1,rfl⟩,a2,λi hi=>?_⟩⟩<;>grind
structure SG where
 p:Option Addr
 c:Nat
inductive Ob where
 |Xk (b:Nat) (o:Obj)
 |row (v:Value) (e:TypeId) (size n:Nat) (xs:List Value)
variable {L A B C:List Ob}
abbrev Ob.Ao (b:Nat) (c:Array Value) (T:TypeId):Ob:=.Xk b (qK c T (0,0))
def Ob.fp:Ob->List Nat
 |.Xk b _=>[b]
 |.row v _ _ _ _=>v.ownBlock.toList
def Ob.holds (w:World):Ob->Prop
 |.Xk b o=>w.heap[b]?=U o
 |.row v e size n xs=>w.ownsRow 0 e size v n xs
def Er (L:List Ob):List Nat:=L.flatMap Ob.fp
structure Aq (w:World) (L:List Ob):Prop where
 holds:∀o,o∈L->o.holds w
 Lk:(Er L).Nodup
theorem Ob.lt {o:Ob} (h:o.holds w):∀b,b∈o.fp->b<w.heap.size:=by
 cases o with
 |Xk b o=>grind [Ob.fp,Dp h]
 |row v e s n xs=>intro x hx;exact(DY h (by grind [Ob.fp])).2
theorem Ob.mod {o:Ob} (h:o.holds w) (k:Aw M w w') (hd:∀b,b∈o.fp->b∉M):o.holds w':=by
 cases o with
 |Xk b o=>exact k.heap h (hd b (by simp[Ob.fp]))
 |row v e s n xs=>exact B9 h k λg hg=>hd g (by simp[Ob.fp,hg])
theorem Aq.lt (h:Aq w L):∀b,b∈Er L->b<w.heap.size:=by
 intro b hb;obtain⟨o,ho,hb⟩:=JX.1 hb;exact Ob.lt (h.holds o ho) b hb
theorem Aq.mod (h:Aq w L) (k:Aw M w w') (hd:∀b,b∈Er L->b∉M):Aq w' L:=
 ⟨λo ho=>Ob.mod (h.holds o ho) k λb hb=>hd b (JX.2 AC),h.Lk⟩
theorem Aq.get (h:Aq w L) {i:Nat} {o:Ob} (hi:L[i]?=U o):o.holds w:=h.holds o AC
theorem Aq.nil (w:World):Aq w []:=⟨AC,List.nodup_nil⟩
theorem Bo (A B:List Ob):Er (A++B)=Er A++Er B:=Nm
theorem G9 (a:Ob) (B:List Ob):Er (a::B)=a.fp++Er B:=J2
theorem kQ {α:Type} {L:List α} {o:α} (hi:L[i]?=U o):∃A B,L=A++o::B/\J A=i/\∀x,L.set i x=A++x::B:=by
 obtain⟨h,rfl⟩:=Jm.1 hi;have e:L=L.take i++L[i]::L.drop (i+1):=EQ
 have hl:(L.take i).length=i:=by simp;omega
 refine⟨L.take i,L.drop (i+1),e,hl,λx=>?_⟩;rw[List.set_eq_take_append_cons_drop,Jd h]
theorem Aq.far (h:Aq w L) {i j:Nat} {o p:Ob} (hi:L[i]?=U o) (hj:L[j]?=U p) (hij:i≠j):∀b,b∈o.fp->b∉p.fp:=by
 intro b hb hp;obtain⟨A,B,e,hA,_⟩:=kQ hi;have hn:=h.Lk;rw[e,Bo,G9] at hn;have hpm:p∈A\/p∈B:=by
  rw[e] at hj;grind
 rw[Jv,Jv] at hn;rcases hpm with h1|h1
 .exact hn.2.2 b (JX.2 ⟨p,h1,hp⟩) b AC rfl
 .exact hn.2.1.2.2 b hb b (JX.2 ⟨p,h1,hp⟩) rfl
theorem Aq.ne (h:Aq w L) {i j:Nat} {b c:Nat} {o p:Obj} (hi:L[i]?=U (.Xk b o)) (hj:L[j]?=U (.Xk c p)) (hij:i≠j):b≠c:=by
 have:=h.far hi hj hij b (by simp[Ob.fp]);grind [Ob.fp]
theorem Aq.AhM (h:Aq w L) {i j:Nat} {b:Nat} {o:Obj} {v:Value} {e:TypeId} {s n:Nat} {xs:List Value} (hi:L[i]?=U (.Xk b o)) (hj:L[j]?=U (.row v e s n xs)) (hij:i≠j):U b≠v.ownBlock:=by
 have:=h.far hi hj hij b (by simp[Ob.fp]);grind [Ob.fp]
structure Af (w:World) (L:List Ob) (w':World) (L':List Ob):Prop where
 Ak:Aq w' L'
 mod:Aw (Er L) w w'
 fp:∀b,b∈Er L'->b∈Er L\/w.heap.size<=b
theorem Af.refl (h:Aq w L):Af w L w L:=⟨h,Aw.refl _ _,AC⟩
theorem Af.trans {a b c:World} {M N:List Ob} (h:Af a L b M) (k:Af b M c N):Af a L c N:=
 ⟨k.Ak,h.mod.trans k.mod λx hx=>h.fp x hx,λx hx=>by
   grind [h.mod.size,Af]⟩
theorem Af.quiet (h:Aq w L) (k:Aw [] w w'):Af w L w' L:=⟨h.mod k EQ,k.nil,AC⟩
theorem Af.drew (h:Aq w L):Af w L w.drew L:=Af.quiet h (Aw.refl _ _).drew
theorem Af.alloc (h:Aq w L) (o:Obj):Af w L (w.alloc o) L:=Af.quiet h ((Aw.refl _ _).alloc o)
theorem Af.new (h:Aq w L) (o:Obj):Af w L (w.alloc o) (L++[.Xk w.heap.size o]):=by
 have h1:=(Af.alloc h o).Ak;refine⟨⟨λp hp=>?_,?_⟩,((Aw.refl _ _).alloc o),λb hb=>?_⟩
 .rcases Jq.1 hp with hp|hp
  .exact h1.holds p hp
  .rw[GE] at hp;subst hp;show(w.heap.push o)[w.heap.size]?=U o;simp
 .rw[Bo];refine Jv.2 ⟨h.Lk,by simp[Er,Ob.fp],λa ha b hb=>?_⟩;have:=h.lt a ha;grind [Er,Ob.fp]
 grind [Er,Ob.fp]
theorem Aq.Kl {M:List Ob} (h:Aq w L) (p:L.Perm M):Aq w M:=
 ⟨λo ho=>h.holds o (p.mem_iff.2 ho),(p.flatMap_right Ob.fp).nodup_iff.1 h.Lk⟩
theorem Af.Kl {M:List Ob} (h:Aq w L) (p:L.Perm M):Af w L w M:=
 ⟨h.Kl p,Aw.refl _ _,λb hb=> .inl ((p.flatMap_right Ob.fp).mem_iff.2 hb)⟩
theorem Af.Mg (h:Aq w L) (o:Obj):Af w L (w.alloc o) (.Xk w.heap.size o::L):=
 (Af.new h o).trans (Af.Kl (Af.new h o).Ak (Qh (l₁:=L) (l₂:=[.Xk w.heap.size o])))
theorem Af.frame {L' E:List Ob} (h:Aq w (L++E)) (k:Af w L w' L'):Af w (L++E) w' (L'++E):=by
 have hn:=h.Lk;have hlt:=h.lt;rw[Bo] at hn hlt;obtain⟨n1,n2,n3⟩:=Jv.1 hn;have hE:∀b,b∈Er E->b∉Er L:=AC;refine⟨⟨λo ho=>?_,?_⟩,?_,λb hb=>?_⟩
 .rcases Jq.1 ho with h1|h1;grind [Aq,Af]
  .exact Ob.mod (h.holds o AC) k.mod λb hb=>hE b (JX.2 AC)
 .rw[Bo];refine Jv.2 ⟨k.Ak.Lk,n2,λa ha b hb UG=>?_⟩;subst UG;rcases k.fp a ha with h1|h1;grind
  .have:=hlt a AC;omega
 grind [k.mod.mono,Bo];grind [Bo,Af]
theorem Af.drop (h:Aq w (A++B++C)):Af w (A++B++C) w (A++C):=by
 refine⟨⟨λo ho=>h.holds o ?_,?_⟩,Aw.refl _ _,λb hb=> .inl ?_⟩<;>grind [Bo,Aq]
theorem Af.AK (h:Aq w (A++C)):Af w (A++C) w A:=by
 have:=Af.drop (A:=A) (B:=C) (C:=[]) (by rw[Jr];exact h);rw[Jr,Jr] at this;exact this
theorem Aq.swap {o o':Ob} (h:Aq w L) (hi:L[i]?=U o) (k:Aw o.fp w w') (bU:o'.holds w') (GO:o'.fp.Nodup) (hfp:∀b,b∈o'.fp->b∈o.fp\/w.heap.size<=b):Af w L w' (L.set i o'):=by
 obtain⟨A,B,e,hA,mw⟩:=kQ hi;rw[mw];have hn:=h.Lk;have hlt:=h.lt;have hA':∀p,p∈A\/p∈B->p∈L:=λp hp=>by
  rw[e];rcases hp with hp|hp
  .exact IR _ hp
  .exact Jc _ (Id _ hp)
 rw[e,Bo,G9] at hn hlt;rw[Jv,Jv] at hn;obtain⟨n1,⟨n2,n3,n4⟩,n5⟩:=hn;have Am2:∀b,b∈Er A\/b∈Er B->b∉o.fp:=AC;have rO:∀p,p∈A\/p∈B->p.holds w':=λp hp=>Ob.mod (h.holds p (hA' p hp)) k λb hb=>Am2 b (by
   rcases hp with hp|hp
   · exact .inl (JX.2 ⟨p,hp,hb⟩)
   · exact .inr (JX.2 ⟨p,hp,hb⟩))
 have AkS:∀b,b∈o'.fp->b∉Er A/\b∉Er B:=λb hb=>by
  grind [Aw]
 refine⟨⟨λp hp=>?_,?_⟩,?_,λb hb=>?_⟩
 .rcases Jq.1 hp with hp|hp
  .exact rO p (.inl hp)
  .rcases Jl.1 hp with rfl|hp
   .exact bU
   .exact rO p (.inr hp)
 .rw[Bo,G9,Jv,Jv];grind
 grind [Bo,G9,Aw];grind [Bo,G9]
theorem Aq.set (h:Aq w L) (hi:L[i]?=U (.Ao b c T)) (k:Nat) (v:Value):
  Af w L (w.setCell ⟨b,k,Z⟩ v) (L.set i (.Ao b (c.setIfInBounds k v) T)):=
 h.swap hi ((Aw.refl _ _).setCell (.inl (by simp[Ob.fp])) v) (Ch.set (c:=c) (T:=T) (h.get hi) k v) (by simp[Ob.fp]) (λ_ hb=> .inl hb)
theorem Aq.Eu {n:Nat} (h:Aq w L) (hi:L[i]?=U (.row (qD (U ⟨g,0,Z⟩) n cap) e size n xs)) (k:Nat) (hk:k<J xs) (v:Value):
  Af w L (w.setCell ⟨g,k,Z⟩ v) (L.set i (.row (qD (U ⟨g,0,Z⟩) n cap) e size n (xs.set k v))):=
 h.swap hi ((Aw.refl _ _).setCell (.inl (by simp[Ob.fp,Value.ownBlock])) v) (Xl (h.get hi) k hk v) (by grind [Ob.fp]) (λ_ hb=> .inl hb)
theorem Aq.grow {n:Nat} (h:Aq w L) (hi:L[i]?=U (.row v e size n xs)) {g n' cap':Nat} {ys:List Value}
  (Co:w'.ownsRow 0 e size (qD (U ⟨g,0,Z⟩) n' cap') n' ys) (hg:w.grownBy w' v.ownBlock) (FU:v.ownBlock=U g\/w.heap.size<=g):
  Af w L w' (L.set i (.row (qD (U ⟨g,0,Z⟩) n' cap') e size n' ys)):=by
 refine h.swap hi ((Aw.refl _ w).grown hg λk hk=> .inl (by simp[Ob.fp,hk])) Co (by simp[Ob.fp,Value.ownBlock]) λb hb=>?_<;>grind [Ob.fp,Value.ownBlock]
theorem Aq.row (h:Aq w L) {i:Nat} {v:Value} {e:TypeId} {s n:Nat} {xs:List Value} (hi:L[i]?=U (.row v e s n xs)):w.ownsRow 0 e s v n xs:=h.get hi
theorem Aq.Ao (h:Aq w L) {i b:Nat} {c:Array Value} {T:TypeId} (hi:L[i]?=U (.Ao b c T)):Ch w b c T:=h.get hi
theorem Sk {o:Ob}:(A++o::B)[J A]?=U o:=EQ
theorem gH {o x:Ob}:(A++o::B).set (J A) x=A++x::B:=EQ
theorem Aq.wI {n:Nat} (h:Aq w (A++ .row (qD (U ⟨g,0,Z⟩) n cap) e size n xs::B)) (k:Nat) (hk:k<J xs) (v:Value):
  Af w (A++ .row (qD (U ⟨g,0,Z⟩) n cap) e size n xs::B) (w.setCell ⟨g,k,Z⟩ v) (A++ .row (qD (U ⟨g,0,Z⟩) n cap) e size n (xs.set k v)::B):=by
 have:=h.Eu Sk k hk v;rw[gH] at this;exact this
theorem UW {n:Nat} (h:w.ownsRow 0 e s v n xs):∃p c,v= qD p n c/\n<=c/\c<=maxLen:=by
 rcases h.2 with⟨rfl,h0⟩|⟨g,c,IZ,rfl,_,_,h3,h4,_⟩<;>grind
def A4 {α:Type} (g:List SG) (l:List (List α)):List Value:=List.zipWith (λa x=>qD a.p (J x) a.c) g l
theorem Bm (g:List SG) (a:SG) (l:List (List α)) (x:List α) (h:J g=J l):A4 (g++[a]) (l++[x])=A4 g l++[qD a.p (J x) a.c]:=by
 unfold A4;rw[Qz h];rfl
theorem BT (g:List SG) (l:List (List α)) (h:J g=J l):(A4 g l).length=J l:=by
 grind [A4]
section
variable {P:Program} {Bh:Array Oper} {Q:Exit->Act->World->Prop} {md:Region.Mode} {S:World->Prop}
def Xe (md:Region.Mode) (Bh:Array Oper) (n:Nat):Bool:=
 (List.range Bh.size).all λk=>k==n || (List.range Bh.size).any λj=>decide (k<j) && match Bh[j]? with
  |some o=>o.after.any λe=>Region.binds md e && e.on==k
  |none=>I
def GM (md:Region.Mode) (Bh:Array Oper) (listed:Array Bool):Prop:=
 ∀j o,Bh[j]?=U o->listed.getD j I=V->∀e∈o.after,Region.binds md e=V->listed.getD e.on I=V
theorem GM.set (h:GM md Bh listed) (hi:i∈Region.ready md Bh listed):GM md Bh (listed.setIfInBounds i V):=by
 intro j o ho hl e he hb;obtain⟨_,oi,yx,Da⟩:=mem_ready.1 hi;refine getD_set_true ?_;by_cases hij:i=j;grind
 .rw[getD_set_ne I hij] at hl;exact h j o ho hl e he hb
theorem pq {n:Nat} (h:Xe md Bh n=V) (hc:GM md Bh listed) (hn:n∈Region.ready md Bh listed):∀m k,Bh.size-k<=m->k<Bh.size->k≠n->listed.getD k I=V:=by
 intro m;induction m with
 |zero=>grind
 |succ m ih=>
  intro k hk hlt hne;have h1:=J3.1 h k AC;simp only[QU,Q4,hne,false_or,Qp,J6,JB,JD] at h1;obtain⟨j,hj,hkj,h2⟩:=h1;cases hoj:Bh[j]? with
  |none=>rw[hoj] at h2;cases h2
  |some o=>
   rw[hoj] at h2;obtain⟨e,he,hb⟩:=Array.any_eq_true'.1 h2;simp only[JB,Q4] at hb;by_cases hjn:j=n;grind [mem_ready]
   .have:=hc j o hoj AC e he hb.1;rw[hb.2] at this;exact this
def OJ (P:Program) (md:Region.Mode) (Bh:Array Oper) (Q:Exit->Act->World->Prop) (S:World->Prop) (n:Nat):Nat->Array Bool->Act->World->Prop
 |0,listed,a,w=>Region.ready md Bh listed=[]/\Q .normal a w
 |fuel+1,listed,a,w=>
  (Region.ready md Bh listed=[]->Q .normal a w)/\
  ∀i∈Region.ready md Bh listed,wpOp P Bh Q i (λa' w'=>(i≠n->S w')/\OJ P md Bh Q S n fuel (listed.setIfInBounds i V) a' w') a w
theorem Tz {n:Nat}:∀(fuel:Nat) (listed:Array Bool) (a:Act) (w:World),OJ P md Bh Q S n fuel listed a w->wpAny P md Bh Q fuel listed a w
 |0,_,_,_,h=>h
 |fuel+1,_,_,_,h=>⟨h.1,λi hi=>wpOp_mono (λa' w' h'=>Tz fuel _ a' w' h'.2) (h.2 i hi)⟩
theorem UH {n:Nat} (hsn:Xe md Bh n=V) (LU:i≠n) (hi:Bh[i]?=U oi) (hsel:∀(j:Nat) (o:Oper) cs b,Bh[j]?=U o->o.op≠ .select cs b)
  (hQ:∀c a w,Q (.panic c) (a.put oi.dst v) w->Q (.panic c) a w):
  ∀(fuel:Nat) (listed:Array Bool) (a:Act) (w:World),GM md Bh listed->
   (∀j oj,Bh[j]?=U oj->j≠i->listed.getD j V=I->(∀e∈oj.after,Region.binds md e=V->e.on≠i)->oi.apart Bh oj=V)->
   i∈Region.ready md Bh listed->YieldsIf P Bh S oi v a->S w->
   OJ P md Bh Q S n fuel (listed.setIfInBounds i V) (a.put oi.dst v) w->OJ P md Bh Q S n (fuel+1) listed a w:=by
 intro fuel;induction fuel with
 |zero=>
  exact ma2
 |succ fuel ih=>
  intro listed a w Cs Xy hr hy hS H;refine⟨AC,λj hj=>?_⟩;by_cases yy:j=i
  .subst yy;exact hy.wpOp hi hS AC
  .have hjn:j≠n:=by
    rintro rfl;have hlt:i<Bh.size:=AC;have h1:=pq hsn Cs hj _ i (Jf _) hlt LU;have h0:=(mem_ready.1 hr).1;grind
   exact mao
def BO (P:Program) (Bh:Array Oper) (Q:Exit->Act->World->Prop) (S:World->Prop):List (Nat×Bool)->Act->World->Prop
 |[],a,w=>Q .normal a w
 |(i,V)::rest,a,w=>∃o v,Bh[i]?=U o/\YieldsIf P Bh S o v a/\BO P Bh Q S rest (a.put o.dst v) w
 |(i,I)::rest,a,w=>wpOp P Bh Q i (λa' w'=>(rest≠[]->S w')/\BO P Bh Q S rest a' w') a w
def Td (md:Region.Mode) (Bh:Array Oper) (n:Nat):List (Nat×Bool)->Array Bool->Bool
 |[],listed=>(Region.ready md Bh listed).isEmpty
 |(i,V)::rest,listed=>i !=n && !rest.isEmpty && (Region.ready md Bh listed).contains i && Region.free md Bh listed i && Td md Bh n rest (listed.setIfInBounds i V)
 |(i,I)::rest,listed=>(Region.ready md Bh listed==[i]) && (rest.isEmpty==(i==n)) && Td md Bh n rest (listed.setIfInBounds i V)
theorem Kx {n:Nat} (hsn:Xe md Bh n=V) (hsel:Region.noSelect Bh=V) (hQ:∀c a d v w,Q (.panic c) (Act.put a d v) w->Q (.panic c) a w):
  ∀(l:List (Nat×Bool)) (listed:Array Bool) (a:Act) (w:World),GM md Bh listed->Td md Bh n l listed=V->(l≠[]->S w)->BO P Bh Q S l a w->OJ P md Bh Q S n (J l) listed a w
 |[],listed,a,w,_,hk,_,h=>⟨by simpa[Td] using hk,h⟩
 |(i,V)::rest,listed,a,w,Cs,hk,hS,h=>by
  simp only[Td,JB,bne_iff_ne,ne_eq,Bool.not_eq_true',List.contains_iff_mem] at hk;obtain⟨⟨⟨⟨h1,h2⟩,h3⟩,h4⟩,h5⟩:=hk;obtain⟨o,v,ho,hy,hr⟩:=h;have hS':=hS EQ;exact UH hsn h1 ho (Region.noSelect_spec hsel) (λc a w=>hQ c a _ _ w) _ listed a w Cs (Region.free_spec ho h4) (by simpa using h3) hy hS'
   (Kx hsn hsel hQ rest _ _ w (Cs.set (by simpa using h3)) h5 (λ_=>hS') hr)
 |(i,I)::rest,listed,a,w,Cs,hk,hS,h=>by
  simp only[Td,JB,Q4] at hk;obtain⟨⟨h1,h2⟩,h3⟩:=hk;refine⟨λh0=>(by rw[h1] at h0;cases h0),λj hj=>?_⟩;rw[h1] at hj;obtain rfl:=GE.1 hj;refine wpOp_mono (λa' w' hh=>⟨λhjn=>hh.1 λhr=>?_,Kx hsn hsel hQ rest _ a' w' (Cs.set (by rw[h1];exact GE.2 rfl)) h3 hh.1 hh.2⟩) h;rw[hr] at h2;simp at h2;exact hjn h2
theorem Cg {id:Nat} {l:List (Nat×Bool)} (S:World->Prop) (n:Nat) (hS:S w.drew) (h:BO P Bh Q S l a w.drew) (hm:P.follows .mixedOrders=V:=by kernel_rfl) (hlen:J l=Bh.size:=by kernel_rfl) (hsn:Xe .any Bh n=V:=by kernel_rfl) (hsel:Region.noSelect Bh=V:=by kernel_rfl)
  (hk:Td .any Bh n l (Array.replicate Bh.size I)=V:=by kernel_rfl) (hQ:∀c a d v w,Q (.panic c) (Act.put a d v) w->Q (.panic c) a w:=by (intro c a d v w h;cases d<;>exact h)):(Code.region id Bh V).wp P Q a w:=by
 refine wp_region_any hm ?_;have:=Tz _ _ _ _ (Kx hsn hsel hQ l _ a w.drew (λj o _ hl=>by
   rw[QI,d6] at hl;split at hl<;>cases hl) hk AC h)
 rw[hlen] at this;exact this
def sq (e:List Nat):Nat->Nat->List (Nat×Bool)
 |i,0=>[(i,I)]
 |i,n+1=>(i,!e.contains i)::sq e (i+1) n
theorem AG {id:Nat} (e:List Nat) (n:Nat) (S:World->Prop) (hS:S w.drew) (h:BO P Bh Q S (sq e 0 n) a w.drew) (hm:P.follows .mixedOrders=V:=by kernel_rfl) (hlen:(sq e 0 n).length=Bh.size:=by kernel_rfl) (hsn:Xe .any Bh n=V:=by kernel_rfl) (hsel:Region.noSelect Bh=V:=by kernel_rfl)
  (hk:Td .any Bh n (sq e 0 n) (Array.replicate Bh.size I)=V:=by kernel_rfl) (hQ:∀c a d v w,Q (.panic c) (Act.put a d v) w->Q (.panic c) a w:=by (intro c a d v w h;cases d<;>exact h)):(Code.region id Bh V).wp P Q a w:=Cg S n hS h hm hlen hsn hsel hk hQ
theorem Kg (ho:Bh[i]?=U o) (hd:o.dst=U d) (hg:Region.wanted o (yielded Bh a.tmps)=V)
  (hv:∀W,S W->(execOp a.eval o).run P W=.ok (.value v) W) (h:BO P Bh Q S rest ⟨a.tmps.setIfInBounds d v,a.defers⟩ w):BO P Bh Q S ((i,V)::rest) a w:=
 ⟨o,v,ho,.inl AC,by unfold Act.put;rw[hd];exact h⟩
theorem Yz (ho:Bh[i]?=U o) (hd:o.dst=U d) (hg:Region.wanted o (yielded Bh a.tmps)=I)
  (h:BO P Bh Q S rest ⟨a.tmps.setIfInBounds d undef,a.defers⟩ w):BO P Bh Q S ((i,V)::rest) a w:=⟨o,undef,ho,.inr AC,by unfold Act.put;rw[hd];exact h⟩
theorem D3 {l:List (Nat×Bool)} {dst:Option Tmp} (hd:dst=U d) (h:BO P Bh Q S l ⟨a.tmps.setIfInBounds d v,a.defers⟩ w):BO P Bh Q S l (a.put dst v) w:=by
 unfold Act.put;rw[hd];exact h
theorem AJ (ho:Bh[i]?=U o)
  (h:∀K:Act->World->Prop,(∀a' w',(rest≠[]->S w')->BO P Bh Q S rest a' w'->K a' w')->if Region.wanted o (yielded Bh a.tmps)=V then Oper.wp P o a w K Q else K (a.put o.dst undef) w):
  BO P Bh Q S ((i,I)::rest) a w:=by
 have h1:=h (λa' w'=>(rest≠[]->S w')/\BO P Bh Q S rest a' w') AC;unfold BO wpOp;rw[ho];grind
end
theorem FL:(∀(l:List Value) (i:Nat) (v:Value),l.toArray.setIfInBounds i v=(l.set i v).toArray)/\(∀(x:Value) (xs:List Value) (n:Nat) (a:Value),(x::xs).set (n+1) a=x::xs.set n a)/\∀(x:Value) (xs:List Value) (a:Value),(x::xs).set 0 a=a::xs:=AC
theorem Ox (k:Q') (h:RowKit.Hid Q'->P':=by
  intro zk;repeat
    refine Kg (v:= ?_) rfl rfl rfl (λW hW=>?_) ?_;rotate_left
    · repeat (obtain⟨_,hW⟩:=hW)
      go_simp;rfl
    simp only[FL]
  exact zk.out):P':=h k
theorem Dr (k:Q') (h:RowKit.Hid Q'->P':=by
  intro zk;refine Ox ?_;refine AJ rfl (λzK hK=>?_);go_simp
  revert zK
  exact zk.out):P':=h k
section
variable {P:Program} {Bh:Array Oper} {Q:Exit->Act->World->Prop} {md:Region.Mode} {S:World->Prop}
def TA (md:Region.Mode) (Bh:Array Oper) (j k:Nat):Bool:=match Bh[j]? with
 |some o=>o.after.any λe=>Region.binds md e && e.on==k
 |none=>I
def US (md:Region.Mode) (Bh:Array Oper) (n:Nat):Bool:=
 ((List.range n).all λk=>(List.range (n+1)).any λj=>decide (k<j) && TA md Bh j k) &&
 (List.range Bh.size).all λj=>decide (j<=n) || (List.range j).any λi=>decide (n<=i) && TA md Bh j i
theorem OK (hc:GM md Bh listed) {j k:Nat} (h:TA md Bh j k=V) (hj:listed.getD j I=V):listed.getD k I=V:=by
 unfold TA at h;cases hoj:Bh[j]? with
 |none=>rw[hoj] at h;cases h
 |some o=>
  rw[hoj] at h;obtain⟨e,he,hb⟩:=Array.any_eq_true'.1 h;simp only[JB,Q4] at hb;have:=hc j o hoj hj e he hb.1;rw[hb.2] at this;exact this
theorem W5 (h:TA md Bh j k=V) (hj:j∈Region.ready md Bh listed):listed.getD k I=V:=by
 grind [TA,mem_ready]
theorem Xd {n:Nat} (h:US md Bh n=V) (hc:GM md Bh listed) (hn:∀k,TA md Bh n k=V->listed.getD k I=V):∀m k,n-k<=m->k<n->listed.getD k I=V:=by
 unfold US at h;rw[JB] at h;intro m;induction m with
 |zero=>grind
 |succ m ih=>
  intro k hk hlt;have h1:=J3.1 h.1 k AC;simp only[Qp,J6,JB,JD] at h1;grind [OK]
theorem AaT {n:Nat} (h:US md Bh n=V) (hc:GM md Bh listed):∀m j,j<=m->n<=j->j<Bh.size->listed.getD j I=V->listed.getD n I=V:=by
 have h0:=h;unfold US at h;rw[JB] at h;intro m;induction m with
 |zero=>grind
 |succ m ih=>
  intro j hj hnj hjs hl;have h1:=J3.1 h.2 j (J6.2 hjs);simp only[QU,JD,Qp,J6,JB] at h1;rcases h1 with h1|⟨i,hi,hni,h2⟩
  .have:j=n:=Y
   rw[<-this];exact hl
  .exact ih i Y hni Y (OK hc h2 hl)
theorem kT {n:Nat} (h:US md Bh n=V) (hc:GM md Bh listed) (hj:j∈Region.ready md Bh listed) (hnj:n<=j):∀k,k<n->listed.getD k I=V:=by
 intro k hk;by_cases hjn:j=n
 .subst hjn;exact Xd h hc (λk hk=>W5 hk hj) _ k (Jf _) hk
 .have h0:=h;unfold US at h0;rw[JB] at h0;obtain⟨_,o,ho,_⟩:=mem_ready.1 hj;have hjs:j<Bh.size:=(Array.getElem?_eq_some_iff.1 ho).1;have h1:=J3.1 h0.2 j (J6.2 hjs);simp only[QU,JD,Qp,J6,JB] at h1;rcases h1 with h1|⟨i,hi,hni,h2⟩
  .omega
  .have hl:=AaT h hc i i (Jf _) hni Y (W5 h2 hj);exact Xd h hc (λk hk=>OK hc hk hl) _ k (Jf _) hk
def YB (P:Program) (md:Region.Mode) (Bh:Array Oper) (Q:Exit->Act->World->Prop) (S:World->Prop) (n:Nat):Nat->Array Bool->Act->World->Prop
 |0,listed,a,w=>Region.ready md Bh listed=[]/\Q .normal a w
 |fuel+1,listed,a,w=>
  (Region.ready md Bh listed=[]->Q .normal a w)/\
  ∀i∈Region.ready md Bh listed,wpOp P Bh Q i (λa' w'=>(i<n->S w')/\YB P md Bh Q S n fuel (listed.setIfInBounds i V) a' w') a w
theorem YA {n:Nat}:∀(fuel:Nat) (listed:Array Bool) (a:Act) (w:World),YB P md Bh Q S n fuel listed a w->wpAny P md Bh Q fuel listed a w
 |0,_,_,_,h=>h
 |fuel+1,_,_,_,h=>⟨h.1,λi hi=>wpOp_mono (λa' w' h'=>YA fuel _ a' w' h'.2) (h.2 i hi)⟩
theorem fN {n:Nat} (hsn:US md Bh n=V) (LU:i<n) (hi:Bh[i]?=U oi) (hsel:∀(j:Nat) (o:Oper) cs b,Bh[j]?=U o->o.op≠ .select cs b)
  (hQ:∀c a w,Q (.panic c) (a.put oi.dst v) w->Q (.panic c) a w):
  ∀(fuel:Nat) (listed:Array Bool) (a:Act) (w:World),GM md Bh listed->
   (∀j oj,Bh[j]?=U oj->j≠i->listed.getD j V=I->(∀e∈oj.after,Region.binds md e=V->e.on≠i)->oi.apart Bh oj=V)->
   i∈Region.ready md Bh listed->YieldsIf P Bh S oi v a->S w->
   YB P md Bh Q S n fuel (listed.setIfInBounds i V) (a.put oi.dst v) w->YB P md Bh Q S n (fuel+1) listed a w:=by
 intro fuel;induction fuel with
 |zero=>
  exact ma2
 |succ fuel ih=>
  intro listed a w Cs Xy hr hy hS H;refine⟨AC,λj hj=>?_⟩;by_cases yy:j=i
  .subst yy;exact hy.wpOp hi hS AC
  .have hjn:j<n:=by
    grind [kT,mem_ready]
   exact mao
def Ct (P:Program) (Bh:Array Oper) (Q:Exit->Act->World->Prop) (S:World->Prop) (n:Nat):List (Nat×Bool)->Act->World->Prop
 |[],a,w=>Q .normal a w
 |(i,V)::rest,a,w=>∃o v,Bh[i]?=U o/\YieldsIf P Bh S o v a/\Ct P Bh Q S n rest (a.put o.dst v) w
 |(i,I)::rest,a,w=>wpOp P Bh Q i (λa' w'=>(i<n->S w')/\Ct P Bh Q S n rest a' w') a w
def TL (md:Region.Mode) (Bh:Array Oper) (n:Nat):List (Nat×Bool)->Array Bool->Bool
 |[],listed=>(Region.ready md Bh listed).isEmpty
 |(i,V)::rest,listed=>decide (i<n) && (Region.ready md Bh listed).contains i && Region.free md Bh listed i && TL md Bh n rest (listed.setIfInBounds i V)
 |(i,I)::rest,listed=>(Region.ready md Bh listed==[i]) && (decide (i<n) || rest.all λx=> !x.2) && TL md Bh n rest (listed.setIfInBounds i V)
theorem Nv {n:Nat} (hsn:US md Bh n=V) (hsel:Region.noSelect Bh=V) (hQ:∀c a d v w,Q (.panic c) (Act.put a d v) w->Q (.panic c) a w):
  ∀(l:List (Nat×Bool)) (listed:Array Bool) (a:Act) (w:World),GM md Bh listed->TL md Bh n l listed=V->((l.any λx=>x.2)=V->S w)->Ct P Bh Q S n l a w->YB P md Bh Q S n (J l) listed a w
 |[],listed,a,w,_,hk,_,h=>⟨by simpa[TL] using hk,h⟩
 |(i,V)::rest,listed,a,w,Cs,hk,hS,h=>by
  simp only[TL,JB,JD,List.contains_iff_mem] at hk;obtain⟨⟨⟨h1,h3⟩,h4⟩,h5⟩:=hk;obtain⟨o,v,ho,hy,hr⟩:=h;have hS':=hS EQ;exact fN hsn h1 ho (Region.noSelect_spec hsel) (λc a w=>hQ c a _ _ w) _ listed a w Cs (Region.free_spec ho h4) (by simpa using h3) hy hS'
   (Nv hsn hsel hQ rest _ _ w (Cs.set (by simpa using h3)) h5 (λ_=>hS') hr)
 |(i,I)::rest,listed,a,w,Cs,hk,hS,h=>by
  simp only[TL,JB,Q4,QU,JD] at hk;obtain⟨⟨h1,h2⟩,h3⟩:=hk;refine⟨λh0=>(by rw[h1] at h0;cases h0),λj hj=>?_⟩;rw[h1] at hj;obtain rfl:=GE.1 hj;refine wpOp_mono (λa' w' hh=>⟨hh.1,Nv hsn hsel hQ rest _ a' w' (Cs.set (by rw[h1];exact GE.2 rfl)) h3 (λAne=>?_) hh.2⟩) h;rcases h2 with h2|h2
  .exact hh.1 h2
  .exfalso;obtain⟨x,hx,hx2⟩:=Qp.1 Ane;have:=J3.1 h2 x hx;rw[hx2] at this;cases this
theorem AU {id:Nat} {l:List (Nat×Bool)} (S:World->Prop) (n:Nat) (hS:S w.drew) (h:Ct P Bh Q S n l a w.drew) (hm:P.follows .mixedOrders=V:=by kernel_rfl) (hlen:J l=Bh.size:=by kernel_rfl) (hsn:US .any Bh n=V:=by kernel_rfl) (hsel:Region.noSelect Bh=V:=by kernel_rfl)
  (hk:TL .any Bh n l (Array.replicate Bh.size I)=V:=by kernel_rfl) (hQ:∀c a d v w,Q (.panic c) (Act.put a d v) w->Q (.panic c) a w:=by (intro c a d v w h;cases d<;>exact h)):(Code.region id Bh V).wp P Q a w:=by
 refine wp_region_any hm ?_;have:=YA _ _ _ _ (Nv hsn hsel hQ l _ a w.drew (λj o _ hl=>by
   rw[QI,d6] at hl;split at hl<;>cases hl) hk AC h)
 rw[hlen] at this;exact this
theorem oG {n:Nat} (ho:Bh[i]?=U o) (hd:o.dst=U d) (hg:Region.wanted o (yielded Bh a.tmps)=V)
  (hv:∀W,S W->(execOp a.eval o).run P W=.ok (.value v) W) (h:Ct P Bh Q S n rest ⟨a.tmps.setIfInBounds d v,a.defers⟩ w):Ct P Bh Q S n ((i,V)::rest) a w:=
 ⟨o,v,ho,.inl AC,by unfold Act.put;rw[hd];exact h⟩
theorem Bb {n:Nat} (ho:Bh[i]?=U o)
  (h:∀K:Act->World->Prop,(∀a' w',(i<n->S w')->Ct P Bh Q S n rest a' w'->K a' w')->if Region.wanted o (yielded Bh a.tmps)=V then Oper.wp P o a w K Q else K (a.put o.dst undef) w):
  Ct P Bh Q S n ((i,I)::rest) a w:=by
 have h1:=h (λa' w'=>(i<n->S w')/\Ct P Bh Q S n rest a' w') AC;unfold Ct wpOp;rw[ho];grind
end
theorem FC (k:Q') (h:RowKit.Hid Q'->P':=by
  intro zk;repeat
    refine oG (v:= ?_) rfl rfl rfl (λW hW=>?_) ?_;rotate_left
    · repeat (obtain⟨_,hW⟩:=hW)
      go_simp;rfl
    simp only[FL]
  exact zk.out):P':=h k
section
variable {P:Program} {Bh:Array Oper} {Q:Exit->Act->World->Prop} {md:Region.Mode} {S:World->Prop}
def vR (P:Program) (Bh:Array Oper) (Q:Exit->Act->World->Prop) (S:World->Prop) (R:Act->World->Prop):Nat->List Nat->List Nat->Act->World->Prop
 |0,_,_,a,w=>R a w
 |f+1,cs,al,a,w=>(∀c cs',cs=c::cs'->wpOp P Bh Q c (λa' w'=>S w'/\vR P Bh Q S R f cs' al a' w') a w)/\(∀i,i∈al->wpOp P Bh Q i (λa' w'=>S w'/\vR P Bh Q S R f cs (al.erase i) a' w') a w)
def Adh (md:Region.Mode) (Bh:Array Oper) (k:Array Bool->Bool):Nat->List Nat->List Nat->Array Bool->Bool
 |0,_,_,listed=>k listed
 |f+1,cs,al,listed=>(Region.ready md Bh listed).all (λi=>cs.head?==U i || al.contains i) && !(Region.ready md Bh listed).isEmpty
   && (match cs with|c::cs'=> !(Region.ready md Bh listed).contains c || Adh md Bh k f cs' al (listed.setIfInBounds c V)|[]=>V) && al.all (λi=> !(Region.ready md Bh listed).contains i || Adh md Bh k f cs (al.erase i) (listed.setIfInBounds i V))
theorem fO {n m:Nat} {k:Array Bool->Bool} (hR:∀listed a w,k listed=V->GM md Bh listed->S w->R a w->OJ P md Bh Q S n m listed a w):
  ∀(f:Nat) (cs al:List Nat) (listed:Array Bool) (a:Act) (w:World),GM md Bh listed->Adh md Bh k f cs al listed=V->S w->vR P Bh Q S R f cs al a w->OJ P md Bh Q S n (f+m) listed a w:=by
 intro f;induction f with
 |zero=>intro cs al listed a w Cs hk hS h;rw[JU];exact hR listed a w hk Cs hS h
 |succ f ih=>
  intro cs al listed a w Cs hk hS h;rw[show f+1+m=(f+m)+1 by omega];simp only[Adh,JB,Bool.not_eq_true'] at hk;obtain⟨⟨⟨h1,h2⟩,h3⟩,h4⟩:=hk;refine⟨AC,λi hi=>?_⟩;have hi1:=J3.1 h1 i hi;have hic:(Region.ready md Bh listed).contains i=V:=AC
  by_cases hia:i∈al
  .have:=J3.1 h4 i hia;rw[hic] at this;simp only[Bool.not_true,Q6] at this;exact wpOp_mono (λa' w' hh=>⟨AC,ih _ _ _ a' w' (Cs.set hi) this hh.1 hh.2⟩) (h.2 i hia)
  .have hc:cs.head?=U i:=by
    grind
   cases cs with
   |nil=>cases hc
   |cons c cs'=>
    simp only[j9,Option.some.injEq] at hc;subst hc;simp only[hic,Bool.not_true,Q6] at h3;exact wpOp_mono (λa' w' hh=>⟨AC,ih _ _ _ a' w' (Cs.set hi) h3 hh.1 hh.2⟩) (h.1 c cs' rfl)
def W3 (P:Program) (Bh:Array Oper) (S:World->Prop) (R:Act->World->Prop):List Nat->Act->World->Prop
 |[],a,w=>R a w
 |i::rest,a,w=>∃o v,Bh[i]?=U o/\YieldsIf P Bh S o v a/\W3 P Bh S R rest (a.put o.dst v) w
def tW (md:Region.Mode) (Bh:Array Oper) (n:Nat) (k:Array Bool->Bool):List Nat->Array Bool->Bool
 |[],listed=>k listed
 |i::rest,listed=>i !=n && (Region.ready md Bh listed).contains i && Region.free md Bh listed i && tW md Bh n k rest (listed.setIfInBounds i V)
theorem Ta {n m:Nat} {R:Act->World->Prop} {k:Array Bool->Bool} (hsn:Xe md Bh n=V) (hsel:Region.noSelect Bh=V) (hQ:∀c a d v w,Q (.panic c) (Act.put a d v) w->Q (.panic c) a w)
  (hR:∀listed a w,k listed=V->GM md Bh listed->S w->R a w->OJ P md Bh Q S n m listed a w):
  ∀(l:List Nat) (listed:Array Bool) (a:Act) (w:World),GM md Bh listed->tW md Bh n k l listed=V->S w->W3 P Bh S R l a w->OJ P md Bh Q S n (J l+m) listed a w
 |[],listed,a,w,Cs,hk,hS,h=>by rw[Jx,JU];exact hR listed a w hk Cs hS h
 |i::rest,listed,a,w,Cs,hk,hS,h=>by
  simp only[tW,JB,bne_iff_ne,ne_eq] at hk;obtain⟨⟨⟨h1,h3⟩,h4⟩,h5⟩:=hk;obtain⟨o,v,ho,hy,hr⟩:=h;rw[show(i::rest).length+m=(J rest+m)+1 by simp;omega];have h3':i∈Region.ready md Bh listed:=AC
  exact UH hsn h1 ho (Region.noSelect_spec hsel) AC _ listed a w Cs (Region.free_spec ho h4) h3' hy hS
   (Ta hsn hsel hQ hR rest _ _ w (Cs.set h3') h5 hS hr)
theorem OI {id:Nat} (l1 cs al:List Nat) (l2:List (Nat×Bool)) (S:World->Prop) (n:Nat) (hS:S w.drew)
  (h:W3 P Bh S (λa w=>vR P Bh Q S (λa w=>BO P Bh Q S l2 a w) (J cs+J al) cs al a w) l1 a w.drew) (hm:P.follows .mixedOrders=V:=by kernel_rfl) (hlen:J l1+((J cs+J al)+J l2)=Bh.size:=by kernel_rfl) (hsn:Xe .any Bh n=V:=by kernel_rfl) (hsel:Region.noSelect Bh=V:=by kernel_rfl)
  (hk:tW .any Bh n (Adh .any Bh (Td .any Bh n l2) (J cs+J al) cs al) l1 (Array.replicate Bh.size I)=V:=by kernel_rfl) (hQ:∀c a d v w,Q (.panic c) (Act.put a d v) w->Q (.panic c) a w:=by (intro c a d v w h;cases d<;>exact h)):(Code.region id Bh V).wp P Q a w:=by
 refine wp_region_any hm ?_;have:=Tz _ _ _ _ (Ta (n:=n) hsn hsel hQ (λlisted a w hk Cs hS h=>fO (λlisted a w hk Cs hS h=>Kx hsn hsel hQ l2 listed a w Cs hk AC h) _ cs al listed a w Cs hk hS h) l1 _ a w.drew (λj o _ hl=>by
   rw[QI,d6] at hl;split at hl<;>cases hl) hk hS h)
 rw[hlen] at this;exact this
theorem LJ {rest:List Nat} (ho:Bh[i]?=U o) (hd:o.dst=U d) (hg:Region.wanted o (yielded Bh a.tmps)=V)
  (hv:∀W,S W->(execOp a.eval o).run P W=.ok (.value v) W) (h:W3 P Bh S R rest ⟨a.tmps.setIfInBounds d v,a.defers⟩ w):W3 P Bh S R (i::rest) a w:=
 ⟨o,v,ho,.inl AC,by unfold Act.put;rw[hd];exact h⟩
theorem vQ (ho:Bh[i]?=U o) (h:if Region.wanted o (yielded Bh a.tmps)=V then Oper.wp P o a w K Q else K (a.put o.dst undef) w):wpOp P Bh Q i K a w:=by
 unfold wpOp;rw[ho];grind
theorem Aao (Z97:List Nat->List Nat->Act->World->Prop) (hc:∀c cs al a w,Z97 (c::cs) al a w->wpOp P Bh Q c (λa' w'=>S w'/\Z97 cs al a' w') a w)
  (ha:∀cs al i a w,i∈al->Z97 cs al a w->wpOp P Bh Q i (λa' w'=>S w'/\Z97 cs (al.erase i) a' w') a w) (he:∀a w,Z97 [] [] a w->R a w):
  ∀(f:Nat) (cs al:List Nat) (a:Act) (w:World),J cs+J al=f->Z97 cs al a w->vR P Bh Q S R f cs al a w:=by
 intro f;induction f with
 |zero=>
  intro cs al a w hf h;have h1:cs=[]:=Jn Y;have h2:al=[]:=Jn Y;subst h1;subst h2;exact he a w h
 |succ f ih=>
  intro cs al a w hf h;refine⟨λc cs' e=>?_,λi hi=>?_⟩
  .subst e;exact wpOp_mono AC (hc c cs' al a w h)
  .exact wpOp_mono AC (ha cs al i a w hi h)
theorem V1 {σ:Type} {T:Array Value} {Z95:List Deferred} (mk:Array Value->σ->Array Value) (Z96:List Nat->List Nat->σ->World->Prop)
  (hc:∀c cs al s w,Z96 (c::cs) al s w->wpOp P Bh Q c (λa' w'=>S w'/\∃s',a'=⟨mk T s',Z95⟩/\Z96 cs al s' w') ⟨mk T s,Z95⟩ w)
  (ha:∀cs al i s w,i∈al->Z96 cs al s w->wpOp P Bh Q i (λa' w'=>S w'/\∃s',a'=⟨mk T s',Z95⟩/\Z96 cs (al.erase i) s' w') ⟨mk T s,Z95⟩ w)
  (he:∀s w,Z96 [] [] s w->R ⟨mk T s,Z95⟩ w) {f:Nat} {cs al:List Nat} {w:World} (hf:J cs+J al=f) (s0:σ) (h0:mk T s0=T) (h:Z96 cs al s0 w):vR P Bh Q S R f cs al ⟨T,Z95⟩ w:=by
 refine Aao (Z97:=λcs al a w=>∃s,a=⟨mk T s,Z95⟩/\Z96 cs al s w) ?_ ?_ ?_ f cs al _ w hf AC
 .rintro c cs al a w ⟨s,rfl,h⟩;exact hc c cs al s w h
 .rintro cs al i a w hi ⟨s,rfl,h⟩;exact ha cs al i s w hi h
 grind
end
theorem AZ {n:Nat} (h:w.ownsRow 0 e s (qD (U ⟨g,0,Z⟩) n cap) n xs):(∀i,(hi:i<J xs)->w.cell? ⟨g,i,Z⟩=U xs[i])/\(∀i,w.frozen? ⟨g,i,Z⟩=I)/\g<w.heap.size:=by
 obtain⟨hl,⟨hv,h0⟩|⟨g',cap',IZ,hv,h1,h2,h3,h4,h5,h6⟩⟩:=h
 .cases hv
 .cases hv;refine⟨λi hi=>?_,λi=>Ch.free (c:=IZ) (T:=e) h2 i,AC⟩;rw[Ch.cell (c:=IZ) (T:=e) h2];grind
theorem BW {n:Nat} (bytes:Nat) (s x:Operand) (t:TypeId) (i:TypeInfo) (z:Value) (cs:Array Value) (te:TypeId)
  (hL:Aq w L) (hk:L[k]?=U (.row v e size n xs))
  (hgd:o.guard=Z) (ho:o.op=.call {callee:=.builtin .append,args:= #[s,x],argTypes:= #[t,t]})
  (ht:P.underlying t=U (.slice e)) (hi:P.info? e=U i) (hz:i.zero=U z) (Rq:i.size=size) (hby:i.bytes=bytes) (hzs:z.cells.size=size) (Ib:0<size)
  (hs:a.eval s=v) (hx:a.eval x= qD (U ⟨w.heap.size,0,Z⟩) 1 1) (hl:cs.size=size) (h1:∀u∈cs.toList,u.oneCell'=V)
  (h63:n+1<=maxLen) (Mo:(n+1)*bytes<=140737488355328)
  (h:∀g cap w',Af w L w' (L.set k (.row (qD (U ⟨g,0,Z⟩) (n+1) cap) e size (n+1) (xs++cs.toList)))->(∀b,b<w.heap.size->U b≠v.ownBlock->w'.heap[b]?=w.heap[b]?)->K (a.put o.dst (qD (U ⟨g,0,Z⟩) (n+1) cap)) w'):
  if Region.wanted o (yielded Bh a.tmps)=V then Oper.wp P o a (w.alloc (qK cs te)).drew K Q else E:=by
 have DH:=hL.row hk;have Vz:(w.alloc (qK cs te)).drew.heap[w.heap.size]?=U (qK cs te (0,0)):=Ch.new w cs te;have rJ:(w.alloc (qK cs te)).drew.heap.size=w.heap.size+1:=by show(w.heap.push _).size=_;simp
 refine step_append_lies _ hgd s x t ho 0 e i z size bytes ht hi hz Rq hby hzs Ib v n xs hs (Lw (DZ DH _)) ⟨w.heap.size,0,Z⟩ 1 1 cs.toList hx AC (QH Vz) h1 Y h63 Mo AC (w.heap.size+1) rJ ?_;intro g cap w' Co EH FU hlt;have s1:Af w L (w.alloc (qK cs te)).drew L:=(Af.alloc hL (qK cs te)).trans (Af.drew (Af.alloc hL _).Ak);refine h g cap w' (s1.trans (s1.Ak.grow hk Co EH ?_)) λb hb hv=>?_
 grind
 .rw[EH.block b (by rw[rJ];omega) hv];exact Below.heap_alloc w (qK cs te) b hb
theorem A6 {rest:List Oper} {n:Nat} (bytes:Nat) (s x:Operand) (t:TypeId) (i:TypeInfo) (z:Value) (cs:Array Value) (te:TypeId)
  (hL:Aq w L) (hk:L[k]?=U (.row v e size n xs))
  (hgd:o.guard=Z) (ho:o.op=.call {callee:=.builtin .append,args:= #[s,x],argTypes:= #[t,t]})
  (ht:P.underlying t=U (.slice e)) (hi:P.info? e=U i) (hz:i.zero=U z) (Rq:i.size=size) (hby:i.bytes=bytes) (hzs:z.cells.size=size) (Ib:0<size)
  (hs:a.eval s=v) (hx:a.eval x= qD (U ⟨w.heap.size,0,Z⟩) 1 1) (hl:cs.size=size) (h1:∀u∈cs.toList,u.oneCell'=V)
  (h63:n+1<=maxLen) (Mo:(n+1)*bytes<=140737488355328)
  (h:∀g cap w',Af w L w' (L.set k (.row (qD (U ⟨g,0,Z⟩) (n+1) cap) e size (n+1) (xs++cs.toList)))->(∀b,b<w.heap.size->U b≠v.ownBlock->w'.heap[b]?=w.heap[b]?)->wpList P Bh Q rest (a.put o.dst (qD (U ⟨g,0,Z⟩) (n+1) cap)) w'):
  wpList P Bh Q (o::rest) a (w.alloc (qK cs te)):=by
 have DH:=hL.row hk;have Vz:(w.alloc (qK cs te)).heap[w.heap.size]?=U (qK cs te (0,0)):=Ch.new w cs te;have rJ:(w.alloc (qK cs te)).heap.size=w.heap.size+1:=by show(w.heap.push _).size=_;simp
 refine wpList_append_lies _ hgd s x t ho 0 e i z size bytes ht hi hz Rq hby hzs Ib v n xs hs (DZ DH _) ⟨w.heap.size,0,Z⟩ 1 1 cs.toList hx AC (QH Vz) h1 Y h63 Mo AC (w.heap.size+1) rJ ?_;intro g cap w' Co EH FU hlt;have s1:Af w L (w.alloc (qK cs te)) L:=Af.alloc hL (qK cs te);refine h g cap w' (s1.trans (s1.Ak.grow hk Co EH ?_)) λb hb hv=>?_
 grind;grind [EH.block,Below.heap_alloc]
theorem Kn {rest:List Oper} {n:Nat} (bytes:Nat) (s x:Operand) (t:TypeId) (i:TypeInfo) (z:Value) (cs:Array Value) (te:TypeId) (H:Nat) (hH:w.heap.size=H)
  (hL:Aq w L) (hk:L[k]?=U (.row v e size n xs))
  (hgd:o.guard=Z) (ho:o.op=.call {callee:=.builtin .append,args:= #[s,x],argTypes:= #[t,t]})
  (ht:P.underlying t=U (.slice e)) (hi:P.info? e=U i) (hz:i.zero=U z) (Rq:i.size=size) (hby:i.bytes=bytes) (hzs:z.cells.size=size) (Ib:0<size)
  (hs:a.eval s=v) (hx:a.eval x= qD (U ⟨H,0,Z⟩) 1 1) (hl:cs.size=size) (h1:∀u∈cs.toList,u.oneCell'=V)
  (h63:n+1<=maxLen) (Mo:(n+1)*bytes<=140737488355328)
  (h:∀g cap w',Af w L w' (L.set k (.row (qD (U ⟨g,0,Z⟩) (n+1) cap) e size (n+1) (xs++cs.toList)))->(∀b,b<w.heap.size->U b≠v.ownBlock->w'.heap[b]?=w.heap[b]?)->wpList P Bh Q rest (a.put o.dst (qD (U ⟨g,0,Z⟩) (n+1) cap)) w'):
  wpList P Bh Q (o::rest) a (w.alloc (qK cs te)):=by
 subst hH;exact A6 bytes s x t i z cs te hL hk hgd ho ht hi hz Rq hby hzs Ib hs hx hl h1 h63 Mo h
theorem YS {n:Nat} (bytes:Nat) (s x:Operand) (t:TypeId) (i:TypeInfo) (z:Value) (cs:Array Value) (te:TypeId) (nb:Nat)
  (hL:Aq w L) (hk:L[k]?=U (.row v e size n xs)) (Vz:w.heap[nb]?=U (qK cs te (0,0)))
  (hgd:o.guard=Z) (ho:o.op=.call {callee:=.builtin .append,args:= #[s,x],argTypes:= #[t,t]})
  (ht:P.underlying t=U (.slice e)) (hi:P.info? e=U i) (hz:i.zero=U z) (Rq:i.size=size) (hby:i.bytes=bytes) (hzs:z.cells.size=size) (Ib:0<size)
  (hs:a.eval s=v) (hx:a.eval x= qD (U ⟨nb,0,Z⟩) 1 1) (hl:cs.size=size) (h1:∀u∈cs.toList,u.oneCell'=V)
  (h63:n+1<=maxLen) (Mo:(n+1)*bytes<=140737488355328)
  (h:∀g cap w',Af w L w' (L.set k (.row (qD (U ⟨g,0,Z⟩) (n+1) cap) e size (n+1) (xs++cs.toList)))->(∀b,b<w.heap.size->U b≠v.ownBlock->w'.heap[b]?=w.heap[b]?)->K (a.put o.dst (qD (U ⟨g,0,Z⟩) (n+1) cap)) w'):
  if Region.wanted o (yielded Bh a.tmps)=V then Oper.wp P o a w K Q else E:=by
 have DH:=hL.row hk;refine step_append_lies _ hgd s x t ho 0 e i z size bytes ht hi hz Rq hby hzs Ib v n xs hs DH ⟨nb,0,Z⟩ 1 1 cs.toList hx AC (QH Vz) h1 Y h63 Mo AC w.heap.size rfl ?_;intro g cap w' Co EH FU hlt;grind [hL.grow,EH.block]
theorem Aq.take {n:Nat} (h:Aq w L) (hi:L[i]?=U (.row (qD (U ⟨g,0,Z⟩) n cap) e size n xs)) (k:Nat) (hk:k<=n):
  Af w L w (L.set i (.row (qD (U ⟨g,0,Z⟩) k cap) e size k (xs.take (k*size)))):=
 h.swap hi (Aw.refl _ _) (U6 (h.get hi) k hk) (by grind [Ob.fp]) (λb hb=> .inl (by grind [Ob.fp,Value.ownBlock]))
def cK (w:World):Prop:=w.cell? ⟨0,0,Z⟩=U (.iface 213 (qH #[qI (U ⟨10,85,Z⟩)]))
theorem Aep (w:World):Calls prog 34 #[.nilIface] w λe w'=>e= qJ (qG #[iI 0,iI 0])/\Aw [] w w':=by
 go_enter func34,ntmps34;go_wp2;go_ret2;exact⟨rfl,((Aw.refl _ _).alloc _).alloc _⟩
theorem oQ (fb:Nat) (c n:Int) (w:World) (h:Ch w fb #[iI c,iI n] 127) (hg:cK w):
  Calls prog 34 #[.iface 123 (iJ fb)] w λe w'=>e= qJ (qG #[iI c,iI n])/\Aw [] w w':=by
 have m1:Aw [] w ((w.alloc (qK #[qI Z] 123)).alloc (qK #[iI 0] 58)):=((Aw.refl _ _).alloc _).alloc _;have Ix:Ch ((w.alloc (qK #[qI Z] 123)).alloc (qK #[iI 0] 58)) w.heap.size #[qI Z] 123:=(Ch.new w _ _).alloc _;have Has:=D (Ai6 ⟨fb,0,Z⟩ ⟨w.heap.size,0,Z⟩ (qI Z) ((w.alloc (qK #[qI Z] 123)).alloc (qK #[iI 0] 58)) (AH m1 hg) (Ix.cell 0) (Ix.free 0));have H:=D h;have NQ:=D m1;have SC:=D Ix;clear m1 Ix hg h;go_enter func34,ntmps34;go_wp2_with fail;refine(Has.mono (R':=λe w'=>e= qJ (qF V)/\Aw [] w w'/\Ch w' w.heap.size #[iJ fb] 123) ?_).mono ?_
 .rintro e w' ⟨rfl,rfl⟩;refine⟨rfl,((((NQ.alloc _).alloc _).alloc _).alloc _).setCell (.inr (Jf _)) _,?_⟩;exact((((SC.alloc _).alloc _).alloc _).alloc _).set 0 _
 intro e w2 he;obtain⟨FA,Fa,VZ⟩:=he;subst FA;have hf:=H.mod Fa EQ;have c0:=hf.cell 0;have c1:=hf.cell 1;have t0:=VZ.cell 0;have SX:=D Fa;clear hf VZ Fa;go_upto_region 6 with fail
 refine AG [] 9 (λW=>W.cell? ⟨w.heap.size,0,Z⟩=U (iJ fb)/\W.cell? ⟨fb,0,Z⟩=U (iI c)/\W.cell? ⟨fb,1,Z⟩=U (iI n)) ⟨t0,c0,c1⟩ ?_;refine Dr ?_;intro K hK;refine hK _ _ (λh=>Jk rfl h) ?_;clear hK;simp only[BO];go_wp2;go_ret2;exact⟨rfl,SX.drew⟩
def AD (c:UInt8):By->List By
 |[]=>[[]]
 |x::r=>if x=c then []::AD c r else match AD c r with
  |[]=>[[x]]
  |p::ps=>(x::p)::ps
theorem Cc (c:UInt8) (s:By):AD c s≠[]:=by
 cases s with
 |nil=>simp[AD]
 |cons x r=>
  unfold AD;split
  .simp
  .split<;>simp
def SQ (a:By):List By->List By
 |[]=>[a]
 |p::ps=>(a++p)::ps
theorem Ot (s:List By) (h:s≠[]):SQ [] s=s:=by cases s with|nil=>exact Jk rfl h|cons p ps=>rfl
theorem Yt (c:UInt8) (a r:By):SQ a (AD c (c::r))=a::AD c r:=by
 simp[AD,SQ]
theorem Ie (c x:UInt8) (r:By) (h:¬x=c):AD c (x::r)=SQ [x] (AD c r):=by
 simp only[AD,In h];generalize AD c r=q;cases q<;>rfl
theorem uN (c x:UInt8) (a r:By) (h:¬x=c):SQ a (AD c (x::r))=SQ (a++[x]) (AD c r):=by
 rw[Ie c x r h];have:=Cc c r;generalize AD c r=q at*;cases q with
 |nil=>exact Jk rfl this
 |cons p ps=>simp[SQ]
theorem Acq:(prog.info? 9).map (λi=>(i.zero,i.size,i.bytes))=U (U (qE ByteArray.empty),1,16):=Fd
theorem nH (s:ByteArray) (k:Nat) (h:k<s.size):bs (s.extract k (k+1))=[s[k]]:=by
 show(s.extract k (k+1)).data.toList=_;rw[Lib.extract_data];show((bs s).drop k).take _=_;rw[JS (by rw[Bt];exact h),show k+1-k=0+1 by omega,List.take_succ_cons,Q9];rfl
theorem zu (a b:ByteArray):bs (a++b)=bs a++bs b:=by
 show(a++b).data.toList=_;rw[ByteArray.data_append,Array.toList_append]
def AnM (c:UInt8) (s:ByteArray) (w:World) (e:Ending) (w':World):Prop:=
 ∃v l,e= qJ v/\Aw [] w w'/\w'.ownsRow w.heap.size 9 1 v (J l) (Bp l)/\l.map bs=AD c (bs s)
theorem VH (s:ByteArray) (c:UInt8) (w:World) (hs:s.size<=1000000):
  Calls prog 35 #[qE s,.int .u8 c.toNat] w (AnM c s w):=by
 obtain⟨i0,hi,LP,KZ,MH⟩:=info_parts Acq;go_enter func35,ntmps35;go_wp2;go_loopw [5,6] (λv i wr=>∃(k:Nat) (l:List ByteArray) (IZ:ByteArray),k<=s.size/\IZ.size<=k/\i= iI k/\J l<=k/\wr.ownsRow w.heap.size 9 1 v (J l+1) (Bp (l++[IZ]))/\Aw [] w wr/\
     AD c (bs s)=l.map bs++SQ (bs IZ) (AD c ((bs s).drop k))) (λ_ i _=>s.size-(intOf i).toNat)
 case atStart=>
  refine⟨0,[],⟨#[]⟩,Jo _,Jo _,rfl,Jf _,?_,(Aw.refl _ _).alloc _,?_⟩
  .exact⟨rfl,.inr ⟨w.heap.size,1,#[qE ⟨#[]⟩],rfl,Jf _,Ch.new w _ _,Jf _,by unfold maxLen;omega,rfl,rfl⟩⟩
  .exact(Ot _ (Cc _ _)).symm
 case round=>
  obtain⟨k,l,IZ,hk,hck,rfl,hl,Co,NI,rL⟩:=hrel;obtain⟨g,cap,rfl,hg1,hg2,hg3,hg4,hc,hf⟩:=Av Co Y;have Ajd:=D Co;have iO:=D NI;clear Co NI;by_cases hlt:k<s.size
  .have Rv:(bs s).drop k=s[k]::(bs s).drop (k+1):=JS (by rw[Bt];exact hlt);rw[Rv] at rL;by_cases he:s[k]=c
   .have hb:(((s[k]).toNat)==(c.toNat:Int))=V:=by rw[he];simp
    rw[he,Yt] at rL;have Hsp:=D rL;clear rL he Rv hc hf;go_wp2_with (at_builtin;go_loud (refine wpList_append_lies _ rfl _ _ _ rfl w.heap.size 9 i0 _ 1 16 underlying90 hi LP KZ MH rfl Y _ (J l+1) (Bp (l++[IZ])) rfl (DZ Ajd _) ⟨wr.heap.size,0,Z⟩ 1 1 [qE ⟨#[]⟩] rfl rfl (QH (Ch.new wr #[qE ⟨#[]⟩] 9)) (by simp[Value.oneCell']) Y (by unfold maxLen;omega) Y ?_ _ rfl ?_))
    .have:=iO.size;simp;omega
    .intro g' cap' w1 AcM EH FU _;have AgR:=(iO.alloc _).grown EH λj hj=>by cases hj;exact .inr hg1
     have AlK:=D AcM;have AlM:=D AgR;clear AcM EH FU AgR;go_wp2;go_roundw;case rel=>
      refine⟨k+1,l++[IZ],⟨#[]⟩,Y,Jo _,by go_num,by simp;omega,?_,AlM,?_⟩
      .have:=AlK.out;simpa[Bp] using this
      .rw[Hsp.out,JH,Jj];show _=_++([bs IZ]++SQ [] _);rw[Ot _ (Cc _ _)];rfl
     case measure=>simp[intOf];omega
   .have hb:(((s[k]).toNat)==(c.toNat:Int))=I:=by
     rw[Jh];intro h;exact he (UInt8.toNat_inj.1 Y)
    rw[uN c _ _ _ he,<-nH s k hlt,<-zu] at rL;have Hsp:=D rL;have KT:wr.cell? ⟨g,J l,Z⟩=U (qE IZ):=by
     rw[hc (J l) (by simp[Bp])];simp[Bp]
    have Xy:=hf (J l);have hL0:0<=(J l:Int):=JK _;have hL1:J l<((J l:Int)+1):=Y
    have VW:(s.extract k (k+1)).size=1:=by rw[<-Bt,nH s k hlt];rfl
    have Akj:IZ.size+(s.extract k (k+1)).size<=9223372036854775807:=Y
    have Am7:=λw=>run_string_add_sum (P:=prog) (w:=w) IZ (s.extract k (k+1)) Akj
    have n7:=D VW;have yu:IntKind.i64.wrap (k+1)=k+1:=IntWalk.i64_in _ Y;have Uf:0<=(k:Int)+1:=Y
    have GZ:k+1<=(s.size:Int):=Y
    have VX:((k:Int)+1).toNat=k+1:=Y
    clear rL he Rv hc hf Akj VW;go_wp2
    go_region
    all_goals clear yu VX Am7
    all_goals go_wp2
    go_roundw;case rel=>
     refine⟨k+1,l,IZ++s.extract k (k+1),Y,?_,by go_num,Y,?_,(iO.setCell (.inr hg1) _).drew,Hsp⟩
     .rw[ByteArray.size_append,n7.out];omega
     .have:=Lw (Xl Ajd (J l) (by simp[Bp]) (qE (IZ++s.extract k (k+1))));simpa[Bp] using this
    case measure=>simp[intOf];omega
  .rw[Qc (by rw[Bt];omega)] at rL;have Hsp:=D rL;clear rL hc hf;go_wp2;go_ret;refine⟨_,l++[IZ],rfl,iO,?_,?_⟩
   .have:=Ajd.out;simpa[Bp] using this
   .rw[Hsp.out,JH];simp[AD,SQ]
def N2 (l:By):Option Nat:=
 if J l=2/\(l.getD 0 0).toNat=114/\48<=(l.getD 1 0).toNat/\(l.getD 1 0).toNat<=55 then U ((l.getD 1 0).toNat-48) else Z
def TP (l:By):Value:= qG #[iI ((N2 l).getD 0:Nat),qF (N2 l).isSome]
theorem Xh {l:By} (h:¬(J l=2/\(l.getD 0 0).toNat=114/\48<=(l.getD 1 0).toNat/\(l.getD 1 0).toNat<=55)):TP l= qG #[iI 0,qF I]:=by
 unfold TP N2;rw[In h];rfl
theorem lx {l:By} (h:J l=2/\(l.getD 0 0).toNat=114/\48<=(l.getD 1 0).toNat/\(l.getD 1 0).toNat<=55):TP l= qG #[iI (((l.getD 1 0).toNat-48:Nat):Int),qF V]:=by
 unfold TP N2;rw[Jd h];rfl
theorem vd (s:ByteArray) (k:Nat) (h:k<s.size):(bs s).getD k 0=s[k]:=by
 rw[Ja,Jb (by rw[Bt];exact h)];rfl
theorem UZ (s:ByteArray) (w:World):
  Calls prog 93 #[qE s] w λe w'=>e= qJ (TP (bs s))/\w'=w:=by
 by_cases h2:s.size=2
 .have hq:((s.size:Int) !=2)=I:=by rw[h2];rfl
  have h0:0<s.size:=Y
  have h3:1<s.size:=Y
  have hn:=λh=> @Xh (bs s) h
  have hp:=λh=> @lx (bs s) h
  rw[Bt,vd s 0 h0,vd s 1 h3] at hn hp;have Hn:=D hn;have Hp:=D hp;have H2:=D h2;clear hn hp h2;go_enter func93,ntmps93;go_wp2;all_goals go_ret2
  all_goals refine⟨OS ?_,rfl⟩
  all_goals first
   |(rw[Hn.out Y];rfl)
   |(rw[Hp.out (by have:=H2.out;omega)];exact Al9 (int_eq Y) rfl)
 .have hq:((s.size:Int) !=2)=V:=by rw[bne_iff_ne];omega
  have Hn:=D (@Xh (bs s) (by rw[Bt];exact λh=>h2 h.1));clear h2;go_enter func93,ntmps93;go_wp2;go_ret2;exact⟨OS Hn.symm,rfl⟩
structure SV where
 Dd:Bool
 v:Int
def SV.val (a:SV):Value:= qH #[qF a.Dd,iI a.v]
def NT (l:By):Option SV:=match N2 l with
 |some r=>U ⟨V,r⟩
 |none=>match number l with
  |some v=>U ⟨I,v⟩
  |none=>Z
def SV.zero:SV:=⟨I,0⟩
def Ai8 (l:By) (w:World) (e:Ending) (w':World):Prop:=e= qJ (qG #[((NT l).getD .zero).val,qF (NT l).isSome])/\Aw [] w w'
theorem Aeh (s:ByteArray) (w:World) (hs:s.size<=maxLen):
  Calls prog 92 #[qE s] w (Ai8 (bs s) w):=by
 have h1:=λw=>UZ s w
 have h2:=λw=>Me s w hs
 unfold TP at h1;unfold ND at h2;unfold Ai8 NT;generalize N2 (bs s)=r at*;generalize number (bs s)=n at*;have H1:=D h1;have H2:=D h2;clear h1 h2;cases r with
 |some k=>
  go_enter func92,ntmps92;go_wp2_with (first|(go_at_call 93;refine(H1 _).mono ?_;rintro e w' ⟨rfl,rfl⟩)|(go_at_call 86;refine(H2 _).mono ?_;rintro e w' ⟨rfl,rfl⟩));exact bodyPost_ret (v:= qG #[qH #[qF V,iI k],qF V]) (by simp[results,results92,go_sem]) rfl ⟨rfl,(Aw.refl _ _).alloc _⟩
 |none=>
  rcases n with _|v
  .skip
   go_enter func92,ntmps92;go_wp2_with (first|(go_at_call 93;refine(H1 _).mono ?_;rintro e w' ⟨rfl,rfl⟩)|(go_at_call 86;refine(H2 _).mono ?_;rintro e w' ⟨rfl,rfl⟩));exact bodyPost_ret (v:= qG #[qH #[qF I,iI 0],qF I]) (by simp[results,results92,go_sem]) rfl ⟨rfl,(Aw.refl _ _).alloc _⟩
  .go_enter func92,ntmps92;go_wp2_with (first|(go_at_call 93;refine(H1 _).mono ?_;rintro e w' ⟨rfl,rfl⟩)|(go_at_call 86;refine(H2 _).mono ?_;rintro e w' ⟨rfl,rfl⟩));exact bodyPost_ret (v:= qG #[qH #[qF I,iI v],qF V]) (by simp[results,results92,go_sem]) rfl ⟨rfl,(Aw.refl _ _).alloc _⟩
def bL:List ByteArray:=[⟨#[109,111,118]⟩,⟨#[108,111,97,100]⟩,⟨#[115,116,111,114,101]⟩,⟨#[99,97,115]⟩,⟨#[120,97,100,100]⟩,⟨#[102,101,110,99,101]⟩,⟨#[111,117,116]⟩,⟨#[106,109,112]⟩,⟨#[106,122]⟩,⟨#[116,114,97,112]⟩,⟨#[104,97,108,116]⟩]
def Ry:List ByteArray:=[⟨#[100,97]⟩,⟨#[100,97,107]⟩,⟨#[97,107,98]⟩,⟨#[100,97,107,98,99]⟩,⟨#[100,97,107,98]⟩,⟨#[]⟩,⟨#[97]⟩,⟨#[116]⟩,⟨#[97,116]⟩,⟨#[110]⟩,⟨#[]⟩]
def Ij (x:ByteArray):ByteArray:=
 if 0<=Bg B7 x then ⟨#[100,97,98]⟩ else if Bg bL x<0 then ⟨#[63]⟩ else wd Ry (Bg bL x).toNat
def Ag8 (x:ByteArray) (w:World) (e:Ending) (w':World):Prop:=e= qJ (qE (Ij x))/\Aw [] w w'
theorem wX (l:List ByteArray) (x:ByteArray) (k:Nat):Ee l x k= -1\/((k:Int)<=Ee l x k/\Ee l x k<k+J l):=by
 induction l generalizing k with
 |nil=>exact .inl rfl
 |cons a r ih=>
  unfold Ee;split
  .exact .inr ⟨Y,by simp only[Jg];omega⟩
  .rcases ih (k+1) with h|⟨h1,h2⟩
   .exact .inl h
   .exact .inr ⟨Y,by simp only[Jg];omega⟩
theorem U4 (l:List ByteArray) (x:ByteArray):Bg l x= -1\/(0<=Bg l x/\Bg l x<J l):=by
 rcases wX l x 0 with h|⟨h1,h2⟩
 .exact .inl h
 .exact .inr ⟨h1,by unfold Bg;omega⟩
theorem Adf (x:ByteArray) (w:World):Calls prog 91 #[qE x] w (Ag8 x w):=by
 have hP:=U4 B7 x;have hQ:=U4 bL x;have hF:Ij x=if 0<=Bg B7 x then ⟨#[100,97,98]⟩ else if Bg bL x<0 then ⟨#[63]⟩ else wd Ry (Bg bL x).toNat:=rfl
 go_enter func91,ntmps91;go_wp2_with fail;refine(cM _).mono ?_;rintro e w1 ⟨v1,rfl,Dk,Ti⟩;have HP:=D (Gp B7 x v1 w1 _ Ti);have HM:=D Dk;clear Ti Dk;generalize Bg B7 x=p at*;generalize hq:Bg bL x=q at*;have HF:=D hF;have HhQ:=D hQ;have Hq:=D hq;clear hP hQ hF hq;go_wp2_with fail;refine HP.mono ?_;rintro e w2 ⟨rfl,rfl⟩;by_cases hp:0<=p
 .go_wp2;go_ret;refine⟨OS ?_,HM⟩;rw[HF.out,Jd hp];rfl
 .have hpn:p<0:=Y
  go_wp2_with fail;refine(Gp bL x _ _ (λ_=>True) ((Sl.new (w:=w2) (Bp bL) 9 11 rfl Y _ trivial).mod ((Aw.refl [] _).alloc _) EQ)).mono ?_;rintro e w3 ⟨rfl,rfl⟩;rw[Hq.out];by_cases hq:q<0
  .go_wp2;go_ret;refine⟨OS ?_,(HM.alloc _).alloc _⟩;rw[HF.out,In (Int.not_le.2 hpn),Jd hq];rfl
  .obtain⟨n,rfl⟩:∃n:Nat,q=n:=⟨q.toNat,Y⟩;have hn:n<11:=by
    rcases HhQ.out with h|⟨h1,h2⟩
    .omega
    .have:(J bL:Int)=11:=rfl;omega
   have HF':=D (show Ij x=wd Ry n by rw[HF.out,In (Int.not_le.2 hpn),In hq];simp);have hW:(Bp Ry)[n]'hn= qE (wd Ry n):=by
    simp only[Bp,List.getElem_map];simp[wd,Jb (show n<J Ry from hn)]
   have HW:=D hW;clear hq hpn hW;go_wp2;go_ret;refine⟨OS ?_,(HM.alloc _).alloc _⟩;rw[HF'.out];exact HW.out
structure Bi where
 Nw:ByteArray
 d:Int
 a:SV
 b:SV
 c:SV
 k:Int
def Bi.cells (i:Bi):Array Value:= #[qE i.Nw,iI i.d,qF i.a.Dd,iI i.a.v,qF i.b.Dd,iI i.b.v,qF i.c.Dd,iI i.c.v,iI i.k]
def Bi.val (i:Bi):Value:= qH i.cells
def Bi.of (x:ByteArray):Bi:=⟨x,0,.zero,.zero,.zero,0⟩
def Gu (f:UInt8) (x:By) (i:Bi):Bi×Bool:=
 if f.toNat=100 then ({i with d:=((N2 x).getD 0:Nat)},(N2 x).isSome)
 else if f.toNat=97 then ({i with a:=(NT x).getD .zero},(NT x).isSome)
 else if f.toNat=98 then ({i with b:=(NT x).getD .zero},(NT x).isSome)
 else if f.toNat=99 then ({i with c:=(NT x).getD .zero},(NT x).isSome)
 else if f.toNat=107 then ({i with k:=(number x).getD 0},(number x).isSome)
 else if f.toNat=116 then ({i with k:=(number x).getD 0},(number x).isSome && decide (0<=(number x).getD 0) && decide ((number x).getD 0<=4000))
 else if f.toNat=110 then ({i with k:=(number x).getD 0},(number x).isSome && decide (1<=(number x).getD 0) && decide ((number x).getD 0<=9))
 else (i,(NT x).isSome)
def Tg:By->List ByteArray->Bi->Option Bi
 |[],_,i=>U i
 |f::fs,l,i=>if (Gu f (bs (wd l 0)) i).2 then Tg fs l.tail (Gu f (bs (wd l 0)) i).1 else Z
def Ep (l:List ByteArray):Option Bi:=
 if bs (Ij (wd l 0))=[63]\/J l≠1+(Ij (wd l 0)).size then Z else Tg (bs (Ij (wd l 0))) l.tail (.of (wd l 0))
def Ad8 (l:List ByteArray) (w:World) (e:Ending) (w':World):Prop:=
 ∃i:Bi,e= qJ (qG #[i.val,qF (Ep l).isSome])/\(∀j,Ep l=U j->i=j)/\Aw [] w w'
theorem yT (x:ByteArray):(Ij x).size<=5:=by
 unfold Ij;split
 .exact Nat.le_of_ble_eq_true rfl
 .split
  .exact Nat.le_of_ble_eq_true rfl
  .unfold wd;have:∀a,a∈Ry->a.size<=5:=Do
   rcases jR (Bg bL x).toNat (J Ry) with h|h
   .rw[Ja,Jb h];exact this _ (JO h)
   .rw[Ja,QC h];exact Jo _
theorem Yj {w1:World} (h:Aw [] w w1) {v0 v1 v2 v3 v4 v5 v6 v7 v8:Value}:Aw [] w
  (((((((((w1.setCell ⟨w.heap.size,0,Z⟩ v0).setCell ⟨w.heap.size,1,Z⟩ v1).setCell ⟨w.heap.size,2,Z⟩ v2).setCell ⟨w.heap.size,3,Z⟩ v3).setCell ⟨w.heap.size,4,Z⟩ v4).setCell
    ⟨w.heap.size,5,Z⟩ v5).setCell ⟨w.heap.size,6,Z⟩ v6).setCell ⟨w.heap.size,7,Z⟩ v7).setCell ⟨w.heap.size,8,Z⟩ v8):=by
 have l:∀o,(⟨w.heap.size,o,Z⟩:Addr).block∈([])\/w.heap.size<=(⟨w.heap.size,o,Z⟩:Addr).block:=λ_=> .inr (Jf _)
 exact((((((((h.setCell (l 0) _).setCell (l 1) _).setCell (l 2) _).setCell (l 3) _).setCell (l 4) _).setCell (l 5) _).setCell (l 6) _).setCell (l 7) _).setCell (l 8) _
theorem tZ {α β:Type} {a c:α} {b d:β} (h:a=c) (k:b=d):(a,b)=(c,d):=by rw[h,k]
theorem Ch.gh (h:Ch w b c T) (i:Nat) (v:Value) {c':Array Value} (e:c.setIfInBounds i v=c'):Ch (w.setCell ⟨b,i,Z⟩ v) b c' T:=e▸h.set i v
theorem Af8 {a0 a1 a2 a3 a4 a5 a6 a7 a8:Value} (h:Ch w b #[a0,a1,a2,a3,a4,a5,a6,a7,a8] T) {v0 v1 v2 v3 v4 v5 v6 v7 v8:Value}:
  Ch (((((((((w.setCell ⟨b,0,Z⟩ v0).setCell ⟨b,1,Z⟩ v1).setCell ⟨b,2,Z⟩ v2).setCell ⟨b,3,Z⟩ v3).setCell ⟨b,4,Z⟩ v4).setCell ⟨b,5,Z⟩ v5).setCell ⟨b,6,Z⟩ v6).setCell
    ⟨b,7,Z⟩ v7).setCell ⟨b,8,Z⟩ v8) b #[v0,v1,v2,v3,v4,v5,v6,v7,v8] T:=by
 have h0:=h.gh 0 v0 (c':= #[v0,a1,a2,a3,a4,a5,a6,a7,a8]) rfl;have h1:=h0.gh 1 v1 (c':= #[v0,v1,a2,a3,a4,a5,a6,a7,a8]) rfl;have h2:=h1.gh 2 v2 (c':= #[v0,v1,v2,a3,a4,a5,a6,a7,a8]) rfl;have h3:=h2.gh 3 v3 (c':= #[v0,v1,v2,v3,a4,a5,a6,a7,a8]) rfl;have h4:=h3.gh 4 v4 (c':= #[v0,v1,v2,v3,v4,a5,a6,a7,a8]) rfl;have h5:=h4.gh 5 v5 (c':= #[v0,v1,v2,v3,v4,v5,a6,a7,a8]) rfl;have h6:=h5.gh 6 v6 (c':= #[v0,v1,v2,v3,v4,v5,v6,a7,a8]) rfl;have h7:=h6.gh 7 v7 (c':= #[v0,v1,v2,v3,v4,v5,v6,v7,a8]) rfl;exact h7.gh 8 v8 rfl
theorem mj (a:Act) (w:World) (rb:Nat) (i:Bi) (c:Bool) (h:Ch w rb i.cells 101) (h2:a.tmps.getD 2 undef= iJ rb) (h3:a.tmps.getD 3 undef= qF c):
  (results f62 a.tmps).run prog w=.ok (qG #[i.val,qF c]) w:=by
 have hc:=h.cell;unfold Bi.cells at hc;simp[QI] at h2 h3;simp[results,results62,go_sem,hc,Bi.val,Bi.cells,h2,h3]
theorem Yo (l:List ByteArray) (v:Value) (w:World) (ok:Nat->Prop) (hv:Sl w ok v (Bp l)) (hne:l≠[]) (hs:∀s,s∈l->s.size<=maxLen):
  Calls prog 62 #[v] w (Ad8 l w):=by
 have hlen:0<J l:=by cases l with|nil=>exact Jk rfl hne|cons a r=>simp
 obtain⟨hm,⟨rfl,hn⟩|⟨b,off,cap,rfl,h1,h2,h3,h4,h5⟩⟩:=hv
 .exact Jk (by cases l with|nil=>rfl|cons a r=>simp[Bp] at hn) hne
 rw[Cj] at hm h1⊢;unfold maxLen at hm h2;have c0:=Sl.Nw h5 0 hlen;simp only[J4] at c0;have H5:=D (Sl.Nw h5);have HS:=D (λi=>Ky hs i);have hfs:=yT (wd l 0);have hD:Ep l=(if bs (Ij (wd l 0))=[63]\/J l≠1+(Ij (wd l 0)).size then Z else Tg (bs (Ij (wd l 0))) l.tail (.of (wd l 0))):=rfl;clear h5 h3 hs hne;generalize hX:wd l 0=x at*;have hF:=λw=>Adf x w
 unfold Ag8 at hF;generalize hFo:Ij x=f at*;have HF:=D hF;have HD:=D hD;clear hF hFo hX hD;go_enter func62,ntmps62;go_wp2_with fail;refine(HF _).mono ?_;rintro e w1 ⟨rfl,Dk⟩;have hR:=((Ch.new w (Bi.of ByteArray.empty).cells _).alloc _).mod Dk EQ;have hI:Ch w1 (w.heap.size+1) (Bi.of x).cells 101:=by
  have:=(Ch.new (w.alloc (qK (Bi.of ByteArray.empty).cells 101)) (Bi.of x).cells 101).mod Dk EQ;rw[show(w.alloc (qK (Bi.of ByteArray.empty).cells 101)).heap.size=w.heap.size+1 from QT _] at this;exact this
 have Fa:=(((Aw.refl [] w).alloc _).alloc _).trans Dk EQ;have HM:=D Fa;have yI:=hR.cell;have hRf:=hR.free;have hIc:=hI.cell;clear Dk Fa HF;by_cases hq:bs f=[63]
 .have hq':=CZ hq;have HN:Hid (Ep l=Z):=by rw[HD.out,Jd (.inl hq)];rfl
  clear hq hR hI;unfold Bi.cells at yI hIc;go_wp2;refine bodyPost_ret (v:= qG #[(Bi.of x).val,qF I]) (by simp[results,results62,go_sem,yI,Bi.val,Bi.cells]) rfl ⟨Bi.of x,by rw[HN.out];rfl,(λj hj=>by rw[HN.out] at hj;cases hj),?_⟩;exact Yj HM.out
 .have hq':=Bz hq;by_cases hlf:J l=1+f.size
  .have hD2:Ep l=Tg (bs f) l.tail (.of x):=by rw[HD.out,In (by rintro(h|h);exact hq h;exact h hlf)]
   have HD2:=D hD2;have Ix:(J l !=1+(f.size:Int))=I:=by rw[i6];intro h;rw[bne_iff_ne] at h;omega
   have hR':=D hR;have hI':=D hI;have iZ:f.size+1<=J l:=Y
   clear hq hD2 hlf hR hI yI hRf hIc HD c0;go_wp2;go_loopw [6] (λj wr=>∃(k:Nat) (i:Bi),k<=f.size/\j= iI k/\Ch wr w.heap.size (Bi.of ByteArray.empty).cells 101/\Ch wr (w.heap.size+1) i.cells 101/\Aw [] w wr/\
     Ep l=Tg ((bs f).drop k) (l.tail.drop k) i) (λj _=>f.size-(intOf j).toNat)
   case atStart=>exact⟨0,_,Jo _,rfl,hR',hI',HM,HD2⟩
   case round=>
    clear hq' Ix hR' hI' HD2 HM;obtain⟨k,i,hk,rfl,hR,hI,NI,uG⟩:=hrel;by_cases hkf:k<f.size
    .have hcf:(bs f).drop k=f[k]::(bs f).drop (k+1):=JS (by rw[Bt];exact hkf);have Cs:(l.tail.drop k).tail=l.tail.drop (k+1):=by rw[i7]
     have hcw:wd (l.tail.drop k) 0=wd l (k+1):=by
      unfold wd;rw[Ja,Ja,List.getElem?_drop,List.getElem?_tail]
     rw[hcf] at uG;unfold Tg at uG;rw[Cs,hcw] at uG;have c1:wr.cell? ⟨b,off+(1+k),Z⟩=U (qE (wd l (k+1))):=by rw[Nat.add_comm 1 k];exact AH NI (H5 (k+1) Y)
     have hX:=HS.out (k+1);generalize wd l (k+1)=X at*;have hV:=λw=>Aeh X w hX
     have hN:=λw=>Me X w hX
     have hRg:=λw=>UZ X w
     unfold Ai8 at hV;unfold ND at hN;unfold TP at hRg;simp only[SV.val] at hV;generalize hva:NT (bs X)=va at*;generalize hnu:number (bs X)=nu at*;generalize hre:N2 (bs X)=re at*;have Hva:=D hva;have Hnu:=D hnu;have Hre:=D hre;clear hva hnu hre;have Hgo:=D uG;have HV:=D hV;have HNu:=D hN;have HRg:=D hRg;have HR:=D hR;have HI:=D hI;have iO:=D NI;clear hcf Cs hcw uG hX hV hN hRg hR hI NI;go_wp2_with fail;refine(HV _).mono ?_;rintro e w2 ⟨rfl,Fa⟩;have SX:=D (iO.Aj Fa);have fG:=D (HR.mod Fa EQ);have vI:=D (HI.mod Fa EQ);have hIc:=vI.cell;have hIf:=vI.free;have yI:=fG.cell;have hIl:=vI.lt;unfold Bi.cells at hIc yI;clear Fa HR HI iO HV;go_wp2_with fail;refine(HNu _).mono ?_;rintro e w' ⟨rfl,rfl⟩
     go_upto_block 2 with(fail)
     go_cut [9,12,13] (λo _ _ wz=>∃(j:Bi) (c:Bool),o= qF c/\Gu f[k] (bs X) i=(j,c)/\Ch wz w.heap.size (Bi.of ByteArray.empty).cells 101/\Ch wz (w.heap.size+1) j.cells 101/\Aw [] w wz)
     case first=>
      clear yI;by_cases hd:(f[k]).toNat=100
      .have qd:(((f[k]).toNat:Int)==100)=V:=by rw[hd];rfl
       have HZ:=D (show Gu f[k] (bs X) i=_ by simp only[Gu,Jd hd,Hva.out,Hnu.out,Hre.out];exact rfl);clear hd;go_wp2_with (go_at_call 93;refine(HRg _).mono ?_;rintro e w' ⟨rfl,rfl⟩)
       go_meet
       exact⟨_,_,rfl,HZ,((fG).F8 (Qj (JG _)) _).alloc _,((vI).set 1 _).alloc _,((SX).setCell (.inr (JJ _)) _).alloc _⟩
      have qd:(((f[k]).toNat:Int)==100)=I:=by rw[Jh];omega
      by_cases ha:(f[k]).toNat=97
      .have qa:(((f[k]).toNat:Int)==97)=V:=by rw[ha];rfl
       have HZ:=D (show Gu f[k] (bs X) i=_ by simp only[Gu,In hd,Jd ha,Hva.out,Hnu.out,Hre.out];exact rfl);clear hd ha;go_wp2_with (go_at_call 93;refine(HRg _).mono ?_;rintro e w' ⟨rfl,rfl⟩)
       go_meet
       exact⟨_,_,rfl,HZ,(((fG).F8 (Qj (JG _)) _).F8 (Qj (JG _)) _).alloc _,(((vI).set 2 _).set 3 _).alloc _,(((SX).setCell (.inr (JJ _)) _).setCell (.inr (JJ _)) _).alloc _⟩
      have qa:(((f[k]).toNat:Int)==97)=I:=by rw[Jh];omega
      by_cases hb:(f[k]).toNat=98
      .have qb:(((f[k]).toNat:Int)==98)=V:=by rw[hb];rfl
       have HZ:=D (show Gu f[k] (bs X) i=_ by simp only[Gu,In hd,In ha,Jd hb,Hva.out,Hnu.out,Hre.out];exact rfl);clear hd ha hb;go_wp2_with (go_at_call 93;refine(HRg _).mono ?_;rintro e w' ⟨rfl,rfl⟩)
       go_meet
       exact⟨_,_,rfl,HZ,(((fG).F8 (Qj (JG _)) _).F8 (Qj (JG _)) _).alloc _,(((vI).set 4 _).set 5 _).alloc _,(((SX).setCell (.inr (JJ _)) _).setCell (.inr (JJ _)) _).alloc _⟩
      have qb:(((f[k]).toNat:Int)==98)=I:=by rw[Jh];omega
      by_cases hc:(f[k]).toNat=99
      .have qc:(((f[k]).toNat:Int)==99)=V:=by rw[hc];rfl
       have HZ:=D (show Gu f[k] (bs X) i=_ by simp only[Gu,In hd,In ha,In hb,Jd hc,Hva.out,Hnu.out,Hre.out];exact rfl);clear hd ha hb hc;go_wp2_with (go_at_call 93;refine(HRg _).mono ?_;rintro e w' ⟨rfl,rfl⟩)
       go_meet
       exact⟨_,_,rfl,HZ,(((fG).F8 (Qj (JG _)) _).F8 (Qj (JG _)) _).alloc _,(((vI).set 6 _).set 7 _).alloc _,(((SX).setCell (.inr (JJ _)) _).setCell (.inr (JJ _)) _).alloc _⟩
      have qc:(((f[k]).toNat:Int)==99)=I:=by rw[Jh];omega
      by_cases hk:(f[k]).toNat=107
      .have qk:(((f[k]).toNat:Int)==107)=V:=by rw[hk];rfl
       have HZ:=D (show Gu f[k] (bs X) i=_ by simp only[Gu,In hd,In ha,In hb,In hc,Jd hk,Hva.out,Hnu.out,Hre.out];exact rfl);clear hd ha hb hc hk;go_wp2_with (go_at_call 93;refine(HRg _).mono ?_;rintro e w' ⟨rfl,rfl⟩)
       go_meet
       exact⟨_,_,rfl,HZ,((fG).F8 (Qj (JG _)) _).alloc _,((vI).set 8 _).alloc _,((SX).setCell (.inr (JJ _)) _).alloc _⟩
      have qk:(((f[k]).toNat:Int)==107)=I:=by rw[Jh];omega
      by_cases ht:(f[k]).toNat=116
      .have qt:(((f[k]).toNat:Int)==116)=V:=by rw[ht];rfl
       have HZ:=D (show Gu f[k] (bs X) i=_ by simp only[Gu,In hd,In ha,In hb,In hc,In hk,Jd ht,Hva.out,Hnu.out,Hre.out];exact rfl);clear hd ha hb hc hk ht;cases nu with
       |none=>
        exact maO
       |some r=>
        by_cases Vy:0<=r<;>by_cases XK:r<=4000;all_goals try (exfalso;omega)
        all_goals
         go_wp2_with (go_at_call 93;refine(HRg _).mono ?_;rintro e w' ⟨rfl,rfl⟩)
         go_meet
         refine⟨_,_,rfl,HZ.trans (tZ rfl ?_),((fG).F8 (Qj (JG _)) _).alloc _,((vI).set 8 _).alloc _,((SX).setCell (.inr (JJ _)) _).alloc _⟩;simp[*]
      have qt:(((f[k]).toNat:Int)==116)=I:=by rw[Jh];omega
      by_cases hn:(f[k]).toNat=110
      .have qn:(((f[k]).toNat:Int)==110)=V:=by rw[hn];rfl
       have HZ:=D (show Gu f[k] (bs X) i=_ by simp only[Gu,In hd,In ha,In hb,In hc,In hk,In ht,Jd hn,Hva.out,Hnu.out,Hre.out];exact rfl);clear hd ha hb hc hk ht hn;cases nu with
       |none=>
        exact maO
       |some r=>
        by_cases Vy:1<=r<;>by_cases XK:r<=9;all_goals try (exfalso;omega)
        all_goals
         go_wp2_with (go_at_call 93;refine(HRg _).mono ?_;rintro e w' ⟨rfl,rfl⟩)
         go_meet
         refine⟨_,_,rfl,HZ.trans (tZ rfl ?_),((fG).F8 (Qj (JG _)) _).alloc _,((vI).set 8 _).alloc _,((SX).setCell (.inr (JJ _)) _).alloc _⟩;simp[*]
      have qn:(((f[k]).toNat:Int)==110)=I:=by rw[Jh];omega
      have HZ:=D (show Gu f[k] (bs X) i=_ by simp only[Gu,In hd,In ha,In hb,In hc,In hk,In ht,In hn,Hva.out,Hnu.out,Hre.out];exact rfl);clear hd ha hb hc hk ht hn;go_wp2_with (go_at_call 93;refine(HRg _).mono ?_;rintro e w' ⟨rfl,rfl⟩)
      go_meet
      exact⟨_,_,rfl,HZ,fG.alloc _,vI.alloc _,SX.alloc _⟩
     case rest=>
      obtain⟨j,c,rfl,hj,hR,hI,NI⟩:=hcut;have hg:=Hgo.out;rw[hj] at hg;have HR:=D hR;have HI:=D hI;have HM:=D NI;have Hg:=D hg;have hIc:=hI.cell;have yI:=hR.cell;have hRf:=hR.free;unfold Bi.cells at hIc yI;clear hR hI NI hg hj vI fG SX HRg Hgo HNu;cases c
      .have HB:Hid (Ep l=Z):=Hg.out;go_wp2;exact bodyPost_ret (mj _ _ w.heap.size j I (Af8 HR) rfl rfl) rfl ⟨j,by rw[HB.out];rfl,(λi hj=>by rw[HB.out] at hj;cases hj),Yj HM⟩
      .go_wp2;go_roundw;case rel=>exact⟨k+1,j,Y,by go_num,HR,HI,HM,Hg⟩
       case measure=>simp[intOf];omega
    .have hE:Ep l=U i:=by rw[uG,Qc (by rw[Bt];omega)];rfl
     have HE:=D hE;have hIc:=hI.cell;have yI:=hR.cell;have hRf:=hR.free;have HM:=D NI;unfold Bi.cells at hIc yI;clear uG hE hR hI NI;go_wp2;refine bodyPost_ret (v:= qG #[i.val,qF V]) (by simp[results,results62,go_sem,yI,Bi.val,Bi.cells]) rfl ⟨i,by rw[HE.out];rfl,(λj hj=>by rw[HE.out] at hj;cases hj;rfl),?_⟩;exact Yj HM.out
  .have HN:Hid (Ep l=Z):=by rw[HD.out,Jd (.inr hlf)];rfl
   have Ix:(J l !=1+(f.size:Int))=V:=by rw[bne_iff_ne];omega
   clear hq hlf hR hI;unfold Bi.cells at yI hIc;go_wp2;refine bodyPost_ret (v:= qG #[(Bi.of x).val,qF I]) (by simp[results,results62,go_sem,yI,Bi.val,Bi.cells]) rfl ⟨Bi.of x,by rw[HN.out];rfl,(λj hj=>by rw[HN.out] at hj;cases hj),?_⟩;exact Yj HM.out
structure At where
 AX:Bool
 v:Int
deriving DecidableEq
def At.zero:At:=⟨I,0⟩
inductive Bj where
 |nil
 |set (v:Int) (op:ByteArray) (a b:At) (rest:Bj)
 |get (v:Int) (first size:Int) (AN:At) (rest:Bj)
 |put (first size:Int) (AN:At) (a:At) (rest:Bj)
 |out (a:At) (rest:Bj)
 |atomic (body rest:Bj)
 |Ew (a:At) (body rest:Bj)
 |loop (n:Int) (body rest:Bj)
def Bj.FY:Bj->Bj->Bj
 |.nil,t=>t
 |.set v op a b r,t=> .set v op a b (r.FY t)
 |.get v f s a r,t=> .get v f s a (r.FY t)
 |.put f s AN a r,t=> .put f s AN a (r.FY t)
 |.out a r,t=> .out a (r.FY t)
 |.atomic b r,t=> .atomic b (r.FY t)
 |.Ew a b r,t=> .Ew a b (r.FY t)
 |.loop n b r,t=> .loop n b (r.FY t)
structure Ag where
 Dd:Bool
 v:Int
def Ag.n (v:Int):Ag:=⟨I,v⟩
def Ag.r (k:Int):Ag:=⟨V,k⟩
inductive GI where
 |Zv (d:Int) (a:Ag)
 |op (name:ByteArray) (d:Int) (a b:Ag)
 |load (d:Int) (a:Ag) (k:Int)
 |store (a:Ag) (k:Int) (b:Ag)
 |La (d:Int) (a:Ag) (k:Int) (b c:Ag)
 |El (d:Int) (a:Ag) (k:Int) (b:Ag)
 |Mr
 |out (a:Ag)
 |GN (q:Int)
 |jz (a:Ag) (q:Int)
 |CS (k:Int)
 |halt
structure Io where
 k:Nat
 a:Option Ag
structure GS where
 Ab:List GI
 Ac:Int
 cells:Int
 block:Bool
 BN:List Io
 Ah:Int
namespace GS
def AP (g:GS) (i:GI):GS:={g with Ab:=g.Ab++[i]}
def Bd (g:GS) (l:Io):GS:={g with Ab:=g.Ab.set l.k (match l.a with|none=> .GN (J g.Ab)|some a=> .jz a (J g.Ab))}
def Wp (g:GS):Io:=⟨J g.Ab,Z⟩
def CW (g:GS):GS:=g.AP (.GN 0)
def EN (g:GS) (a:Ag):Io:=⟨J g.Ab,U a⟩
def CL (g:GS) (a:Ag):GS:=g.AP (.jz a 0)
def lo (g:GS) (r k:Int):GS:=g.AP (.load r (.n (g.Ac+k)) 0)
def SL (g:GS) (r table i:Int):GS:=g.AP (.load r (.r i) (g.Ac+table))
def Pw (g:GS) (r k:Int):GS:=g.AP (.load r (.n k) 0)
def st (g:GS) (k:Int) (a:Ag):GS:=g.AP (.store (.n (g.Ac+k)) 0 a)
def I8 (g:GS) (table i:Int) (a:Ag):GS:=g.AP (.store (.r i) (g.Ac+table) a)
def UP (g:GS) (k:Int) (a:Ag):GS:=g.AP (.store (.n k) 0 a)
def II (g:GS) (name:ByteArray) (d:Int) (a b:Ag):GS:=g.AP (.op name d a b)
def Cn (g:GS) (a:At) (r:Int):GS:=if a.AX then g.lo r a.v else g
def BF (a:At) (r:Int):Ag:=if a.AX then .r r else .n a.v
def Kd (g:GS) (r:Int):GS:={(g.CL (.r r)) with BN:=g.BN++[g.EN (.r r)]}
end GS
def KO:ByteArray:=⟨#[97,100,100]⟩
def KN:ByteArray:=⟨#[115,117,98]⟩
def bO:ByteArray:=⟨#[97,110,100]⟩
def nOr:ByteArray:=⟨#[111,114]⟩
def Vh:ByteArray:=⟨#[115,104,108]⟩
def Zs:ByteArray:=⟨#[115,104,114]⟩
def dN:ByteArray:=⟨#[108,116]⟩
def dO:ByteArray:=⟨#[101,113]⟩
namespace GS
def KJ (g:GS) (r:Int):GS:=
 let g:=g.II bO 3 (.r r) (.n 1)
 let g:=g.II dO 3 (.r 3) (.n 0)
 let g:=g.Kd 3
 let g:=g.II Zs 3 (.r r) (.n 1)
 let g:=g.lo 4 38
 let g:=g.II dN 3 (.r 4) (.r 3)
 let g:=g.II dO 3 (.r 3) (.n 0)
 g.Kd 3
def EP (g:GS) (first size:Int) (a:At):GS:=
 let AN:=BF a 0
 let g:=g.Cn a 0
 let g:=g.II dN 3 AN (.n 0)
 let low:=g.EN (.r 3)
 let g:=g.CL (.r 3)
 let g:=g.AP (.CS 2)
 let g:=g.Bd low
 let g:=g.II dN 3 AN (.n size)
 let g:=g.II dO 3 (.r 3) (.n 0)
 let high:=g.EN (.r 3)
 let g:=g.CL (.r 3)
 let g:=g.AP (.CS 2)
 let g:=g.Bd high
 g.II KO 0 AN (.n first)
def SR (g:GS):GS:=
 let g:=g.SL 1 8 0
 let aj:=g.EN (.r 1)
 let g:=g.CL (.r 1)
 let g:=g.SL 1 14 0
 let done:=g.Wp
 let g:=g.CW
 let g:=g.Bd aj
 let g:=g.AP (.load 2 (.r 0) 8)
 let g:=g.KJ 2
 let g:=g.AP (.load 1 (.r 0) 0)
 let g:=g.AP (.load 3 (.r 0) 8)
 let g:=g.II dO 3 (.r 3) (.r 2)
 let g:=g.Kd 3
 let g:=g.I8 20 0 (.n 1)
 g.Bd done
def NY (g:GS) (c table:Int):GS:=(g.lo 1 (table+c)).CL (.r 1)
def UR (g:GS) (c table:Int):Io:=(g.lo 1 (table+c)).EN (.r 1)
def Re (c:Nat) (g:GS):GS:=
 let skip:=g.UR c 8
 let g:=g.NY c 8
 let g:=g.Pw 2 (8+c)
 let g:=g.KJ 2
 let g:=g.II nOr 3 (.r 2) (.n 1)
 let g:=g.AP (.La 3 (.n (8+c)) 0 (.r 2) (.r 3))
 let g:=g.Kd 3
 let g:=g.st (26+c) (.n 1)
 let g:=g.st (32+c) (.r 2)
 g.Bd skip
def Rc (c:Nat) (g:GS):GS:=
 let skip:=g.UR c 20
 let g:=g.NY c 20
 let A5:=g.UR c 26
 let g:=g.NY c 26
 let Ak:=g.Wp
 let g:=g.CW
 let g:=g.Bd A5
 let g:=g.Pw 2 (8+c)
 let g:=g.KJ 2
 let g:=g.Bd Ak
 g.Bd skip
def Ze (c:Nat) (g:GS):GS:=
 let skip:=g.UR c 8
 let g:=g.NY c 8
 let g:=g.lo 2 (14+c)
 let g:=g.UP c (.r 2)
 g.Bd skip
def Rx (c:Nat) (g:GS):GS:=
 let skip:=g.UR c 8
 let g:=g.NY c 8
 let g:=g.UP (8+c) (.r 5)
 g.Bd skip
def OF (f:Nat->GS->GS):Nat->GS->GS
 |0,g=>g
 |n+1,g=>f n (OF f n g)
def Eh (g:GS):GS:=
 let n:=g.cells.toNat
 let g:=OF Re n g
 let g:=g.AP (.El 5 (.n 16) 0 (.n 1))
 let g:=g.II KO 5 (.r 5) (.n 1)
 let g:=g.II Vh 5 (.r 5) (.n 1)
 let g:=OF Rc n g
 let g:=OF Ze n g
 OF Rx n g
def GR (g:GS):GS:=
 let g:=g.AP (.Zv 1 (.n 0))
 let C4:=J g.Ab
 let g:=g.lo 2 39
 let g:=g.II dN 2 (.r 1) (.r 2)
 let done:=g.EN (.r 2)
 let g:=g.CL (.r 2)
 let g:=g.SL 2 40 1
 let g:=g.AP (.out (.r 2))
 let g:=g.II KO 1 (.r 1) (.n 1)
 let g:=g.AP (.GN C4)
 g.Bd done
def Pq (c:Nat) (g:GS):GS:=
 let g:=g.lo 1 (26+c)
 let skip:=g.EN (.r 1)
 let g:=g.CL (.r 1)
 let g:=g.lo 2 (32+c)
 let g:=g.UP (8+c) (.r 2)
 g.Bd skip
def Pl (i:Nat) (g:GS):GS:=(g.lo 1 (4+i)).st i (.r 1)
def GB (g:GS) (C4:Nat):GS:=
 let g:=OF Pq g.cells.toNat g
 let g:=OF Pl 4 g
 g.AP (.GN C4)
def Pj (i:Nat) (g:GS):GS:=(g.lo 1 i).st (4+i) (.r 1)
def Kr (c:Nat) (g:GS):GS:=((g.st (8+c) (.n 0)).st (20+c) (.n 0)).st (26+c) (.n 0)
end GS
def BV:Bj->Bool
 |.nil=>I
 |.put .. =>V
 |.Ew _ b r=>BV b || BV r
 |.loop _ b r=>BV b || BV r
 |.set _ _ _ _ r=>BV r
 |.get _ _ _ _ r=>BV r
 |.out _ r=>BV r
 |.atomic _ r=>BV r
namespace GS
def BU (g:GS):GS:=
 let g:=OF Pj 4 g
 g
def Us (g:GS):GS:=
 let g:=OF Kr g.cells.toNat g
 let g:=g.st 39 (.n 0)
 let g:=g.Pw 1 16
 let g:=g.st 38 (.r 1)
 {g with block:=V,BN:=[]}
def PG (g:GS) (C4:Nat) (BX:Bool):GS:=
 let g:={g with block:=I}
 let g:=if BX then g.Eh else g
 let g:=g.GR
 let done:=g.Wp
 let g:=g.CW
 let g:=g.BN.foldl Bd g
 let g:=g.GB C4
 g.Bd done
def Dg:Bj->GS->GS
 |.nil,g=>g
 |.set v op a b r,g=>
  let g1:=g.Cn a 1
  let g2:=if op.size=0 then g1.st v (BF a 1) else
   let g3:=g1.Cn b 2
   (g3.II op 1 (BF a 1) (BF b 2)).st v (.r 1)
  Dg r g2
 |.get v f s a r,g=>Dg r (((g.EP f s a).SR).st v (.r 1))
 |.put f s AN a r,g=>
  let g1:=g.EP f s AN
  let g2:=g1.Cn a 1
  Dg r ((g2.I8 14 0 (BF a 1)).I8 8 0 (.n 1))
 |.out a r,g=>
  let g1:=g.Cn a 1
  Dg r (if g.block then (((g1.lo 2 39).I8 40 2 (BF a 1)).II KO 2 (.r 2) (.n 1)).st 39 (.r 2) else g1.AP (.out (BF a 1)))
 |.Ew a b r,g=>
  let g1:=g.Cn a 1
  let skip:=g1.EN (BF a 1)
  Dg r ((Dg b (g1.CL (BF a 1))).Bd skip)
 |.loop n b r,g=>
  let k:=48+g.Ah
  let g1:=g.st k (.n n)
  let C4:=J g1.Ab
  let g2:=Dg b {g1 with Ah:=g1.Ah+1}
  let g3:={g2 with Ah:=g2.Ah-1}
  let g4:=((g3.lo 1 k).II KN 1 (.r 1) (.n 1)).st k (.r 1)
  let done:=g4.EN (.r 1)
  Dg r (((g4.CL (.r 1)).AP (.GN C4)).Bd done)
 |.atomic b r,g=>
  let g1:=g.BU
  Dg r ((Dg b g1.Us).PG (J g1.Ab) (BV b))
def start (k:Nat) (cells:Int):GS:=⟨[],32+64*k,cells,I,[],0⟩
end GS
def Gi (cells:Int) (k:Nat) (t:Bj):List GI:=((GS.Dg t (.start k cells)).AP .halt).Ab
def AR (b:By):ByteArray:=⟨b.toArray⟩
theorem Di (b:By):bs (AR b)=b:=by simp[bs,AR]
theorem Yb (s:ByteArray):AR (bs s)=s:=Pa (Di _)
theorem UI {p:List By} (h:l.map bs=p):l=p.map AR:=by
 subst h;rw[jS];have:(AR∘bs)=id:=funext Yb;rw[this,List.map_id]
def Bu (p:By):List ByteArray:=(AD 32 p).map AR
inductive KY where
 |atomic
 |Ew (a:At)
 |loop (n:Int)
structure Fr where
 kind:KY
 body:Bj
def KY.Cm:KY->Bool
 |.atomic=>V
 |_=>I
def Fr.done (f:Fr) (rest:Bj):Bj:=match f.kind with
 |.atomic=> .atomic f.body rest
 |.Ew a=> .Ew a f.body rest
 |.loop n=> .loop n f.body rest
structure nU where
 name:ByteArray
 first:Int
 size:Int
structure qL where
 cells:Int
 Aa:List Bj
 Ax:List nU
 AA:List ByteArray
 Ad:List Fr
 Ai:Int
def qL.Dq:qL:=⟨0,[],[],[],[],0⟩
structure Wd where
 name:ByteArray
 v:Int
def Wd.zero:Wd:=⟨⟨#[]⟩,0⟩
abbrev Ws:=List ByteArray
def dJ:Ws->Option (ByteArray×Ws)
 |[]=>Z
 |a::r=>if Ci (bs a) then U (a,r) else Z
def EV:Ws->Option (Wd×Ws)
 |[]=>Z
 |a::r=>if Ci (bs a) then U (⟨a,0⟩,r) else match number (bs a) with
  |some v=>U (⟨⟨#[]⟩,v⟩,r)
  |none=>Z
def Iq (Cd:Int) (l:Ws):Option (Int×Ws):=match EV l with
 |none=>Z
 |some (w,r)=>if w.name.size=0/\1<=w.v/\w.v<=Cd then U (w.v,r) else Z
def atF:Ws->Option (Wd×Ws)
 |[]=>U (.zero,[])
 |a::r=>if bs a=kAt then EV r else U (.zero,a::r)
def xh (a:ByteArray):Option ByteArray:=if 0<=Bg Dc a then U (wd B7 (Bg Dc a).toNat) else Z
inductive VP where
 |set (n:ByteArray) (a:Wd) (op:ByteArray) (b:Wd)
 |get (n s:ByteArray) (AN:Wd)
 |put (s:ByteArray) (a:Wd) (AN:Wd)
 |out (a:Wd)
 |atomic
 |Ew (a:Wd)
 |loop (n:Int)
def VP.Cm:VP->Bool
 |.get .. =>V
 |.put .. =>V
 |_=>I
def GP {α:Type} (x:α):Ws->Option α
 |[]=>U x
 |_::_=>Z
def Kk (r:Ws):Option VP:=match dJ r with
 |none=>Z
 |some (n,r)=>match EV r with
  |none=>Z
  |some (a,[])=>U (.set n a ⟨#[]⟩ .zero)
  |some (a,o::r)=>match xh o with
   |none=>Z
   |some op=>match EV r with
    |none=>Z
    |some (b,r)=>GP (.set n a op b) r
def Md (r:Ws):Option VP:=match dJ r with
 |none=>Z
 |some (n,r)=>match dJ r with
  |none=>Z
  |some (s,r)=>match atF r with
   |none=>Z
   |some (a,r)=>GP (.get n s a) r
def Mb (r:Ws):Option VP:=match dJ r with
 |none=>Z
 |some (s,r)=>match EV r with
  |none=>Z
  |some (a,r)=>match atF r with
   |none=>Z
   |some (i,r)=>GP (.put s a i) r
def Fq (f:Wd->VP) (r:Ws):Option VP:=match EV r with
 |none=>Z
 |some (a,r)=>GP (f a) r
def Lv (r:Ws):Option VP:=match Iq 4 r with
 |none=>Z
 |some (n,r)=>GP (.loop n) r
def IP (w:ByteArray) (r:Ws):Option VP:=
 if bs w=Fz then Kk r
 else if bs w=DR then Md r
 else if bs w=EF then Mb r
 else if bs w=IF then Fq .out r
 else if bs w=A8 then GP .atomic r
 else if bs w=UD then Fq .Ew r
 else if bs w=EZ then Lv r
 else Z
namespace qL
def EX (x:qL):Nat:=if x.Aa=[] then 0 else J x.Ad+1
def BC (x:qL):Bool:=x.Ad.any λf=>f.kind.Cm
def CC (x:qL) (w:Wd):Except Int At:=
 if w.name.size=0 then .ok ⟨I,w.v⟩ else if 0<=Bg x.AA w.name then .ok ⟨V,Bg x.AA w.name⟩ else .error 4
def WE (x:qL) (n:ByteArray):Option nU:=x.Ax.find? λs=>decide (bs s.name=bs n)
def Df (x:qL) (n:ByteArray):Except Int (Int×qL):=
 if (x.WE n).isSome then .error 4
 else if 0<=Bg x.AA n then .ok (Bg x.AA n,x)
 else if J x.AA=4 then .error 5
 else .ok (J x.AA,{x with AA:=x.AA++[n]})
def cell (x:qL) (n:ByteArray) (AN:Wd):Except Int (Int×Int×At):=match x.WE n with
 |none=> .error 4
 |some s=>match x.CC AN with
  |.error c=> .error c
  |.ok a=> .ok (s.first,s.size,a)
def add (x:qL) (s:Bj->Bj):qL:=
 match x.Ad.getLast? with
 |some f=>{x with Ad:=x.Ad.dropLast++[{f with body:=f.body.FY (s .nil)}]}
 |none=>match x.Aa.getLast? with
  |some t=>{x with Aa:=x.Aa.dropLast++[t.FY (s .nil)]}
  |none=>x
def DV (x:qL) (k:KY):qL:={x with Ad:=x.Ad++[⟨k,.nil⟩]}
def finish (x:qL):VP->Except Int qL
 |.set n a op b=>match x.CC a with
  |.error c=> .error c
  |.ok a=>match x.CC b with
   |.error c=> .error c
   |.ok b=>match x.Df n with
    |.error c=> .error c
    |.ok (v,x)=> .ok (x.add (.set v op a b))
 |.get n s AN=>match x.cell s AN with
  |.error c=> .error c
  |.ok (f,z,a)=>match x.Df n with
   |.error c=> .error c
   |.ok (v,x)=> .ok (x.add (.get v f z a))
 |.put s a AN=>match x.cell s AN with
  |.error c=> .error c
  |.ok (f,z,i)=>match x.CC a with
   |.error c=> .error c
   |.ok a=> .ok (x.add (.put f z i a))
 |.out a=>match x.CC a with
  |.error c=> .error c
  |.ok a=> .ok (x.add (.out a))
 |.atomic=> .ok (x.DV .atomic)
 |.Ew a=>match x.CC a with
  |.error c=> .error c
  |.ok a=> .ok (x.DV (.Ew a))
 |.loop n=> .ok (x.DV (.loop n))
def Bf (x:qL) (w:ByteArray) (r:Ws):Except Int qL:=match IP w r with
 |none=> .error 2
 |some s=>if x.Aa=[]\/(s.Cm=V/\x.BC=I)\/(bs w=A8/\x.BC=V) then .error 3
  else match x.finish s with
   |.error c=> .error c
   |.ok y=>if 14<y.Ai+1\/4<y.EX then .error 5 else .ok {y with Ai:=y.Ai+1}
def Ec (x:qL) (r:Ws):Except Int qL:=match dJ r with
 |none=> .error 2
 |some (n,r)=>match (match r with|[]=>U (1,[])|a::r=>Iq 6 (a::r)) with
  |none=> .error 2
  |some (_,_::_)=> .error 2
  |some (size,[])=>if x.Aa≠[] then .error 3 else if (x.WE n).isSome then .error 4
   else .ok {x with Ax:=x.Ax++[⟨n,x.cells,size⟩],cells:=x.cells+size}
def row (x:qL):Ws->Except Int qL
 |[]=> .error 2
 |w::r=>
  if bs w=AQ then x.Ec r
  else if bs w=AE then
   if r≠[] then .error 2 else if x.Ad≠[] then .error 3
   else .ok {x with Aa:=x.Aa++[.nil],AA:=[],Ai:=0,Ad:=[]}
  else if bs w=EM then
   if r≠[] then .error 2 else match x.Ad.getLast? with
    |none=> .error 3
    |some f=> .ok ({x with Ad:=x.Ad.dropLast}.add f.done)
  else x.Bf w r
end qL
def As:Bj->Int->Option (Int×Int)
 |.nil,_=>U (0,0)
 |.set _ _ _ _ r,n=>As r n
 |.get _ _ _ _ r,n=>As r n
 |.put _ _ _ _ r,n=>As r n
 |.out _ r,n=>match As r n with|none=>Z|some (b,o)=>U (b,n+o)
 |.Ew _ b r,n=>match As b n with
  |none=>Z
  |some (b1,o1)=>match As r n with|none=>Z|some (b2,o2)=>U (b1+b2,o1+o2)
 |.loop k b r,n=>match As b (n*k) with
  |none=>Z
  |some (b1,o1)=>match As r n with|none=>Z|some (b2,o2)=>U (b1+b2,o1+o2)
 |.atomic b r,n=>match As b 1 with
  |none=>Z
  |some (_,e)=>if 8<e then Z else match As r n with|none=>Z|some (b2,o2)=>U (n+b2,o2)
def Ei (x:qL):Bool:=decide (x.cells<=6) && (decide (J x.Aa<=3) && x.Aa.all λt=>match As t 1 with|none=>I|some (b,_)=>decide (b<=3))
def IT (n:Nat) (x:qL):Except (Int×Nat) qL:=
 if x.Ad≠[]\/x.Aa=[] then .error (3,n+1) else if Ei x then .ok x else .error (5,0)
def IS:List By->Nat->qL->Except (Int×Nat) qL
 |[],n,x=>IT n x
 |[p],n,x=>if p=[]/\0<n then IT n x else .error (2,n+1)
 |p::q::r,n,x=>match x.row (Bu p) with
  |.error c=> .error (c,n+1)
  |.ok y=>IS (q::r) (n+1) y
def Fs (s:By):Except (Int×Nat) qL:=if 2000<J s then .error (1,0) else IS (AD 10 s) 0 .Dq
structure Nd where
 kind:Nat
 v:Int
 op:ByteArray
 a:At
 b:At
 AN:At
 first:Int
 size:Int
 CN:Int
 n:Int
 Ah:Int
def Nd.of (k:Nat):Nd:=⟨k,0,⟨#[]⟩,.zero,.zero,.zero,0,0,0,0,0⟩
structure RP where
 Aa:List (List Nd)
 cells:Int
 Ap:List (List Bool)
 BX:List Bool
structure RS where
 p:RP
 Ax:List ByteArray
 first:List Int
 size:List Int
 AA:List ByteArray
 Ad:List Nat
 Ai:Int
def RS.Dq:RS:=⟨⟨[],0,[],[]⟩,[],[],[],[],[],0⟩
namespace RS
def CF (r:RS):List Nd:=(r.p.Aa.getLast?).getD []
def BB (r:RS) (l:List Nd):RS:={r with p:={r.p with Aa:=r.p.Aa.dropLast++[l]}}
def CC (r:RS) (s:ByteArray):At×Bool:=match number (bs s) with
 |some v=>(⟨I,v⟩,V)
 |none=>(⟨V,Bg r.AA s⟩,decide (0<=Bg r.AA s))
def GQ (r:RS) (c:Int):RS:={r with p:={r.p with Ap:=r.p.Ap.dropLast++[((r.p.Ap.getLast?).getD []).set c.toNat V]}}
def F6 (r:RS):RS:={r with p:={r.p with BX:=r.p.BX.dropLast++[V]}}
def cell (r:RS) (x:Nd) (s:ByteArray) (w:Ws):RS×Nd×Bool:=
 let k:=Bg r.Ax s
 if k<0 then (r,x,I) else
  let x:={x with first:=r.first.getD k.toNat 0,size:=r.size.getD k.toNat 0}
  let r:=r.GQ x.first
  if J w=5 then
   let (a,ok):=r.CC (wd w 4)
   (r,{x with AN:=a},ok)
  else (r,x,V)
def MQ (r:RS) (x:Nd) (s:ByteArray):Except Int (RS×Nd):=
 if 0<=Bg r.Ax s then .error 4
 else if 0<=Bg r.AA s then .ok (r,{x with v:=Bg r.AA s})
 else if J r.AA=4 then .error 5
 else .ok ({r with AA:=r.AA++[s]},{x with v:=J r.AA})
def node (r:RS) (w:Ws):Except Int (RS×Nd):=
 let w0:=bs (wd w 0)
 if w0=Fz then
  let (a,ok):=r.CC (wd w 2)
  let x:={Nd.of 115 with a:=a}
  let (x,ok):=if J w=5 then
    let (b,too):=r.CC (wd w 4)
    ({x with op:=wd B7 (Bg Dc (wd w 3)).toNat,b:=b},ok && too)
   else (x,ok)
  if ok then r.MQ x (wd w 1) else .error 4
 else if w0=DR then
  let (r,x,ok):=r.cell (.of 103) (wd w 2) w
  if ok then r.MQ x (wd w 1) else .error 4
 else if w0=EF then
  let (r,x,ok):=r.cell (.of 112) (wd w 1) w
  let (a,fine):=r.CC (wd w 2)
  if ok && fine then .ok (r.F6,{x with a:=a}) else .error 4
 else if w0=IF then
  let (a,fine):=r.CC (wd w 1)
  if fine then .ok (r,{Nd.of 111 with a:=a}) else .error 4
 else if w0=UD then
  let (a,fine):=r.CC (wd w 1)
  if fine then .ok (r,{Nd.of 122 with a:=a}) else .error 4
 else if w0=EZ then .ok (r,{Nd.of 108 with n:=(number (bs (wd w 1))).getD 0})
 else if w0=A8 then .ok (r,.of 40)
 else .ok (r,.of 0)
def Ec (r:RS) (w:Ws):Except Int RS:=
 if r.p.Aa≠[] then .error 3 else if 0<=Bg r.Ax (wd w 1) then .error 4
 else
  let n:=if 2<J w then (number (bs (wd w 2))).getD 0 else 1
  .ok {r with Ax:=r.Ax++[wd w 1],first:=r.first++[r.p.cells],size:=r.size++[n],p:={r.p with cells:=r.p.cells+n}}
def PD (r:RS):Except Int RS:=match r.Ad.getLast? with
 |none=> .error 3
 |some AN=>
  let l:=r.CF
  let k:=(l.getD AN (.of 0)).kind
  let l:=if k=40 then l++[.of 41] else if k=108 then l++[{Nd.of 98 with CN:=AN+1,Ah:=(l.getD AN (.of 0)).Ah}] else l
  .ok ({r with Ad:=r.Ad.dropLast}.BB (l.set AN {l.getD AN (.of 0) with CN:=J l}))
def BC (r:RS):Bool:=r.Ad.any λk=>(r.CF.getD k (.of 0)).kind==40
def row (r:RS) (w:Ws):Except Int RS:=
 let w0:=bs (wd w 0)
 if w0=AQ then r.Ec w
 else if w0=AE then
  if r.Ad≠[] then .error 3
  else .ok {r with p:={r.p with Aa:=r.p.Aa++[[]],Ap:=r.p.Ap++[List.replicate r.p.cells.toNat I],BX:=r.p.BX++[I]},AA:=[],Ai:=0}
 else if w0=EM then r.PD
 else if r.p.Aa=[]\/(r.BC=I/\(w0=DR\/w0=EF))\/(r.BC=V/\w0=A8) then .error 3
 else match r.node w with
  |.error c=> .error c
  |.ok (r,x)=>
   if 14<r.Ai+1 then .error 5
   else if x.kind=122\/x.kind=108\/x.kind=40 then
    if J r.Ad=3 then .error 5
    else .ok ({r with Ai:=r.Ai+1,Ad:=r.Ad++[J r.CF]}.BB (r.CF++[{x with Ah:=J r.Ad}]))
   else .ok ({r with Ai:=r.Ai+1}.BB (r.CF++[x]))
end RS
structure Ez where
 blocks:Int
 Al:Int
 Cd:Int
 CV:List Int
 BY:List Int
 Fh:Bool
def Ez.Dq:Ez:=⟨0,0,0,[1],[1],I⟩
def Ez.step (c:Ez) (x:Nd):Ez:=
 let o:=(c.CV.getLast?).getD 0
 let i:=(c.BY.getLast?).getD 0
 if x.kind=108 then {c with CV:=c.CV++[o*x.n],BY:=c.BY++[if c.Fh then i*x.n else 1]}
 else if x.kind=98 then {c with CV:=c.CV.dropLast,BY:=c.BY.dropLast}
 else if x.kind=40 then {c with blocks:=c.blocks+o,Al:=0,Fh:=V,BY:=c.BY.dropLast++[1]}
 else if x.kind=41 then {c with Fh:=I}
 else if x.kind=111 then (if c.Fh then {c with Al:=c.Al+i,Cd:=if c.Cd<c.Al+i then c.Al+i else c.Cd} else c)
 else c
def Ik (l:List Nd):Int×Int:=let c:=l.foldl Ez.step .Dq;(c.blocks,c.Cd)
def KB (n:Nat) (r:RS):Except (Int×Nat) RP:=
 if r.Ad≠[]\/r.p.Aa=[] then .error (3,n+1)
 else if (r.p.Aa.any λt=>decide (3<(Ik t).1) || decide (8<(Ik t).2)) || (decide (6<r.p.cells) || decide (3<J r.p.Aa)) then .error (5,0)
 else .ok r.p
def NA:List By->Nat->RS->Except (Int×Nat) RP
 |[],n,r=>KB n r
 |[p],n,r=>if p=[]/\0<n then KB n r else .error (2,n+1)
 |p::q::l,n,r=>if Bv (Bu p) then match r.row (Bu p) with
   |.error c=> .error (c,n+1)
   |.ok r=>NA (q::l) (n+1) r
  else .error (2,n+1)
def FP (s:By):Except (Int×Nat) RP:=if 2000<J s then .error (1,0) else NA (AD 10 s) 0 .Dq
structure Ps (R:RS) (n:Nat):Prop where
 bn:J R.Ax+J R.p.Aa<=n
 nn:n<=2500
 c0:0<=R.p.cells
 c1:R.p.cells<=6*J R.Ax
 fi:∀c,c∈R.first->0<=c/\c<R.p.cells
 tc:∀t,t∈R.p.Ap->(J t:Int)=R.p.cells
structure WX (R:RS):Prop where
 ne:R.Ad≠[]->R.p.Aa≠[]
 lt:∀k,k∈R.Ad->k<J R.CF
 ol:J R.Ad<=3
 nl:J R.CF<=100
def Dh:Bj->Nat
 |.nil=>0
 |.set _ _ _ _ r=>1+Dh r
 |.get _ _ _ _ r=>1+Dh r
 |.put _ _ _ _ r=>1+Dh r
 |.out _ r=>1+Dh r
 |.atomic b r=>1+Dh b+1+Dh r
 |.Ew _ b r=>1+Dh b+Dh r
 |.loop _ b r=>1+Dh b+1+Dh r
def Ca:Bj->Nat->Nat->List Nd
 |.nil,_,_=>[]
 |.set v op a b r,d,p=>{Nd.of 115 with v:=v,op:=op,a:=a,b:=b}::Ca r d (p+1)
 |.get v f s a r,d,p=>{Nd.of 103 with v:=v,first:=f,size:=s,AN:=a}::Ca r d (p+1)
 |.put f s i a r,d,p=>{Nd.of 112 with a:=a,first:=f,size:=s,AN:=i}::Ca r d (p+1)
 |.out a r,d,p=>{Nd.of 111 with a:=a}::Ca r d (p+1)
 |.atomic b r,d,p=>{Nd.of 40 with Ah:=d,CN:=(p+1+Dh b+1:Nat)}::(Ca b (d+1) (p+1)++Nd.of 41::Ca r d (p+1+Dh b+1))
 |.Ew a b r,d,p=>{Nd.of 122 with a:=a,Ah:=d,CN:=(p+1+Dh b:Nat)}::(Ca b (d+1) (p+1)++Ca r d (p+1+Dh b))
 |.loop n b r,d,p=>{Nd.of 108 with n:=n,Ah:=d,CN:=(p+1+Dh b+1:Nat)}::(Ca b (d+1) (p+1)++{Nd.of 98 with CN:=(p+1:Nat),Ah:=d}::Ca r d (p+1+Dh b+1))
theorem CX (s:Bj) (d p:Nat):(Ca s d p).length=Dh s:=by
 induction s generalizing d p<;>simp_all[Ca,Dh]<;>omega
theorem mZ (s t:Bj) (d p:Nat):Ca (s.FY t) d p=Ca s d p++Ca t d (p+Dh s):=by
 induction s generalizing p<;>grind [Bj.FY,Ca,Dh]
def DO (k:KY) (d:Nat):Nd:=match k with
 |.atomic=>{Nd.of 40 with Ah:=d}
 |.Ew a=>{Nd.of 122 with a:=a,Ah:=d}
 |.loop n=>{Nd.of 108 with n:=n,Ah:=d}
def GF:List Fr->Nat->Nat->List Nd
 |[],_,_=>[]
 |f::fs,d,p=>DO f.kind d::(Ca f.body (d+1) (p+1)++GF fs (d+1) (p+1+Dh f.body))
def Oc:List Fr->Nat
 |[]=>0
 |f::fs=>1+Dh f.body+Oc fs
def N7:List Fr->Nat->List Nat
 |[],_=>[]
 |f::fs,p=>p::N7 fs (p+1+Dh f.body)
theorem VD (fs:List Fr) (d p:Nat):(GF fs d p).length=Oc fs:=by
 induction fs generalizing d p<;>grind [GF,Oc,CX]
theorem AbP (fs gs:List Fr):Oc (fs++gs)=Oc fs+Oc gs:=by
 induction fs<;>grind [Oc]
theorem WB (fs gs:List Fr) (d p:Nat):GF (fs++gs) d p=GF fs d p++GF gs (d+J fs) (p+Oc fs):=by
 induction fs generalizing d p<;>grind [GF,Oc]
theorem Zh (fs gs:List Fr) (p:Nat):N7 (fs++gs) p=N7 fs p++N7 gs (p+Oc fs):=by
 induction fs generalizing p<;>grind [N7,Oc]
theorem lB (fs:List Fr) (p:Nat):(N7 fs p).length=J fs:=by
 induction fs generalizing p<;>grind [N7]
structure M6 (x:qL) (r:RS):Prop where
 cells:r.p.cells=x.cells
 dK:r.Ax=x.Ax.map nU.name
 first:r.first=x.Ax.map nU.first
 size:r.size=x.Ax.map nU.size
 AA:r.AA=x.AA
 Ai:r.Ai=x.Ai
 depth:J x.Ad<=3
 Aa:(x.Aa=[]/\x.Ad=[]/\r.p.Aa=[]/\r.Ad=[])\/
  ∃ts t,x.Aa=ts++[t]/\r.p.Aa=ts.map (Ca · 0 0)++[Ca t 0 0++GF x.Ad 0 (Dh t)]/\r.Ad=N7 x.Ad (Dh t)
theorem M6.Dq:M6 .Dq .Dq:=⟨rfl,rfl,rfl,rfl,rfl,rfl,Jo _,.inl ⟨rfl,rfl,rfl,rfl⟩⟩
theorem U5 (f:α->ByteArray) (l:List α) (n:ByteArray) (k:Nat):
  match l.find? (λs=>decide (bs (f s)=bs n)) with
  |none=>Ee (l.map f) n k= -1
  |some s=>∃i,l[i]?=U s/\Ee (l.map f) n k=((k+i:Nat):Int):=by
 induction l generalizing k with
 |nil=>simp[Ee]
 |cons a r ih=>
  simp only[d8,Jt,Ee];by_cases h:bs (f a)=bs n
  .simp only[h,decide_true,Jd];exact⟨0,rfl,rfl⟩
  .simp only[h,decide_false,J7];have:=ih (k+1);generalize List.find? (λs=>decide (bs (f s)=bs n)) r=q at this⊢;cases q with
   |none=>exact this
   |some s=>
    obtain⟨i,h1,h2⟩:=this;exact⟨i+1,AC,AC⟩
theorem WD {x:qL} {n:ByteArray} (h:x.WE n=Z):Bg (x.Ax.map nU.name) n= -1:=by
 have:=U5 nU.name x.Ax n 0;unfold qL.WE at h;rw[h] at this;exact this
theorem WC {x:qL} {n:ByteArray} {s:nU} (h:x.WE n=U s):∃i:Nat,x.Ax[i]?=U s/\Bg (x.Ax.map nU.name) n=i:=by
 have:=U5 nU.name x.Ax n 0;grind [qL.WE,Bg]
