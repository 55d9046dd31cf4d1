/- Part 23 of the proof. -/
import Derived.Test.YtpdfifdlhpmofaaGreatDoorA21
import Derived.Test.YtpdfifdlhpmofaaGreatDoorA08
set_option linter.unusedVariables false
set_option linter.unusedSimpArgs false
set_option maxHeartbeats 0
set_option maxRecDepth 99999
namespace Go.Proofs.YtpdfifdlhpmofaaGreatDoor
open Go.RowKit Tryz
open Value renaming slice->qD,string->qE,bool->qF,tuple->qG,agg->qH,pointer->qI
open Ending renaming returned->qJ
open Obj renaming cells->qK
open Option renaming none->Z,some->U
open Bool renaming true->V,false->I
open Go.Lib renaming hid->D
open List renaming length->J
variable {p:Prop}
theorem naa (h:p:=by
 have HS:=D (show({T with An:=9},MM)=res by rw[<-Hres.out,Jd hp]);rcases Int.lt_or_le p 0 with gT|gT
 .go_wp2
  go_end0
  exact⟨rfl,c2,by rw[<-HS.out];exact S.trans ((VG.EB S.Ak 9).trans (VG.Ir (VG.EB S.Ak 9).Ak)),by rw[<-HS.out];exact HO.EB 9⟩
 .have On:¬p<0:=Y
  have Fe:256<=p:=Y
  clear hp gT;go_wp2
  go_end0
  exact⟨rfl,c2,by rw[<-HS.out];exact S.trans ((VG.EB S.Ak 9).trans (VG.Ir (VG.EB S.Ak 9).Ak)),by rw[<-HS.out];exact HO.EB 9⟩):p:=h
theorem nab (h:p:=by
 have HS:=D (show({t with An:=9},mem)=res by rw[<-Hres.out];unfold Tq;dsimp only;rw[Jd hp]);rcases Int.lt_or_le p 0 with gT|gT
 .go_wp2
  go_end0
  exact⟨rfl,g.w,by rw[<-HS.out];exact H.trans (VG.EB H.Ak 9),by rw[<-HS.out];exact Ho.EB 9⟩
 .have On:¬p<0:=Y
  have Fe:256<=p:=Y
  clear hp gT;go_wp2
  go_end0
  exact⟨rfl,g.w,by rw[<-HS.out];exact H.trans (VG.EB H.Ak 9),by rw[<-HS.out];exact Ho.EB 9⟩):p:=h
theorem nac (h:p:=by
 go_wp2;go_ret2;rw[Hk.out];exact⟨rfl,rfl⟩):p:=h
theorem nan (h:p:=by
 go_enter func42,ntmps42;go_wp2_with fail;refine Hd.mono ?_;rintro e w1 ⟨rfl,rfl⟩;go_wp2;go_ret2;exact⟨rfl,rfl⟩):p:=h
theorem nao (h:p:=by
 have Hk:=D hk;clear hk
 skip
 skip
 unfold dN at*;go_enter func42,ntmps42;go_wp2;go_ret2;rw[Hk.out];exact⟨rfl,rfl⟩):p:=h
theorem nax (h:p:=by
 go_enter func18,ntmps18;go_wp2;go_ret;rw[<-hq.out];exact⟨rfl,rfl⟩):p:=h
variable {i mb g6 AI n N:Nat} {t:C2} {mem:List Int} {ps:List Value} {w6 w':World} {Ab:Nat->List GI} {xs:List TV} {mv tv:Value}
theorem aN (x y:Int):bits .and .i64 x y=Lh (· &&& ·) x y:=by
 show IntKind.i64.wrap ((BitVec.ofInt 64 x &&& BitVec.ofInt 64 y).toNat:Int)=wrap64 ((BitVec.ofInt 64 x &&& BitVec.ofInt 64 y).toNat:Int);exact IntWalk.i64_left _
theorem Agb (x y:Int):bits .or .i64 x y=Lh (· ||| ·) x y:=by
 show IntKind.i64.wrap ((BitVec.ofInt 64 x ||| BitVec.ofInt 64 y).toNat:Int)=wrap64 ((BitVec.ofInt 64 x ||| BitVec.ofInt 64 y).toNat:Int);exact IntWalk.i64_left _
theorem AdK (x y:Int):bits .xor .i64 x y=Lh (· ^^^ ·) x y:=by
 show IntKind.i64.wrap ((BitVec.ofInt 64 x ^^^ BitVec.ofInt 64 y).toNat:Int)=wrap64 ((BitVec.ofInt 64 x ^^^ BitVec.ofInt 64 y).toNat:Int);exact IntWalk.i64_left _
theorem AdW (b:Int):∃n:Nat,Lh (· &&& ·) b 63=n/\n<=63:=by
 refine⟨(BitVec.ofInt 64 b &&& BitVec.ofInt 64 63).toNat,?_,?_⟩
 .have h:(BitVec.ofInt 64 b &&& BitVec.ofInt 64 63).toNat<=63:=by rw[BitVec.toNat_and];exact Nat.and_le_right
  show wrap64 ((BitVec.ofInt 64 b &&& BitVec.ofInt 64 63).toNat:Int)=_;grind [ER]
 grind [Nat.and_le_right]
theorem Xf (a b:Int) (up:Bool) (w:World):Calls prog 65 #[iI a,iI b,qF up] w λe w'=>e= qJ (iI (if up then bI (Lh (· &&& ·) b 63).toNat a else YX (Lh (· &&& ·) b 63).toNat a))/\w'=w:=by
 obtain⟨n,hn,Aof⟩:=AdW b;rw[hn,show((n:Int)).toNat=n from rfl];have hb:=(aN b 63).trans hn;generalize AF:(if up=V then bI n a else YX n a)=res;have Hb:=D hb;clear hb hn;have Hres:=D AF;clear AF;go_enter func65,ntmps65;go_wp2;rw[Hb.out];clear Hb
 go_loop [0,8,9] (λx i _=>∃(k:Nat) (v:Int),k<=n/\i= iI k/\x= iI v/\(if up=V then bI (n-k) v else YX (n-k) v)=res) (λ_ i _=>n-(intOf i).toNat)
 grind [Hres.out];case round=>
  obtain⟨k,v,hk,rfl,rfl,hr⟩:=hrel;by_cases hlt:k<n
  .have Cy:k<(n:Int):=Y
   cases up with
   |true=>
    have Hr:=D (show bI (n-(k+1)) (wrap64 (v+v))=res by rw[<-hr,Jd rfl,show n-k=(n-(k+1))+1 by omega];rfl);clear hr;go_wp2;grind [Hr.out,intOf]
   |false=>
    have Hr:=D (show YX (n-(k+1)) (wrap64 ((wrap64 (v-Lh (· &&& ·) v 1)).tdiv 2))=res by rw[<-hr,In Do,show n-k=(n-(k+1))+1 by omega];rfl);clear hr;go_wp2
    go_round
    grind [aN,Hr.out];grind [intOf]
  .have Cy:¬k<(n:Int):=Y
   have Hr:=D (show v=res by rw[<-hr,show n-k=0 by omega];cases up<;>rfl);clear hr;go_wp2;go_ret;exact⟨gn Hr,rfl⟩
def Zl (op:ByteArray) (a b:Int):Value:= qG #[iI ((BP op a b).getD 0),qF (BP op a b).isSome]
theorem Xz (op:ByteArray) (h:op=T0\/op=Zu) (a b:Int) (w:World):Calls prog 64 #[qE op,iI a,iI b] w λe w'=>e= qJ (Zl op a b)/\w'=w:=by
 have key:∀v,BP op a b=v->Zl op a b= qG #[iI (v.getD 0),qF v.isSome]:=λv h=>by unfold Zl;rw[h]
 have h0:BP op a b=if b=0 then Z else if b= -1 then U (if op=T0 then wrap64 (-a) else 0) else U (if op=T0 then wrap64 (a.tdiv b) else a.tmod b):=by
  unfold BP;rcases h with rfl|rfl<;>(rw[In (by decide+kernel),In (by decide+kernel),In (by decide+kernel),Jd AC])
 by_cases hb:b=0
 .subst hb;have Hk:=D (key Z (by rw[h0,Jd rfl]));clear h0 key h;go_enter func64,ntmps64;exact nac
 have uL:(b==0)=I:=AC
 by_cases h1:b= -1
 .subst h1;clear hb uL;rcases h with rfl|rfl
  .have Hk:=D (key (U (wrap64 (-a))) (by rw[h0,In Do,Jd rfl,Jd rfl]));clear h0 key;unfold T0 at*;go_enter func64,ntmps64;exact nac
  .have Hk:=D (key (U 0) (by rw[h0,In Do,Jd rfl,In (by decide+kernel)]));clear h0 key;unfold Zu at*;go_enter func64,ntmps64;exact nac
 have h1':(b== -1)=I:=AC
 rcases h with rfl|rfl
 .have Hk:=D (key (U (wrap64 (a.tdiv b))) (by rw[h0,In hb,In h1,Jd rfl]));clear h0 key;unfold T0 at*;go_enter func64,ntmps64;exact nac
 .have Hk:=D (key (U (a.tmod b)) (by rw[h0,In hb,In h1,In (by decide+kernel)]));clear h0 key;unfold Zu at*;go_enter func64,ntmps64;exact nac
theorem Ga {op:ByteArray} {a b x:Int} (h:BP op a b=U x):Zl op a b= qG #[iI x,qF V]:=by unfold Zl;rw[h,Qq,QQ]
theorem rm (a b:Int):BP Vh a b=U (bI (Lh (· &&& ·) b 63).toNat a):=by unfold BP;rw[In (by decide+kernel),In (by decide+kernel),In (by decide+kernel),In (by decide+kernel),In (by decide+kernel),In (by decide+kernel),In (by decide+kernel),Jd rfl]
theorem rk (a b:Int):BP Zs a b=U (YX (Lh (· &&& ·) b 63).toNat a):=by unfold BP;rw[In (by decide+kernel),In (by decide+kernel),In (by decide+kernel),In (by decide+kernel),In (by decide+kernel),In (by decide+kernel),In (by decide+kernel),In (by decide+kernel),Jd rfl]
theorem rn (a b:Int):BP xt a b=U (wrap64 (a*b)):=by unfold BP;rw[In (by decide+kernel),In (by decide+kernel),Jd rfl]
theorem rj (a b:Int):BP xr a b=U (Lh (· ^^^ ·) a b):=by unfold BP;rw[In (by decide+kernel),In (by decide+kernel),In (by decide+kernel),In (by decide+kernel),In (by decide+kernel),In (by decide+kernel),Jd rfl]
theorem xW (a b:Int) (w:World):Calls prog 42 #[qE KO,iI a,iI b] w λe w'=>e= qJ (Zl KO a b)/\w'=w:=by
 have Hk:=D (Ga (Of a b));unfold KO at*;go_enter func42,ntmps42;exact nac
theorem xO (a b:Int) (w:World):Calls prog 42 #[qE KN,iI a,iI b] w λe w'=>e= qJ (Zl KN a b)/\w'=w:=by
 have Hk:=D (Ga (dS a b));unfold KN at*;go_enter func42,ntmps42;exact nac
theorem xS (a b:Int) (w:World):Calls prog 42 #[qE xt,iI a,iI b] w λe w'=>e= qJ (Zl xt a b)/\w'=w:=by
 have Hk:=D (Ga (rn a b));unfold xt at*;go_enter func42,ntmps42;exact nac
theorem xU (a b:Int) (w:World):Calls prog 42 #[qE T0,iI a,iI b] w λe w'=>e= qJ (Zl T0 a b)/\w'=w:=by
 have Hd:=D (Xz T0 EQ a b w);unfold Zl at*;generalize (BP T0 a b).getD 0=x at*;generalize (BP T0 a b).isSome=y at*;unfold T0 at*;exact nan
theorem xT (a b:Int) (w:World):Calls prog 42 #[qE Zu,iI a,iI b] w λe w'=>e= qJ (Zl Zu a b)/\w'=w:=by
 have Hd:=D (Xz Zu EQ a b w);unfold Zl at*;generalize (BP Zu a b).getD 0=x at*;generalize (BP Zu a b).isSome=y at*;unfold Zu at*;exact nan
theorem xV (a b:Int) (w:World):Calls prog 42 #[qE bO,iI a,iI b] w λe w'=>e= qJ (Zl bO a b)/\w'=w:=by
 have Hk:=D (Ga (Wj a b));unfold bO at*;go_enter func42,ntmps42;go_wp2;go_ret2;rw[Hk.out,<-aN];exact⟨rfl,rfl⟩
theorem Ab6 (a b:Int) (w:World):Calls prog 42 #[qE nOr,iI a,iI b] w λe w'=>e= qJ (Zl nOr a b)/\w'=w:=by
 have Hk:=D (Ga (lV a b));unfold nOr at*;go_enter func42,ntmps42;go_wp2;go_ret2;rw[Hk.out,<-Agb];exact⟨rfl,rfl⟩
theorem xM (a b:Int) (w:World):Calls prog 42 #[qE xr,iI a,iI b] w λe w'=>e= qJ (Zl xr a b)/\w'=w:=by
 have Hk:=D (Ga (rj a b));unfold xr at*;go_enter func42,ntmps42;go_wp2;go_ret2;rw[Hk.out,<-AdK];exact⟨rfl,rfl⟩
theorem xQ (a b:Int) (w:World):Calls prog 42 #[qE Vh,iI a,iI b] w λe w'=>e= qJ (Zl Vh a b)/\w'=w:=by
 have Hk:=D (Ga (rm a b));have Hd:=D (Xf a b V w);unfold Vh at*;go_enter func42,ntmps42;go_wp2_with fail;refine Hd.mono ?_;rintro e w1 ⟨rfl,rfl⟩;exact nac
theorem xP (a b:Int) (w:World):Calls prog 42 #[qE Zs,iI a,iI b] w λe w'=>e= qJ (Zl Zs a b)/\w'=w:=by
 have Hk:=D (Ga (rk a b));have Hd:=D (Xf a b I w);unfold Zs at*;go_enter func42,ntmps42;go_wp2_with fail;refine Hd.mono ?_;rintro e w1 ⟨rfl,rfl⟩;exact nac
theorem Ab7 (a b:Int) (w:World):Calls prog 42 #[qE dN,iI a,iI b] w λe w'=>e= qJ (Zl dN a b)/\w'=w:=by
 have hk:=Ga (Rb a b);by_cases hc:a<b
 .rw[Jd hc] at hk;exact nao
 .rw[In hc] at hk;exact nao
theorem Ab8 (a b:Int) (w:World):Calls prog 42 #[qE dO,iI a,iI b] w λe w'=>e= qJ (Zl dO a b)/\w'=w:=by
 have hk:=Ga (Oe a b);by_cases hc:a=b
 .rw[Jd hc] at hk;have Hk:=D hk;clear hk;have hc':(a==b)=V:=AC
  clear hc;unfold dO at*;go_enter func42,ntmps42;exact nac
 .rw[In hc] at hk;have Hk:=D hk;clear hk;have hc':(a==b)=I:=AC
  clear hc;unfold dO at*;go_enter func42,ntmps42;exact nac
theorem lU (op:ByteArray) (h:op∈B7) (a b:Int) (w:World):Calls prog 42 #[qE op,iI a,iI b] w λe w'=>e= qJ (Zl op a b)/\w'=w:=by
 have h':op∈[KO,KN,xt,T0,Zu,bO,nOr,xr,Vh,Zs,dN,dO]:=h;simp only[Jl,Qr,or_false] at h';rcases h' with rfl|rfl|rfl|rfl|rfl|rfl|rfl|rfl|rfl|rfl|rfl|rfl
 .exact xW a b w
 .exact xO a b w
 .exact xS a b w
 .exact xU a b w
 .exact xT a b w
 .exact xV a b w
 .exact Ab6 a b w
 .exact xM a b w
 .exact xQ a b w
 .exact xP a b w
 .exact Ab7 a b w
 .exact Ab8 a b w
structure VG where
 tb:Nat
 c:SG
 r:SG
 w:SG
 o:SG
 mb:Nat
 m:SG
 t:SG
def VG.PQ (g:VG) (t:C2):List Ob:=
 [.Ao g.tb #[qD g.c.p (J t.Ab) g.c.c,iI t.pc,qD g.r.p (J t.Dx) g.r.c,qD g.w.p (J t.waits) g.w.c,qD g.o.p (J t.out) g.o.c,iI t.An] 68,
  .row (qD g.c.p (J t.Ab) g.c.c) 101 9 (J t.Ab) (GA t.Ab),.row (qD g.r.p (J t.Dx) g.r.c) 2 1 (J t.Dx) (BZ t.Dx),
  .row (qD g.w.p (J t.waits) g.w.c) 83 2 (J t.waits) (CD t.waits),.row (qD g.o.p (J t.out) g.o.c) 2 1 (J t.out) (BZ t.out)]
def VG.Mj (g:VG) (mem:List Int) (ps:List Value):List Ob:=
 [.Ao g.mb #[qD g.m.p (J mem) g.m.c,qD g.t.p (J ps) g.t.c] 34,.row (qD g.m.p (J mem) g.m.c) 2 1 (J mem) (BZ mem),.row (qD g.t.p (J ps) g.t.c) 69 1 (J ps) ps]
def VG.Az (g:VG) (t:C2) (mem:List Int) (ps:List Value) (E:List Ob):List Ob:=g.PQ t++(g.Mj mem ps++E)
structure Pd (g:VG) (t:C2) (mem:List Int) (ps:List Value) (k:Nat):Prop where
 ml:J mem=256
 rl:J t.Dx=8
 wl:J t.waits<=4
 wa:∀p,p∈t.waits->0<=p.1/\p.1<256
 pk:ps[k]?=U (iJ g.tb)
 pl:J ps<=3
theorem YJ (v:SV) (hv:v.Dd=V->0<=v.v/\v.v<8) (w:World) (tb rb rc:Nat) (c0 c1 c3 c4 c5:Value) (Dx:List Int) (hb:Ch w tb #[c0,c1,qD (U ⟨rb,0,Z⟩) 8 rc,c3,c4,c5] 68) (hr:∀i,(hi:i<8)->w.cell? ⟨rb,i,Z⟩=U (iI (Dx.getD i 0))):
  Calls prog 40 #[iJ tb,v.val] w λe w'=>e= qJ (iI (if v.Dd then Dx.getD v.v.toNat 0 else v.v))/\Aw [] w w':=by
 obtain⟨rg,n⟩:=v;cases rg with
 |true=>
  obtain⟨h0,h8⟩:=hv rfl;have Z7:0<=n:=h0;have h8':n<8:=h8;obtain⟨i,rfl⟩:∃i:Nat,n=i:=⟨n.toNat,Y⟩;have hi:i<8:=Y
  have hc:=hr i hi;have VZ:=hb.cell 2;have hlt:=hb.lt;have Hr:=D hr;clear hb hv h0 h8 hr;unfold SV.val;go_enter func40,ntmps40;go_wp2;have ha:(w.alloc (qK #[qF V,Value.int IntKind.i64 ↑i] 99)).cell? ⟨w.heap.size,1,Z⟩=U (iI i):=(Ch.new w _ _).cell 1;have Anb:(w.alloc (qK #[qF V,Value.int IntKind.i64 ↑i] 99)).cell? ⟨tb,2,Z⟩=U (qD (U ⟨rb,0,Z⟩) 8 rc):=AH ((Aw.refl [] w).alloc _) AC;have hc':(w.alloc (qK #[qF V,Value.int IntKind.i64 ↑i] 99)).cell? ⟨rb,i,Z⟩=U (iI (Dx.getD i 0)):=AH ((Aw.refl [] w).alloc _) hc;refine AU (l:=sq [] 0 8) (λW=>W.cell? ⟨w.heap.size,1,Z⟩=U (iI i)/\W.cell? ⟨tb,2,Z⟩=U (qD (U ⟨rb,0,Z⟩) 8 rc)/\W.cell? ⟨rb,i,Z⟩=U (iI (Dx.getD i 0))) 8 ⟨ha,Anb,hc'⟩ ?_;refine FC ?_;refine Bb rfl (λK hK=>?_);go_simp;refine hK _ _ AC ?_;clear hK;simp only[Ct];go_wp2;go_ret;exact⟨rfl,((Aw.refl _ _).alloc _).drew⟩
 |false=>
  clear hv hr;unfold SV.val;go_enter func40,ntmps40;go_wp2;go_ret;exact⟨rfl,(Aw.refl _ _).alloc _⟩
structure Ajk (w:World) (g:VG) (t:C2) (mem:List Int) (ps:List Value) (k tsb mmb rb:Nat):Prop where
 et:g.t.p=U ⟨tsb,0,Z⟩
 em:g.m.p=U ⟨mmb,0,Z⟩
 er:g.r.p=U ⟨rb,0,Z⟩
 m0:w.cell? ⟨g.mb,0,Z⟩=U (qD (U ⟨mmb,0,Z⟩) 256 g.m.c)
 m1:w.cell? ⟨g.mb,1,Z⟩=U (qD (U ⟨tsb,0,Z⟩) (J ps) g.t.c)
 tk:w.cell? ⟨tsb,k,Z⟩=U (iJ g.tb)
 b:Ch w g.tb #[qD g.c.p (J t.Ab) g.c.c,iI t.pc,qD (U ⟨rb,0,Z⟩) 8 g.r.c,qD g.w.p (J t.waits) g.w.c,qD g.o.p (J t.out) g.o.c,iI t.An] 68
 rg:∀i,i<8->w.cell? ⟨rb,i,Z⟩=U (iI (t.Dx.getD i 0))
 mm:∀i,i<256->w.cell? ⟨mmb,i,Z⟩=U (iI (mem.getD i 0))
 kl:k<J ps
theorem kF {l:List Int} (h:i<J l) (h':i<(BZ l).length):(BZ l)[i]= iI (l.getD i 0):=by
 rw[Ja,Jb h];simp[BZ]
theorem B5 {w:World} {g:VG} {E:List Ob} {k:Nat} (h:Aq w (g.Az t mem ps E)) (ho:Pd g t mem ps k):∃tsb mmb rb,Ajk w g t mem ps k tsb mmb rb:=by
 have Lo:=(Jm.1 ho.pk).1;obtain⟨tsb,tc,et,_,_,_,_,htc,_⟩:=Av (h.row (i:=7) rfl) Y;obtain⟨mmb,mc,em,_,_,_,_,hmc,_⟩:=Av (h.row (i:=6) rfl) (by rw[ho.ml];decide);obtain⟨rb,rc,er,_,_,_,_,hrc,_⟩:=Av (h.row (i:=2) rfl) (by rw[ho.rl];decide);have hm:=h.Ao (i:=5) rfl;have hb:=h.Ao (i:=0) rfl;have e1:g.t.p=U ⟨tsb,0,Z⟩:=AC
 have e2:g.m.p=U ⟨mmb,0,Z⟩:=AC
 have e3:g.r.p=U ⟨rb,0,Z⟩:=AC
 rw[e1,e2,ho.ml] at hm;rw[e3,ho.rl] at hb;refine⟨tsb,mmb,rb,e1,e2,e3,hm.cell 0,hm.cell 1,?_,hb,λi hi=>?_,λi hi=>?_,Lo⟩<;>grind [BZ,Pd]
theorem kD (w:World) (g:VG) (t:C2) (mem:List Int) (ps:List Value) (E:List Ob) (k:Nat) (h:Aq w (g.Az t mem ps E)) (ho:Pd g t mem ps k):
  Calls prog 45 #[iJ g.mb,iI k] w λe w'=>e= qJ (iI (J t.waits))/\w'=w:=by
 obtain⟨tsb,mmb,rb,hc⟩:=B5 h ho;have Dk:=hc.m1;have eu:=hc.tk;have XQ:=hc.b.cell 3;have Lo:=hc.kl;have Uf:(0:Int)<=(k:Int):=Y
 have GZ:(k:Int)<(J ps:Int):=Y
 clear hc h ho;go_enter func45,ntmps45;go_wp2;go_ret;exact⟨rfl,rfl⟩
theorem Aef {l:List (Int×Int)} (h:i<J l):(CD l)[i*2]?=U (iI (l.getD i (0,0)).1)/\(CD l)[i*2+1]?=U (iI (l.getD i (0,0)).2):=by
 induction l generalizing i with
 |nil=>simp at h
 |cons p r ih=>
  cases i with
  |zero=>exact⟨rfl,rfl⟩
  |succ i=>
   have:=ih (by simpa using h:i<J r);rw[show(i+1)*2=i*2+1+1 by omega];exact this
theorem Kz (l:List (Int×Int)):(CD l).length=J l*2:=by
 induction l<;>grind [CD]
theorem Aed (l:List (Int×Int)) (v a:Int) {k:Nat} (h:k<J l):Am.wv (l.take (k+1)) v a=if (l.getD k (0,0)).1=a then (l.getD k (0,0)).2 else Am.wv (l.take k) v a:=by
 rw[JN h,fJ,Ja,Jb h];rfl
theorem U1 (w:World) (g:VG) (t:C2) (mem:List Int) (ps:List Value) (E:List Ob) (k:Nat) (h:Aq w (g.Az t mem ps E)) (ho:Pd g t mem ps k) (a:Nat) (ha:a<256):
  Calls prog 63 #[iJ g.mb,iI k,iI a] w λe w'=>e= qJ (iI (Am.wv t.waits (mem.getD a 0) a))/\w'=w:=by
 obtain⟨tsb,mmb,rb,hc⟩:=B5 h ho;have ZY:=hc.m0;have Dk:=hc.m1;have eu:=hc.tk;have XQ:=hc.b.cell 3;have Lo:=hc.kl;have hma:=hc.mm a ha;have hwl:=ho.wl;have hw:=D (h.row (i:=3) rfl);have Uf:(0:Int)<=(k:Int):=Y
 have GZ:(k:Int)<(J ps:Int):=Y
 have Mp:(0:Int)<=(a:Int):=Y
 have ha1:(a:Int)<(256:Int):=Y
 clear hc h ho;generalize hm:mem.getD a 0=mv at*;go_enter func63,ntmps63;go_wp2
 go_loop [7,8] (λv i=>∃n:Nat,n<=J t.waits/\i= iI n/\v= iI (Am.wv (t.waits.take n) mv a)) (λ_ i=>J t.waits-(intOf i).toNat)
 case atStart=>exact⟨0,AC,rfl,rfl⟩
 case round=>
  obtain⟨n,hn,rfl,rfl⟩:=hrel;by_cases hlt:n<J t.waits
  .obtain⟨wb,wc,ew,_,_,_,_,hwc,_⟩:=Av hw Y;have e1:g.w.p=U ⟨wb,0,Z⟩:=AC
   rw[e1] at XQ;obtain⟨q1,q2⟩:=Aef hlt;have Pm:=Kz t.waits;have r1:w.cell? ⟨wb,n*2,Z⟩=U (iI (t.waits.getD n (0,0)).1):=by rw[hwc (n*2) Y,<-Jb];exact q1
   have r2:w.cell? ⟨wb,n*2+1,Z⟩=U (iI (t.waits.getD n (0,0)).2):=by rw[hwc (n*2+1) Y,<-Jb];exact q2
   have Cy:(n:Int)<(J t.waits:Int):=Y
   have IL:(0:Int)<=(n:Int):=Y
   have HT:=D (Aed t.waits mv a hlt);clear q1 q2 hwc Pm ew e1;generalize (t.waits.getD n (0,0)).1=p1 at*;generalize (t.waits.getD n (0,0)).2=p2 at*;by_cases he:p1=(a:Int)
   .have BG:(p1==(a:Int))=V:=AC
    have HE:=D he;clear he;go_wp2;grind [HT.out,intOf]
   .have BG:(p1==(a:Int))=I:=AC
    have HE:=D he;clear he;go_wp2;grind [HT.out,intOf]
  .have Cy:¬(n:Int)<(J t.waits:Int):=Y
   have HT:=D (show t.waits.take n=t.waits by rw[JV];omega);go_wp2;go_ret;rw[HT.out];exact⟨rfl,rfl⟩
def au (t:C2):C2:={t with waits:=t.waits.tail}
def hY (t:C2) (mem:List Int):List Int:=match t.waits with
 |[]=>mem
 |p::_=>mem.set p.1.toNat p.2
def Ajg (g:VG) (t:C2) (mem:List Int) (ps:List Value) (E:List Ob) (w:World) (e:Ending) (w':World):Prop:=e= qJ (qG #[])/\∃c:SG,Af w (g.Az t mem ps E) w' (VG.Az {g with w:=c} (au t) (hY t mem) ps E)
theorem Adg {w w1 w2:World} {tb mc wb wc2 mmb a:Nat} {sc sr so st:SG} {E:List Ob} {pv:Int} {r:List (Int×Int)} (hw:t.waits=((a:Int),pv)::r) (ha:a<J mem) (c:SG)
  (S:Af w ((VG.mk tb sc sr ⟨U ⟨wb,0,Z⟩,wc2⟩ so mb ⟨U ⟨mmb,0,Z⟩,mc⟩ st).Az t mem ps E) w1 (((VG.mk tb sc sr ⟨U ⟨wb,0,Z⟩,wc2⟩ so mb ⟨U ⟨mmb,0,Z⟩,mc⟩ st).Az t mem ps E).set 6 (.row (qD (U ⟨mmb,0,Z⟩) (J mem) mc) 2 1 (J mem) ((BZ mem).set a (iI pv)))))
  (k:Aw [wb] w1 w2) (Co:w2.ownsRow 0 83 2 (qD c.p (J r) c.c) (J r) (CD r)) (hf:∀b,b∈(qD c.p (J r) c.c).ownBlock.toList->w1.heap.size<=b):
  Af w ((VG.mk tb sc sr ⟨U ⟨wb,0,Z⟩,wc2⟩ so mb ⟨U ⟨mmb,0,Z⟩,mc⟩ st).Az t mem ps E) (w2.setCell ⟨tb,3,Z⟩ (qD c.p (J r) c.c)) ((VG.mk tb sc sr c so mb ⟨U ⟨mmb,0,Z⟩,mc⟩ st).Az (au t) (hY t mem) ps E):=by
 have s1:=S.Ak.swap (i:=3) (o:=.row (qD (U ⟨wb,0,Z⟩) (J t.waits) wc2) 83 2 (J t.waits) (CD t.waits)) (o':=.row (qD c.p (J r) c.c) 83 2 (J r) (CD r)) rfl k Co (by
   show((qD c.p (J r) c.c).ownBlock.toList).Nodup;cases (qD c.p (J r) c.c).ownBlock<;>simp) λb hb=> .inr (hf b hb)
 have s2:=s1.Ak.set (i:=0) (b:=tb) (c:= #[qD sc.p (J t.Ab) sc.c,iI t.pc,qD sr.p (J t.Dx) sr.c,qD (U ⟨wb,0,Z⟩) (J t.waits) wc2,qD so.p (J t.out) so.c,iI t.An]) (T:=68) rfl 3 (qD c.p (J r) c.c);have s3:=S.trans (s1.trans s2);have e1:au t={t with waits:=r}:=by grind [au]
 have e2:hY t mem=mem.set a pv:=by unfold hY;rw[hw];rfl
 have e3:BZ (mem.set a pv)=(BZ mem).set a (iI pv):=by unfold BZ;rw[Qx]
 have e4:(mem.set a pv).length=J mem:=AC;have e5:(VG.mk tb sc sr c so mb ⟨U ⟨mmb,0,Z⟩,mc⟩ st).Az {t with waits:=r} (mem.set a pv) ps E=(((((VG.mk tb sc sr ⟨U ⟨wb,0,Z⟩,wc2⟩ so mb ⟨U ⟨mmb,0,Z⟩,mc⟩ st).Az t mem ps E).set 6 (.row (qD (U ⟨mmb,0,Z⟩) (J mem) mc) 2 1 (J mem) ((BZ mem).set a (iI pv)))).set 3 (.row (qD c.p (J r) c.c) 83 2 (J r) (CD r))).set 0 (.Ao tb (#[qD sc.p (J t.Ab) sc.c,iI t.pc,qD sr.p (J t.Dx) sr.c,qD (U ⟨wb,0,Z⟩) (J t.waits) wc2,qD so.p (J t.out) so.c,iI t.An].setIfInBounds 3 (qD c.p (J r) c.c)) 68)):=by
  unfold VG.Az VG.PQ VG.Mj<;>grind
 rw[e1,e2,e5];exact s3
theorem Wr:(prog.info? 83).map (λi=>(i.zero,i.size,i.bytes))=U (U (qH #[iI 0,iI 0]),2,16):=Fd
theorem Wz (w:World) (g:VG) (t:C2) (mem:List Int) (ps:List Value) (E:List Ob) (k:Nat) (h:Aq w (g.Az t mem ps E)) (ho:Pd g t mem ps k):
  Calls prog 21 #[iJ g.mb,iI k] w (Ajg g t mem ps E w):=by
 obtain⟨tsb,mmb,rb,hc⟩:=B5 h ho;have ZY:=hc.m0;have Dk:=hc.m1;have eu:=hc.tk;have XQ:=hc.b.cell 3;have Lo:=hc.kl;have Uf:(0:Int)<=(k:Int):=Y
 have GZ:(k:Int)<(J ps:Int):=Y
 have MU:¬(k:Int)<0:=Y
 cases hw:t.waits with
 |nil=>
  rw[hw] at XQ;have H:=D h;have e1:au t=t:=by unfold au;rw[hw];cases t;simp at hw;subst hw;rfl
  have e2:hY t mem=mem:=by unfold hY;rw[hw]
  have E1:=D e1;have E2:=D e2;clear hc h ho e1 e2 hw;go_enter func21,ntmps21;go_wp2
  go_end0
  exact⟨rfl,g.w,by rw[E1.out,E2.out];exact Af.refl H⟩
 |cons p r=>
  obtain⟨gT,On⟩:=ho.wa p (by rw[hw];grind);obtain⟨wb,wc,ew,_,_,_,_,hwc,_⟩:=Av (h.row (i:=3) rfl) (by rw[hw];simp);obtain⟨tb,sc,sr,⟨wp,wc2⟩,so,mb,⟨mp,mc⟩,st⟩:=g;have e1:wp=U ⟨wb,0,Z⟩:=by injection ew
  have e2:=hc.em;subst e1 e2;dsimp only at ZY Dk eu XQ;obtain⟨pa,pv⟩:=p;obtain⟨a,rfl⟩:∃a:Nat,pa=a:=⟨pa.toNat,Y⟩;have ha:a<256:=Y
  have Pm:=Kz t.waits;have r1:w.cell? ⟨wb,0,Z⟩=U (iI a):=by rw[hwc 0 (by rw[Pm,hw,Jg];omega),<-Jb,hw];rfl
  have r2:w.cell? ⟨wb,1,Z⟩=U (iI pv):=by rw[hwc 1 (by rw[Pm,hw,Jg];omega),<-Jb,hw];rfl
  have hml:=ho.ml;have FQ:J r<=3:=by have:=ho.wl;rw[hw] at this;simp only[Jg] at this;omega
  have hma:=hc.mm a ha;have hmf:=(AZ (h.row (i:=6) rfl)).2.1 a;have S1:=D (h.Eu (i:=6) (g:=mmb) (n:=J mem) (cap:=mc) (e:=2) (size:=1) (xs:=BZ mem) rfl a (by simp[BZ];omega) (iI pv));have Fi:J t.waits=J r+1:=by rw[hw];rfl
  rw[Fi] at XQ;have Hw:=D hw;have Hml:=D hml;clear hw hwc Pm hml hc h ho Fi gT On ew;have rV:¬J ps<=k:=Y
  have hr1:((J r:Int)+1==0)=I:=by simp;omega
  have a0:(0:Int)<=(a:Int):=Y
  have a1:(a:Int)<(256:Int):=Y
  go_enter func21,ntmps21;go_upto_region 2 with fail
  refine AU (l:=sq [] 0 19) (λW=>W.cell? ⟨mb,0,Z⟩=U (qD (U ⟨mmb,0,Z⟩) 256 mc)/\W.cell? ⟨tb,3,Z⟩=U (qD (U ⟨wb,0,Z⟩) (J r+1) wc2)/\W.cell? ⟨wb,0,Z⟩=U (iI a)/\W.cell? ⟨wb,1,Z⟩=U (iI pv)) 19 ⟨ZY,XQ,r1,r2⟩ ?_;refine FC ?_;refine Bb rfl (λK hK=>?_);go_simp;refine hK _ _ (λh=>Jk h Do) ?_;clear hK;simp only[Ct];have s:=S1.trans (Af.drew S1.Ak);generalize (w.setCell ⟨mmb,a,Z⟩ (Value.int IntKind.i64 pv)).drew=w1 at s⊢;have S:=D s;have b3:=(s.Ak.Ao (i:=0) rfl).cell 3;have bf:=(s.Ak.Ao (i:=0) rfl).free 3;have hrw:=s.Ak.row (i:=3) rfl;rw[Hw.out] at b3 hrw;have HR:=D hrw;obtain⟨Fi,No,Ln⟩:=AZ hrw;have mN:J r+1<=wc2/\wc2<=maxLen:=by
   obtain⟨p',c',e',h1,h2⟩:=UW hrw;cases e';exact⟨h1,h2⟩
  unfold maxLen at mN;obtain⟨AnW,AgU⟩:=mN;clear s S1 hma ZY Dk eu XQ r1 r2 hmf hrw;by_cases hr:r=[]
  .subst hr;go_wp2;all_goals
    go_end0
    exact⟨rfl,⟨Z,0⟩,Adg Hw (by rw[Hml.out];exact ha) ⟨Z,0⟩ S (Aw.refl _ _) (ownsRow_nil _ _ _ _) (λb hb=>by cases hb)⟩
  .have hr0:=JI.2 hr;have AnZ:¬wc2=1:=Y
   obtain⟨i0,hi,Kc⟩:=Ji.1 Wr;simp only[Prod.mk.injEq] at Kc;obtain⟨I6,K6,LQ⟩:=Kc;have Pm:=Kz r;have AgQ:∀(j:Nat) (u:Value),(CD r)[j]?=U u->w1.cell? ⟨wb,2+j,Z⟩=U u:=λj u hj=>by
    have hjl:=(Jm.1 hj).1;have iZ:=Kz (((a:Int),pv)::r);rw[Jg] at iZ;rw[Fi (2+j) Y,<-Jb];grind [CD]
   have Aim:∀(u:Value),u∈CD r->u.oneCell'=V:=λu hu=>by
    obtain⟨p,_,hp⟩:=JX.1 hu;simp only[Jl,Qr,or_false] at hp;rcases hp with rfl|rfl<;>rfl
   have AcV:∀w2,w1.grownBy w2 Z->w2.cell? ⟨tb,3,Z⟩=U (qD (U ⟨wb,0,Z⟩) (J r+1) wc2):=λw2 hg=>AH (Aw.grown (Aw.refl [] w1) hg AC) b3
   clear hr Fi;go_wp2_with (at_builtin;go_loud (refine wpList_append_lies _ rfl _ _ _ rfl 0 83 i0 _ 2 16 underlying66 hi I6 K6 LQ rfl Y _ 0 [] rfl (ownsRow_nil _ _ _ _) ⟨wb,2,Z⟩ (J r) (wc2-1) (CD r) ?_ Pm ?_ ?_ hr0 (by unfold maxLen;omega) Y AC w1.heap.size rfl ?_))
   .exact AgQ
   grind
   .intro g cap w2 Co hgr FU hlt;have hg:=FU.resolve_left (λh=>by cases h);subst hg;have K2:=D (Aw.grown (Aw.refl [wb] w1) hgr (λk hk=>by cases hk));have HO:=D Co;have b4:=AcV w2 hgr;have b5:=((S.Ak.Ao (i:=0) rfl).mod (Aw.grown (Aw.refl [] w1) hgr (λk hk=>by cases hk)) EQ).free 3;clear AgQ Aim Co hgr FU hi I6 K6 LQ Pm AcV b3;go_wp2
    go_end0
    exact⟨rfl,⟨U ⟨w1.heap.size,0,Z⟩,cap⟩,Adg Hw (by rw[Hml.out];exact ha) ⟨U ⟨w1.heap.size,0,Z⟩,cap⟩ S K2 HO (λb hb=>by grind [Value.ownBlock])⟩
theorem Pd.fl {g:VG} {k:Nat} (h:Pd g t mem ps k) (c:SG):Pd {g with w:=c} (au t) (hY t mem) ps k:=by
 obtain⟨h1,h2,h3,h4,h5,h6⟩:=h;refine⟨?_,h2,?_,λp hp=>h4 p (List.mem_of_mem_tail hp),h5,h6⟩;grind [hY]
 .show J t.waits.tail<=4;rw[QM];omega
def aD:Nat->C2×List Int->C2×List Int
 |0,s=>s
 |n+1,s=>aD n (au s.1,hY s.1 s.2)
def Acf (w:World) (tb:Nat):Nat:=match w.cell? ⟨tb,3,Z⟩ with
 |some (.slice _ n _)=>n
 |_=>0
theorem ma {w:World} {g:VG} {E:List Ob} (h:Aq w (g.Az t mem ps E)):Acf w g.tb=J t.waits:=by
 grind [Acf,(h.Ao (i:=0) rfl).cell 3]
theorem eT (w:World) (g:VG) (t:C2) (mem:List Int) (ps:List Value) (E:List Ob) (k:Nat) (h:Aq w (g.Az t mem ps E)) (ho:Pd g t mem ps k):
  Calls prog 26 #[iJ g.mb,iI k] w (λe w'=>e= qJ (qG #[])/\∃c:SG,Af w (g.Az t mem ps E) w' (VG.Az {g with w:=c} (aD (J t.waits) (t,mem)).1 (aD (J t.waits) (t,mem)).2 ps E)/\Pd {g with w:=c} (aD (J t.waits) (t,mem)).1 (aD (J t.waits) (t,mem)).2 ps k):=by
 generalize AF:aD (J t.waits) (t,mem)=res;have H:=D h;have Ho:=D ho;have Hres:=D AF;clear h ho AF;go_enter func26,ntmps26;go_wp2;go_loopw [] (λwr=>∃(c:SG) (t':C2) (mem':List Int),Af w (g.Az t mem ps E) wr (VG.Az {g with w:=c} t' mem' ps E)/\Pd {g with w:=c} t' mem' ps k/\aD (J t'.waits) (t',mem')=res) (λwr=>Acf wr g.tb);case atStart=>exact⟨g.w,t,mem,Af.refl H,Ho,Hres⟩
 case round=>
  obtain⟨c,t',mem',hs,ho,hr⟩:=hrel;obtain⟨tsb,mmb,rb,hc⟩:=B5 hs.Ak ho;have Dk:=hc.m1;have eu:=hc.tk;have XQ:=hc.b.cell 3;have Lo:=hc.kl;have Uf:(0:Int)<=(k:Int):=Y
  have GZ:(k:Int)<(J ps:Int):=Y
  have HS:=D hs;have HO:=D ho;clear hc hs ho;by_cases h0:J t'.waits=0
  .rw[h0] at XQ;rw[h0] at hr;have Hr:=D hr;clear hr h0;go_wp2
   go_end0
   exact⟨rfl,c,by rw[<-Hr.out];exact HS.out,by rw[<-Hr.out];exact HO.out⟩
  .have hgt:(0:Int)<(J t'.waits:Int):=Y
   obtain⟨m,hm⟩:∃m,J t'.waits=m+1:=⟨J t'.waits-1,Y⟩;have Lz:aD (au t').waits.length (au t',hY t' mem')=res:=by
    rw[<-hr,hm];show aD (List.length t'.waits.tail) _=_;rw[QM,hm];rfl
   have Hr:=D Lz;have Hm:=D hm;have Hf:=D (Wz wr {g with w:=c} t' mem' ps E k HS.Ak HO);clear hr h0 hm Lz;go_wp2_with fail;refine Hf.mono ?_;rintro e w2 ⟨rfl,c2,K8⟩;have tw:=D K8;clear K8;go_wp2;go_roundw;case rel=>exact⟨c2,au t',hY t' mem',HS.trans tw,HO.fl c2,Hr⟩
   case measure=>
    rw[ma (g:={g with w:=c2}) tw.out.Ak,ma (g:={g with w:=c}) HS.out.Ak];show J t'.waits.tail<_;rw[QM,Hm.out];omega
section
variable {w:World} {g:VG} {t:C2} {mem:List Int} {ps:List Value} {E:List Ob} {k:Nat}
theorem VG.DA (h:Aq w (g.Az t mem ps E)) {rb:Nat} (er:g.r.p=U ⟨rb,0,Z⟩) {d:Nat} (hd:d<J t.Dx) (v:Int):Af w (g.Az t mem ps E) (w.setCell ⟨rb,d,Z⟩ (iI v)) (g.Az (t.DA d v) mem ps E):=by
 obtain⟨tb,sc,⟨rp,rc⟩,sw,so,mb,sm,st⟩:=g;dsimp only at er;subst er;have s:=h.Eu (i:=2) (g:=rb) (n:=J t.Dx) (cap:=rc) (e:=2) (size:=1) (xs:=BZ t.Dx) rfl d (by simpa[BZ] using hd) (iI v);have e1:BZ (t.Dx.set d v)=(BZ t.Dx).set d (iI v):=by unfold BZ;rw[Qx]
 have e2:(t.Dx.set d v).length=J t.Dx:=AC;have e3:(VG.mk tb sc ⟨U ⟨rb,0,Z⟩,rc⟩ sw so mb sm st).Az (t.DA d v) mem ps E=((VG.mk tb sc ⟨U ⟨rb,0,Z⟩,rc⟩ sw so mb sm st).Az t mem ps E).set 2 (.row (qD (U ⟨rb,0,Z⟩) (J t.Dx) rc) 2 1 (J t.Dx) ((BZ t.Dx).set d (iI v))):=by
  grind [VG.Az,VG.PQ,C2.DA]
 rw[e3];exact s
theorem VG.EB (h:Aq w (g.Az t mem ps E)) (s:Int):Af w (g.Az t mem ps E) (w.setCell ⟨g.tb,5,Z⟩ (iI s)) (g.Az {t with An:=s} mem ps E):=
 h.set (i:=0) (b:=g.tb) (T:=68) rfl 5 (iI s)
theorem VG.CU (h:Aq w (g.Az t mem ps E)) (n:Nat):Af w (g.Az t mem ps E) (w.setCell ⟨g.tb,1,Z⟩ (iI n)) (g.Az {t with pc:=n} mem ps E):=
 h.set (i:=0) (b:=g.tb) (T:=68) rfl 1 (iI n)
theorem VG.Aa2 (h:Aq w (g.Az t mem ps E)) {mmb:Nat} (em:g.m.p=U ⟨mmb,0,Z⟩) {a:Nat} (ha:a<J mem) (v:Int):Af w (g.Az t mem ps E) (w.setCell ⟨mmb,a,Z⟩ (iI v)) (g.Az t (mem.set a v) ps E):=by
 obtain⟨tb,sc,sr,sw,so,mb,⟨mp,mc⟩,st⟩:=g;dsimp only at em;subst em;have s:=h.Eu (i:=6) (g:=mmb) (n:=J mem) (cap:=mc) (e:=2) (size:=1) (xs:=BZ mem) rfl a (by simpa[BZ] using ha) (iI v);have e1:BZ (mem.set a v)=(BZ mem).set a (iI v):=by unfold BZ;rw[Qx]
 have e2:(mem.set a v).length=J mem:=AC;have e3:(VG.mk tb sc sr sw so mb ⟨U ⟨mmb,0,Z⟩,mc⟩ st).Az t (mem.set a v) ps E=((VG.mk tb sc sr sw so mb ⟨U ⟨mmb,0,Z⟩,mc⟩ st).Az t mem ps E).set 6 (.row (qD (U ⟨mmb,0,Z⟩) (J mem) mc) 2 1 (J mem) ((BZ mem).set a (iI v))):=by
  unfold VG.Az VG.PQ VG.Mj<;>grind
 rw[e3];exact s
theorem Pd.DA (h:Pd g t mem ps k) (d v:Int):Pd g (t.DA d v) mem ps k:=⟨h.1,by show(t.Dx.set _ _).length=8;rw[Jp];exact h.2,h.3,h.4,h.5,h.6⟩
theorem Pd.EB (h:Pd g t mem ps k) (s:Int):Pd g {t with An:=s} mem ps k:=⟨h.1,h.2,h.3,h.4,h.5,h.6⟩
theorem Pd.CU (h:Pd g t mem ps k) (s:Nat):Pd g {t with pc:=s} mem ps k:=⟨h.1,h.2,h.3,h.4,h.5,h.6⟩
theorem Pd.Aa2 (h:Pd g t mem ps k) (a:Nat) (v:Int):Pd g t (mem.set a v) ps k:=⟨by rw[Jp];exact h.1,h.2,h.3,h.4,h.5,h.6⟩
theorem St (h:Aq w (g.Az t mem ps E)) {rb:Nat} (er:g.r.p=U ⟨rb,0,Z⟩) (i:Nat):w.frozen? ⟨rb,i,Z⟩=I:=by
 have:=h.row (i:=2) rfl;rw[er] at this;grind [AZ this]
theorem mV (h:Aq w (g.Az t mem ps E)) {mmb:Nat} (em:g.m.p=U ⟨mmb,0,Z⟩) (i:Nat):w.frozen? ⟨mmb,i,Z⟩=I:=by
 have:=h.row (i:=6) rfl;rw[em] at this;grind [AZ this]
end
def Tq:GI->Int->Int->C2×List Int->C2×List Int
 |.load d _ _,p,_,s=>if p<0\/256<=p then ({s.1 with An:=9},s.2) else (s.1.DA d (Am.wv s.1.waits (s.2.getD p.toNat 0) p),s.2)
 |.store _ _ _,p,q,s=>if p<0\/256<=p then ({s.1 with An:=9},s.2) else
  let s:=if J s.1.waits=4 then (au s.1,hY s.1 s.2) else s
  ({s.1 with waits:=s.1.waits++[(p,q)]},s.2)
 |.La d _ _ _ c,p,q,s=>
  let z:=aD (J s.1.waits) s
  if p<0\/256<=p then ({z.1 with An:=9},z.2) else
   if Am.wv z.1.waits (z.2.getD p.toNat 0) p=q then (z.1.DA d 1,z.2.set p.toNat (z.1.ev c)) else (z.1.DA d 0,z.2)
 |.El d _ _ _,p,q,s=>
  let z:=aD (J s.1.waits) s
  if p<0\/256<=p then ({z.1 with An:=9},z.2) else
   (z.1.DA d (Am.wv z.1.waits (z.2.getD p.toNat 0) p),z.2.set p.toNat (wrap64 (Am.wv z.1.waits (z.2.getD p.toNat 0) p+q)))
 |_,_,_,s=>s
def Agm (g:VG) (t:C2) (mem:List Int) (s:C2×List Int) (ps:List Value) (E:List Ob) (k:Nat) (w:World) (e:Ending) (w':World):Prop:=e= qJ (qG #[])/\∃c:SG,Af w (g.Az t mem ps E) w' (VG.Az {g with w:=c} s.1 s.2 ps E)/\Pd {g with w:=c} s.1 s.2 ps k
theorem Ab5 (w:World) (g:VG) (t:C2) (mem:List Int) (ps:List Value) (E:List Ob) (k:Nat) (h:Aq w (g.Az t mem ps E)) (ho:Pd g t mem ps k) (d:Nat) (hd:d<8) (a:Ag) (j p q:Int):
  Calls prog 41 #[iJ g.mb,iI k,(GI.load d a j).DM.val,iI p,iI q] w (Agm g t mem (Tq (.load d a j) p q (t,mem)) ps E k w):=by
 generalize AF:Tq (.load d a j) p q (t,mem)=res;have Hres:=D AF;have s0:=Af.alloc h (qK (GI.load d a j).DM.cells 101);have bx:=Ch.new w (GI.load d a j).DM.cells 101;have Ho:=D ho;unfold GI.DM Bi.of at*;unfold Bi.val Bi.cells at*;dsimp only at*;clear AF;go_enter func41,ntmps41;go_upto_region 1 with fail
 generalize Fu:w.heap.size=b0 at*;generalize w.alloc _=w1 at*;obtain⟨tsb,mmb,rb,hc⟩:=B5 s0.Ak ho;have Dk:=hc.m1;have eu:=hc.tk;have Lo:=hc.kl;have Uf:(0:Int)<=(k:Int):=Y
 have GZ:(k:Int)<(J ps:Int):=Y
 have hx0:=bx.cell 0;have hx1:=bx.cell 1;have H:=D s0;have HC:=D hc;have HR:=D (hc.rg d hd);have VZ:=hc.b.cell 2;have yE:=hc.b.cell 5;have uJ:=hc.b.free 5;have oy:(0:Int)<=(d:Int):=Y
 have eD:(d:Int)<8:=Y
 have hrf:=St s0.Ak hc.er d;clear s0 hc ho bx h Fu;by_cases hp:p<0\/256<=p
 .exact nab
 .obtain⟨n,rfl⟩:∃n:Nat,p=n:=⟨p.toNat,Y⟩;have hn:n<256:=Y
  have On:¬(n:Int)<0:=Y
  have Fe:¬(256:Int)<=n:=Y
  have vA:=D (U1 w1 g t mem ps E k H.Ak Ho n hn);have HS:=D (show(t.DA d (Am.wv t.waits (mem.getD n 0) n),mem)=res by rw[<-Hres.out];grind [Tq]);have FQ:=D Ho.rl;clear hp;go_wp2_with fail;refine vA.mono ?_;rintro e w2 ⟨rfl,rfl⟩;generalize Am.wv t.waits (mem.getD n 0) n=v at*;go_upto_region 10 with fail
  refine AU (l:=sq [] 0 8) (λW=>W.cell? ⟨g.tb,2,Z⟩=U (qD (U ⟨rb,0,Z⟩) 8 g.r.c)/\W.cell? ⟨b0,1,Z⟩=U (iI d)) 8 ⟨VZ,hx1⟩ ?_;refine FC ?_;refine Bb rfl (λK hK=>?_);have hr0:=HR.out;go_simp;refine hK _ _ AC ?_;clear hK;simp only[Ct];go_wp2
  go_end0
  exact⟨rfl,g.w,by rw[<-HS.out];exact H.trans ((VG.DA H.Ak HC.er (by rw[FQ.out];exact hd) v).trans (Af.drew (VG.DA H.Ak HC.er (by rw[FQ.out];exact hd) v).Ak)),by rw[<-HS.out];exact Ho.DA d v⟩
theorem YD (l:List (Int×Int)) (p q:Int):CD (l++[(p,q)])=CD l++(#[Value.int .i64 p,iI q]:Array Value).toList:=by
 grind [CD]
theorem Aam {w:World} {g:VG} {E:List Ob} {p q:Int} (S:Af w (g.Az t mem ps E) w6 ((g.Az t mem ps E).set 3 (.row (qD (U ⟨g6,0,Z⟩) (J t.waits+1) AI) 83 2 (J t.waits+1) (CD t.waits++(#[Value.int .i64 p,iI q]:Array Value).toList)))):
  Af w (g.Az t mem ps E) (w6.setCell ⟨g.tb,3,Z⟩ (qD (U ⟨g6,0,Z⟩) (J t.waits+1) AI)) (VG.Az {g with w:=⟨U ⟨g6,0,Z⟩,AI⟩} {t with waits:=t.waits++[(p,q)]} mem ps E):=by
 have s:=S.trans (S.Ak.set (i:=0) (b:=g.tb) (T:=68) rfl 3 (qD (U ⟨g6,0,Z⟩) (J t.waits+1) AI));have e:VG.Az {g with w:=⟨U ⟨g6,0,Z⟩,AI⟩} {t with waits:=t.waits++[(p,q)]} mem ps E=(((g.Az t mem ps E).set 3 (.row (qD (U ⟨g6,0,Z⟩) (J t.waits+1) AI) 83 2 (J t.waits+1) (CD t.waits++(#[Value.int .i64 p,iI q]:Array Value).toList))).set 0 (.Ao g.tb (#[qD g.c.p (J t.Ab) g.c.c,iI t.pc,qD g.r.p (J t.Dx) g.r.c,qD g.w.p (J t.waits) g.w.c,qD g.o.p (J t.out) g.o.c,iI t.An].setIfInBounds 3 (qD (U ⟨g6,0,Z⟩) (J t.waits+1) AI)) 68)):=by
  grind [VG.Az,VG.PQ,VG.Mj,YD]
 rw[e];exact s
theorem Pd.push {g:VG} {k:Nat} (h:Pd g t mem ps k) (hw:J t.waits<=3) {n:Nat} (hn:n<256) (q:Int) (c:SG):Pd {g with w:=c} {t with waits:=t.waits++[((n:Int),q)]} mem ps k:=
 ⟨h.1,h.2,AC,λx hx=>by
   grind [Pd],h.5,h.6⟩
theorem xJ (w:World) (g:VG) (t:C2) (mem:List Int) (ps:List Value) (E:List Ob) (k:Nat) (h:Aq w (g.Az t mem ps E)) (ho:Pd g t mem ps k) (a b:Ag) (j:Int) (p q:Int):
  Calls prog 41 #[iJ g.mb,iI k,(GI.store a j b).DM.val,iI p,iI q] w (Agm g t mem (Tq (GI.store a j b) p q (t,mem)) ps E k w):=by
 generalize AF:Tq (GI.store a j b) p q (t,mem)=res;have Hres:=D AF;have s0:=Af.alloc h (qK (GI.store a j b).DM.cells 101);have bx:=Ch.new w (GI.store a j b).DM.cells 101;have Ho:=D ho;unfold GI.DM Bi.of at*;unfold Bi.val Bi.cells at*;dsimp only at*;clear AF;go_enter func41,ntmps41;go_upto_region 1 with fail
 generalize Fu:w.heap.size=b0 at*;generalize w.alloc _=w1 at*;obtain⟨tsb,mmb,rb,hc⟩:=B5 s0.Ak ho;have Dk:=hc.m1;have eu:=hc.tk;have Lo:=hc.kl;have Uf:(0:Int)<=(k:Int):=Y
 have GZ:(k:Int)<(J ps:Int):=Y
 have hx0:=bx.cell 0;have H:=D s0;have XQ:=hc.b.cell 3;have yE:=hc.b.cell 5;have uJ:=hc.b.free 5;clear s0 bx h Fu;have hwl:=ho.wl;clear hc ho;by_cases hp:p<0\/256<=p
 .exact nab
 .obtain⟨n,rfl⟩:∃n:Nat,p=n:=⟨p.toNat,Y⟩;have hn:n<256:=Y
  have Hn:=D hn;have On:¬(n:Int)<0:=Y
  have Fe:¬(256:Int)<=n:=Y
  have vA:=D (U1 w1 g t mem ps E k H.Ak Ho n hn);by_cases h4:J t.waits=4
  .have HS:=D (show({au t with waits:=(au t).waits++[((n:Int),q)]},hY t mem)=res by rw[<-Hres.out];unfold Tq;dsimp only;rw[In hp,Jd h4]);have h4':((J t.waits:Int)==4)=V:=by rw[h4];rfl
   have Hf:=D (Wz w1 g t mem ps E k H.Ak Ho);have Ln:(au t).waits.length<=3:=by show J t.waits.tail<=3;rw[QM];omega
   have Hw3:=D Ln;clear hp hn h4 hwl;go_wp2_with fail;refine vA.mono ?_;rintro e w2 ⟨rfl,rfl⟩;go_wp2_with fail;refine Hf.mono ?_;rintro e w3 ⟨rfl,c2,K8⟩;have S:=D (H.trans K8);have HO:=D (Ho.fl c2);clear K8 XQ yE uJ Dk eu vA;obtain⟨tsb2,mmb2,rb2,Wy⟩:=B5 S.Ak HO.out;have kb3:=Wy.b.cell 3;obtain⟨i0,hi,Kc⟩:=Ji.1 Wr;simp only[Prod.mk.injEq] at Kc;obtain⟨I6,K6,LQ⟩:=Kc;have mG:(au t).waits.length+1<=maxLen:=by unfold maxLen;omega
   have MT:((au t).waits.length+1)*16<=140737488355328:=Y
   clear Wy;go_wp2_with (first|(at_builtin;refine A6 16 _ _ _ i0 _ #[iI (n:Int),iI q] _ S.Ak (k:=3) rfl Eq Eq underlying66 hi I6 K6 LQ rfl Y Eq Eq rfl (by simp[Value.oneCell']) mG MT ?_;intro g6 AI w6 Ay _;have q1:=(Ay.Ak.Ao (i:=0) rfl).cell 3;have q2:=(Ay.Ak.Ao (i:=0) rfl).free 3;have q3:=(Ay.Ak.Ao (i:=0) rfl).lt;have vG:=D Ay;clear Ay kb3)|fail)
   go_end0
   exact⟨rfl,⟨U ⟨g6,0,Z⟩,AI⟩,by rw[<-HS.out];exact S.trans (Aam vG),by rw[<-HS.out];exact HO.push Hw3 Hn q _⟩
  .have HS:=D (show({t with waits:=t.waits++[((n:Int),q)]},mem)=res by rw[<-Hres.out];unfold Tq;dsimp only;rw[In hp,In h4]);have h4':((J t.waits:Int)==4)=I:=by rw[Jh];omega
   have Ln:J t.waits<=3:=Y
   have Hw3:=D Ln;have S:=H;have HO:=Ho;clear hp hn h4;go_wp2_with fail;refine vA.mono ?_;rintro e w2 ⟨rfl,rfl⟩;obtain⟨tsb2,mmb2,rb2,Wy⟩:=B5 S.Ak HO.out;have kb3:=Wy.b.cell 3;obtain⟨i0,hi,Kc⟩:=Ji.1 Wr;simp only[Prod.mk.injEq] at Kc;obtain⟨I6,K6,LQ⟩:=Kc;have mG:J t.waits+1<=maxLen:=by unfold maxLen;omega
   have MT:(J t.waits+1)*16<=140737488355328:=Y
   clear Wy;go_wp2_with (first|(at_builtin;refine A6 16 _ _ _ i0 _ #[iI (n:Int),iI q] _ S.Ak (k:=3) rfl Eq Eq underlying66 hi I6 K6 LQ rfl Y Eq Eq rfl (by simp[Value.oneCell']) mG MT ?_;intro g6 AI w6 Ay _;have q1:=(Ay.Ak.Ao (i:=0) rfl).cell 3;have q2:=(Ay.Ak.Ao (i:=0) rfl).free 3;have q3:=(Ay.Ak.Ao (i:=0) rfl).lt;have vG:=D Ay;clear Ay kb3)|fail)
   go_end0
   exact⟨rfl,⟨U ⟨g6,0,Z⟩,AI⟩,by rw[<-HS.out];exact S.trans (Aam vG),by rw[<-HS.out];grind [HO.push]⟩
theorem VG.box {w:World} {g:VG} {E:List Ob} (h:Aq w (g.Az t mem ps E)) (o:Obj):Af w (g.Az t mem ps E) (w.alloc o) (g.Az t mem ps (.Xk w.heap.size o::E)):=by
 refine(Af.new h o).trans (Af.Kl (Af.new h o).Ak ?_);unfold VG.Az;rw[Jj,Jj];exact(Qi _ (Qi _ Qh))
theorem VG.Ir {w:World} {g:VG} {E:List Ob} {x:Ob} (h:Aq w (g.Az t mem ps (x::E))):Af w (g.Az t mem ps (x::E)) w (g.Az t mem ps E):=by
 have e1:g.Az t mem ps (x::E)=(g.PQ t++g.Mj mem ps)++[x]++E:=by unfold VG.Az;simp
 have e2:g.Az t mem ps E=(g.PQ t++g.Mj mem ps)++E:=by unfold VG.Az;simp
 rw[e1] at h⊢;rw[e2];exact Af.drop h
theorem Aa0 (t:C2) (d v u:Int):(t.DA d v).DA d u=t.DA d u:=by unfold C2.DA;simp
theorem Alf (t:C2) (c:Ag):(if c.rv.Dd then t.Dx.getD c.rv.v.toNat 0 else c.rv.v)=t.ev c:=rfl
theorem Ab4 (w:World) (g:VG) (t:C2) (mem:List Int) (ps:List Value) (E:List Ob) (k:Nat) (h:Aq w (g.Az t mem ps E)) (ho:Pd g t mem ps k) (d:Nat) (hd:d<8) (a b:Ag) (j:Int) (p q:Int):
  Calls prog 41 #[iJ g.mb,iI k,(GI.El d a j b).DM.val,iI p,iI q] w (Agm g t mem (Tq (GI.El d a j b) p q (t,mem)) ps E k w):=by
 generalize AF:Tq (GI.El d a j b) p q (t,mem)=res;have Hres:=D AF;have s0:=VG.box h (qK (GI.El d a j b).DM.cells 101);have Ho:=D ho;unfold GI.DM Bi.of at*;unfold Bi.val Bi.cells at*;dsimp only at*;clear AF;go_enter func41,ntmps41;go_upto_region 1 with fail
 generalize Fu:w.heap.size=b0 at*;generalize w.alloc _=w1 at*;obtain⟨tsb,mmb,rb,hc⟩:=B5 s0.Ak ho;have Dk:=hc.m1;have eu:=hc.tk;have Lo:=hc.kl;have Uf:(0:Int)<=(k:Int):=Y
 have GZ:(k:Int)<(J ps:Int):=Y
 have hx0:=(s0.Ak.Ao (i:=8) rfl).cell 0;have H:=D s0;clear s0 h Fu;have oy:(0:Int)<=(d:Int):=Y
 have eD:(d:Int)<8:=Y
 replace hd:=D hd;have Hd:=D (eT w1 g t mem ps _ k H.Ak Ho);clear hc ho;go_wp2_with fail;refine Hd.mono ?_;rintro e w2 ⟨rfl,c2,K8,XK⟩;unfold Tq at Hres;dsimp only at Hres;generalize (aD (J t.waits) (t,mem)).1=T at*;generalize (aD (J t.waits) (t,mem)).2=MM at*;have S:=D (H.trans K8);have HO:=D XK;obtain⟨tsb2,mmb2,rb2,Wy⟩:=B5 S.Ak HO.out;have yE:=Wy.b.cell 5;have uJ:=Wy.b.free 5;clear Wy K8 XK Hd Dk eu hx0;by_cases hp:p<0\/256<=p
 .exact naa
 .obtain⟨n,rfl⟩:∃n:Nat,p=n:=⟨p.toNat,Y⟩;have hn:n<256:=Y
  have Hn:=D hn;have IL:(0:Int)<=(n:Int):=Y
  have Ud:(n:Int)<256:=Y
  have vA:=D (U1 w2 {g with w:=c2} T MM ps _ k S.Ak HO n hn);replace Hres:=D (Hres.symm.trans (In hp));rw[JW] at Hres;have hx9:=(S.Ak.Ao (i:=8) rfl).cell 0;clear hp hn;go_wp2_with fail;refine vA.mono ?_;rintro e w3 ⟨rfl,rfl⟩;generalize Am.wv T.waits (MM.getD n 0) n=v at*;clear yE uJ vA;obtain⟨tsb,mmb,rb,hc⟩:=B5 S.Ak HO.out;have f2:=hc.b.cell 2;have fm:=hc.m0;have fn:=hc.mm n Hn.out;have fg:=mV S.Ak hc.em n;have Hm:=D hc.em;clear hc;go_upto_region 23 with fail
  have s1:=VG.Aa2 S.Ak Hm (a:=n) (by rw[HO.out.ml];exact Hn.out) (wrap64 (v+q));have Vy:=HO.Aa2 n (wrap64 (v+q));clear f2 fm fn fg Hm;generalize bR:w3.setCell ⟨mmb,n,Z⟩ _=w4 at*;clear bR;obtain⟨tsb4,mmb4,rb4,Z6⟩:=B5 s1.Ak Vy;have f24:=Z6.b.cell 2;have fx4:=(s1.Ak.Ao (i:=8) rfl).cell 1;have fr4:=Z6.rg d hd.out;have ff4:=St s1.Ak Z6.er d;have He4:=D Z6.er;clear Z6;have S1:=D (S.trans s1);have UB:=D Vy;clear s1 Vy;go_upto_region 23 with fail
  refine AU (l:=sq [] 0 8) (λW=>W.cell? ⟨g.tb,2,Z⟩=U (qD (U ⟨rb4,0,Z⟩) 8 g.r.c)/\W.cell? ⟨b0,1,Z⟩=U (iI d)) 8 ⟨f24,fx4⟩ ?_;refine FC ?_;refine Bb rfl (λK hK=>?_);go_simp;refine hK _ _ (λh=>Jk h Do) ?_;clear hK;simp only[Ct];go_wp2
  go_end0
  have s2:=VG.DA S1.Ak He4 (d:=d) (by rw[UB.out.rl];exact hd.out) v;have s3:=s2.trans (Af.drew s2.Ak);exact⟨rfl,c2,by rw[Hres.out];exact(S1.trans s3).trans (VG.Ir s3.Ak),by rw[Hres.out];exact UB.DA d v⟩
theorem Afb (w:World) (g:VG) (t:C2) (mem:List Int) (ps:List Value) (E:List Ob) (k:Nat) (h:Aq w (g.Az t mem ps E)) (ho:Pd g t mem ps k) (d:Nat) (hd:d<8) (a b c:Ag) (hcr:c.Dd=V->0<=c.v/\c.v<8) (j:Int) (p q:Int):
  Calls prog 41 #[iJ g.mb,iI k,(GI.La d a j b c).DM.val,iI p,iI q] w (Agm g t mem (Tq (GI.La d a j b c) p q (t,mem)) ps E k w):=by
 generalize AF:Tq (GI.La d a j b c) p q (t,mem)=res;have Hres:=D AF;have s0:=VG.box h (qK (GI.La d a j b c).DM.cells 101);have Ho:=D ho;unfold GI.DM Bi.of at*;unfold Bi.val Bi.cells at*;dsimp only at*;clear AF;go_enter func41,ntmps41;go_upto_region 1 with fail
 generalize Fu:w.heap.size=b0 at*;generalize w.alloc _=w1 at*;obtain⟨tsb,mmb,rb,hc⟩:=B5 s0.Ak ho;have Dk:=hc.m1;have eu:=hc.tk;have Lo:=hc.kl;have Uf:(0:Int)<=(k:Int):=Y
 have GZ:(k:Int)<(J ps:Int):=Y
 have hx0:=(s0.Ak.Ao (i:=8) rfl).cell 0;have H:=D s0;clear s0 h Fu;have oy:(0:Int)<=(d:Int):=Y
 have eD:(d:Int)<8:=Y
 replace hd:=D hd;have Hd:=D (eT w1 g t mem ps _ k H.Ak Ho);clear hc ho;go_wp2_with fail;refine Hd.mono ?_;rintro e w2 ⟨rfl,c2,K8,XK⟩;unfold Tq at Hres;dsimp only at Hres;generalize (aD (J t.waits) (t,mem)).1=T at*;generalize (aD (J t.waits) (t,mem)).2=MM at*;have S:=D (H.trans K8);have HO:=D XK;obtain⟨tsb2,mmb2,rb2,Wy⟩:=B5 S.Ak HO.out;have yE:=Wy.b.cell 5;have uJ:=Wy.b.free 5;clear Wy K8 XK Hd Dk eu hx0;by_cases hp:p<0\/256<=p
 .exact naa
 .obtain⟨n,rfl⟩:∃n:Nat,p=n:=⟨p.toNat,Y⟩;have hn:n<256:=Y
  have Hn:=D hn;have IL:(0:Int)<=(n:Int):=Y
  have Ud:(n:Int)<256:=Y
  have vA:=D (U1 w2 {g with w:=c2} T MM ps _ k S.Ak HO n hn);replace Hres:=D (Hres.symm.trans (In hp));rw[JW] at Hres;have hx9:=(S.Ak.Ao (i:=8) rfl).cell 0;clear hp hn;go_wp2_with fail;refine vA.mono ?_;rintro e w3 ⟨rfl,rfl⟩;generalize Am.wv T.waits (MM.getD n 0) n=v at*;clear yE uJ vA;obtain⟨tsb,mmb0,rb0,bz⟩:=B5 S.Ak HO.out;have hx4:=(S.Ak.Ao (i:=8) rfl).cell 6;have hx5:=(S.Ak.Ao (i:=8) rfl).cell 7;have Hg:=D (YJ c.rv hcr w3 g.tb rb0 g.r.c _ _ _ _ _ T.Dx bz.b bz.rg);rw[Alf] at Hg;generalize VB:T.ev c=cv at*;clear bz;go_wp2_with fail;refine Hg.mono ?_;rintro e w4 ⟨rfl,XM⟩;have s4:=Af.quiet S.Ak XM;clear hx4 hx5 hx9 Hg hcr VB XM;obtain⟨tsb4,mmb4,rb4,Z6⟩:=B5 s4.Ak HO.out;have f24:=Z6.b.cell 2;have fx4:=(s4.Ak.Ao (i:=8) rfl).cell 1;have fr4:=Z6.rg d hd.out;have ff4:=St s4.Ak Z6.er d;have He4:=D Z6.er;clear Z6;have S4:=D (S.trans s4);clear s4;go_upto_region 17 with fail
  refine AU (l:=sq [] 0 7) (λW=>W.cell? ⟨g.tb,2,Z⟩=U (qD (U ⟨rb4,0,Z⟩) 8 g.r.c)/\W.cell? ⟨b0,1,Z⟩=U (iI d)) 7 ⟨f24,fx4⟩ ?_;refine FC ?_;refine Bb rfl (λK hK=>?_);go_simp;refine hK _ _ (λh=>Jk h Do) ?_;clear hK;simp only[Ct];have s5:=S4.trans (VG.DA S4.Ak He4 (d:=d) (by rw[HO.out.rl];exact hd.out) 0);replace s5:=s5.trans (Af.drew s5.Ak);have mF:=HO.DA d 0;clear f24 fx4 fr4 ff4;generalize (w4.setCell ⟨rb4,d,Z⟩ (iI 0)).drew=w5 at s5⊢;obtain⟨tsb5,mmb5,rb5,hc5⟩:=B5 s5.Ak mF;have fm5:=hc5.m0;have fn5:=hc5.mm n Hn.out;have fg5:=mV s5.Ak hc5.em n;have Hm5:=D hc5.em;clear hc5;have S5:=D s5;have HO5:=D mF;clear s5 mF;by_cases hq:v=q
  .rw[Jd hq] at Hres;have hq':(v==q)=V:=by simpa using hq
   clear hq;go_upto_region 20 with fail
   have s6:=S5.trans (VG.Aa2 S5.Ak Hm5 (a:=n) (by rw[HO.out.ml];exact Hn.out) cv);have ho6:=HO5.Aa2 n cv;clear fm5 fn5 fg5;generalize hw6:w5.setCell ⟨mmb5,n,Z⟩ _=w6 at*;clear hw6;obtain⟨tsb6,mmb6,rb6,mP⟩:=B5 s6.Ak ho6;have f26:=mP.b.cell 2;have fx6:=(s6.Ak.Ao (i:=8) rfl).cell 1;have fr6:=mP.rg d hd.out;have ff6:=St s6.Ak mP.er d;have He6:=D mP.er;clear mP;have S6:=D s6;have HO6:=D ho6;clear s6 ho6;go_upto_region 20 with fail
   refine AU (l:=sq [] 0 7) (λW=>W.cell? ⟨g.tb,2,Z⟩=U (qD (U ⟨rb6,0,Z⟩) 8 g.r.c)/\W.cell? ⟨b0,1,Z⟩=U (iI d)) 7 ⟨f26,fx6⟩ ?_;refine FC ?_;refine Bb rfl (λK hK=>?_);go_simp;refine hK _ _ (λh=>Jk h Do) ?_;clear hK;simp only[Ct];go_wp2
   go_end0
   have s7:=VG.DA S6.Ak He6 (d:=d) (by rw[HO6.out.rl];exact hd.out) 1;have s8:=s7.trans (Af.drew s7.Ak);rw[Aa0] at s8;have ho8:=HO6.DA d 1;rw[Aa0] at ho8;exact⟨rfl,c2,by rw[Hres.out];exact(S6.trans s8).trans (VG.Ir s8.Ak),by rw[Hres.out];exact ho8⟩
  .rw[In hq] at Hres;have hq':(v==q)=I:=by rw[Jh];exact hq
   clear hq;go_wp2
   go_end0
   exact⟨rfl,c2,by rw[Hres.out];exact S5.trans (VG.Ir S5.Ak),by rw[Hres.out];exact HO5.out⟩
def zm (i:GI) (s:C2×List Int):C2×List Int:=match i with
 |.Zv d a=>(s.1.DA d (s.1.ev a),s.2)
 |.op n d a b=>match BP n (s.1.ev a) (s.1.ev b) with
  |none=>({s.1 with An:=1},s.2)
  |some v=>(s.1.DA d v,s.2)
 |.Mr=>aD (J s.1.waits) s
 |.out a=>({s.1 with out:=s.1.out++[s.1.ev a]},s.2)
 |.GN q=>({s.1 with pc:=q.toNat},s.2)
 |.jz a q=>if s.1.ev a=0 then ({s.1 with pc:=q.toNat},s.2) else s
 |.CS k=>({s.1 with An:=k},s.2)
 |.halt=>({s.1 with An:=10},s.2)
 |.load d a j=>Tq (.load d a j) (wrap64 (s.1.ev a+j)) 0 s
 |.store a j b=>Tq (.store a j b) (wrap64 (s.1.ev a+j)) (s.1.ev b) s
 |.La d a j b c=>Tq (.La d a j b c) (wrap64 (s.1.ev a+j)) (s.1.ev b) s
 |.El d a j b=>Tq (.El d a j b) (wrap64 (s.1.ev a+j)) (s.1.ev b) s
def stI (Ab:List GI) (s:C2×List Int):C2×List Int:=
 if s.1.An≠0 then s else match Ab[s.1.pc]? with
  |none=>({s.1 with An:=10},s.2)
  |some i=>zm i ({s.1 with pc:=s.1.pc+1},s.2)
def Aly (g:VG) (t:C2) (mem:List Int) (s:C2×List Int) (ps:List Value) (E:List Ob) (k:Nat) (w:World) (e:Ending) (w':World):Prop:=e= qJ (qG #[])/\∃c o:SG,Af w (g.Az t mem ps E) w' (VG.Az {g with w:=c,o:=o} s.1 s.2 ps E)/\Pd {g with w:=c,o:=o} s.1 s.2 ps k
theorem cm (l:List Bi):(GA l).length=J l*9:=by
 induction l with
 |nil=>rfl
 |cons p r ih=>
  show(List.flatMap _ (p::r)).length=_;rw[J2,GT];show 9+(GA r).length=_;rw[ih,Jg];omega
theorem Af3 {l:List Bi} {r:Bi} (h:l[n]?=U r) (j:Nat) (hj:j<9):(GA l)[n*9+j]?=r.cells.toList[j]?:=by
 induction l generalizing n with
 |nil=>simp at h
 |cons p q ih=>
  show(List.flatMap _ (p::q))[_]?=_;rw[J2];have h9:J p.cells.toList=9:=rfl;cases n with
  |zero=>
   have e:p=r:=by simpa using h
   subst e;rw[JT Y,show 0*9+j=j by omega]
  |succ n=>
   rw[JL Y,show(n+1)*9+j-J p.cells.toList=n*9+j by omega];exact ih (by simpa using h)
theorem sG {w:World} {g:VG} {E:List Ob} (h:Aq w (g.Az t mem ps E)) {r:Bi} (hr:t.Ab[t.pc]?=U r):∃cb,g.c.p=U ⟨cb,0,Z⟩/\w.rangeAt cb (t.pc*9) r.cells.toList:=by
 have hlt:=(Jm.1 hr).1;obtain⟨cb,cc,ec,_,_,_,_,Yr,_⟩:=Av (h.row (i:=1) rfl) Y;refine⟨cb,by injection ec,λj v hv=>?_⟩;have hj:=(Jm.1 hv).1;have h9:J r.cells.toList=9:=rfl;have hl:=cm t.Ab;have:=Af3 hr j Y;rw[Yr (t.pc*9+j) Y,<-Jb,this];exact hv
theorem AhB {w:World} {g:VG} {E:List Ob} {v:Int} (S:Af w (g.Az t mem ps E) w6 ((g.Az t mem ps E).set 4 (.row (qD (U ⟨g6,0,Z⟩) (J t.out+1) AI) 2 1 (J t.out+1) (BZ t.out++(#[Value.int .i64 v]:Array Value).toList)))):
  Af w (g.Az t mem ps E) (w6.setCell ⟨g.tb,4,Z⟩ (qD (U ⟨g6,0,Z⟩) (J t.out+1) AI)) (VG.Az {g with o:=⟨U ⟨g6,0,Z⟩,AI⟩} {t with out:=t.out++[v]} mem ps E):=by
 have s:=S.trans (S.Ak.set (i:=0) (b:=g.tb) (T:=68) rfl 4 (qD (U ⟨g6,0,Z⟩) (J t.out+1) AI));have e0:BZ (t.out++[v])=BZ t.out++(#[Value.int .i64 v]:Array Value).toList:=by unfold BZ;rw[JH];rfl
 have e:VG.Az {g with o:=⟨U ⟨g6,0,Z⟩,AI⟩} {t with out:=t.out++[v]} mem ps E=(((g.Az t mem ps E).set 4 (.row (qD (U ⟨g6,0,Z⟩) (J t.out+1) AI) 2 1 (J t.out+1) (BZ t.out++(#[Value.int .i64 v]:Array Value).toList))).set 0 (.Ao g.tb (#[qD g.c.p (J t.Ab) g.c.c,iI t.pc,qD g.r.p (J t.Dx) g.r.c,qD g.w.p (J t.waits) g.w.c,qD g.o.p (J t.out) g.o.c,iI t.An].setIfInBounds 4 (qD (U ⟨g6,0,Z⟩) (J t.out+1) AI)) 68)):=by
  unfold VG.Az VG.PQ VG.Mj;dsimp only;rw[e0,GT];rfl
 rw[e];exact s
theorem Pd.Ahv {g:VG} {k:Nat} (h:Pd g t mem ps k) (o:List Int) (c:SG):Pd {g with o:=c} {t with out:=o} mem ps k:=⟨h.1,h.2,h.3,h.4,h.5,h.6⟩
def Agz:List (List UInt8):=[[109,111,118],[111,117,116],[102,101,110,99,101],[106,109,112],[106,122],[116,114,97,112],[104,97,108,116],[108,111,97,100],[115,116,111,114,101],[99,97,115],[120,97,100,100]]
theorem IM {nm:ByteArray} (h:nm∈B7) (i:Nat) (x:List UInt8) (hx:Agz[i]?=U x):(nm.toList==x)=I:=by
 have e:∀x,x∈Agz->∀y,y∈B7->(y.toList==x)=I:=by decide+kernel
 exact e x (JZ hx) nm h
theorem wR (i:GI) (h:SK 4000 i):(i.DM.a.Dd=V->0<=i.DM.a.v/\i.DM.a.v<8)/\(i.DM.b.Dd=V->0<=i.DM.b.v/\i.DM.b.v<8):=by
 have ag:∀a:Ag,D7 a->a.rv.Dd=V->0<=a.rv.v/\a.rv.v<8:=λa ha hr=>by
  unfold D7 at ha;have MJ:a.Dd=V:=hr;rw[Jd MJ] at ha;unfold OG at ha;have:a.rv.v=a.v:=rfl;omega
 have ze:SV.zero.Dd=V->0<=SV.zero.v/\SV.zero.v<8:=λ_=>Do
 cases i with
 |Zv d a=>exact⟨ag a h.2,ze⟩
 |op n d a b=>exact⟨ag a h.2.2.1,ag b h.2.2.2⟩
 |load d a k=>exact⟨ag a h.2.1,ze⟩
 |store a k b=>exact⟨ag a h.1,ag b h.2.2⟩
 |La d a k b c=>exact⟨ag a h.2.1,ag b h.2.2.2.1⟩
 |El d a k b=>exact⟨ag a h.2.1,ag b h.2.2.2⟩
 |Mr=>exact⟨ze,ze⟩
 |out a=>exact⟨ag a h,ze⟩
 |GN q=>exact⟨ze,ze⟩
 |jz a q=>exact⟨ag a h.1,ze⟩
 |CS k=>exact⟨ze,ze⟩
 |halt=>exact⟨ze,ze⟩
theorem AaK (l:List GI) (hl:∀i,i∈l->SK 4000 i) (w:World) (g:VG) (t:C2) (mem:List Int) (ps:List Value) (E:List Ob) (k:Nat) (h:Aq w (g.Az t mem ps E)) (ho:Pd g t mem ps k) (hc:t.Ab=l.map GI.DM) (hn:J l<=4000) (Wv:J t.out<=1000000000):
  Calls prog 25 #[iJ g.mb,iI k] w (Aly g t mem (stI l (t,mem)) ps E k w):=by
 generalize AF:stI l (t,mem)=res;unfold stI at AF;obtain⟨tsb,mmb,rb,hf⟩:=B5 h ho;have Dk:=hf.m1;have eu:=hf.tk;have Lo:=hf.kl;have Uf:(0:Int)<=(k:Int):=Y
 have GZ:(k:Int)<(J ps:Int):=Y
 have MU:¬(k:Int)<0:=Y
 have rV:¬J ps<=k:=Y
 have hk4:¬(J ps:Int)<=(k:Int):=Y
 have Fu:=hf.b.cell 0;have Ix:=hf.b.cell 1;have yE:=hf.b.cell 5;have AfE:=hf.b.free 5;have Ac4:=hf.b.free 1;have H:=D h;have HO:=D ho;clear hf h ho;by_cases Ay:t.An=0;rotate_left
 .have HS:=D (show(t,mem)=res by rw[<-AF,Jd Ay]);have iV:(t.An==0)=I:=by rw[Jh];exact Ay
  clear Ay AF hc;go_enter func25,ntmps25;go_wp2
  go_end0
  exact⟨rfl,g.w,g.o,by rw[<-HS.out];exact Af.refl H,by rw[<-HS.out];exact HO.out⟩
 rw[In (by simpa using Ay)] at AF;have iV:(t.An==0)=V:=by rw[Ay];rfl
 have Cs:J t.Ab=J l:=by rw[hc,JY]
 rw[Cs] at Fu;cases hi:l[t.pc]? with
 |none=>
  dsimp only at AF;have HS:=D (show({t with An:=10},mem)=res by rw[<-AF,hi]);have bX:J l<=t.pc:=List.getElem?_eq_none_iff.1 hi;have Aop:(J l:Int)<=(t.pc:Int):=Y
  clear Ay AF hc hi;go_enter func25,ntmps25;go_upto_region 2 with fail
  refine AU (l:=sq [] 0 9) (λW=>W.cell? ⟨g.tb,0,Z⟩=U (qD g.c.p (J l) g.c.c)/\W.cell? ⟨g.tb,1,Z⟩=U (iI t.pc)) 9 ⟨Fu,Ix⟩ ?_;refine FC ?_;refine Bb rfl (λK hK=>?_);go_simp;refine hK _ _ (λh=>Jk h Do) ?_;clear hK;simp only[Ct];go_wp2
  go_end0
  exact⟨rfl,g.w,g.o,by rw[<-HS.out];exact(Af.drew H).trans (VG.EB (Af.drew H).Ak 10),by rw[<-HS.out];exact HO.EB 10⟩
 |some i=>
  dsimp only at AF;have AgO:zm i ({t with pc:=t.pc+1},mem)=res:=by rw[<-AF,hi]
  have hil:t.pc<J l:=(Jm.1 hi).1;have eF:t.Ab[t.pc]?=U i.DM:=by rw[hc,JR,hi];rfl
  obtain⟨cb,ec,hcr⟩:=sG H eF;have yx:=hl i (JZ hi);rw[ec] at Fu;have gT:(0:Int)<=(t.pc:Int):=Y
  have On:(t.pc:Int)<(J l:Int):=Y
  have Fe:¬(J l:Int)<=(t.pc:Int):=Y
  have iX:True->wrap64 ((t.pc:Int)+1)=((t.pc+1:Nat):Int):=λ_=>IntWalk.wrap64_in _ Y
  have Hres:=D AgO;clear Ay AF AgO hc hi hl eF hil ec;generalize hr:i.DM=r at hcr;have O1:∀j v,r.cells.toList[j]?=U v->w.cell? ⟨cb,t.pc*9+j,Z⟩=U v:=hcr;go_enter func25,ntmps25;go_upto_region 2 with fail
  refine AU (l:=sq [] 0 9) (λW=>W.cell? ⟨g.tb,0,Z⟩=U (qD (U ⟨cb,0,Z⟩) (J l) g.c.c)/\W.cell? ⟨g.tb,1,Z⟩=U (iI t.pc)) 9 ⟨Fu,Ix⟩ ?_;refine FC ?_;refine Bb rfl (λK hK=>?_);go_simp;refine hK _ _ (λh=>Jk h Do) ?_;clear hK;simp only[Ct];go_upto_region 4 with fail
  refine AU (l:=sq [10] 0 11) (λW=>W.cell? ⟨g.tb,0,Z⟩=U (qD (U ⟨cb,0,Z⟩) (J l) g.c.c)/\W.cell? ⟨g.tb,1,Z⟩=U (iI t.pc)/\W.cell? ⟨cb,t.pc*9,Z⟩=U (qE r.Nw)/\W.cell? ⟨cb,t.pc*9+1,Z⟩=U (iI r.d)/\W.cell? ⟨cb,t.pc*9+2,Z⟩=U (qF r.a.Dd)/\W.cell? ⟨cb,t.pc*9+3,Z⟩=U (iI r.a.v)/\W.cell? ⟨cb,t.pc*9+4,Z⟩=U (qF r.b.Dd)/\W.cell? ⟨cb,t.pc*9+5,Z⟩=U (iI r.b.v)/\W.cell? ⟨cb,t.pc*9+6,Z⟩=U (qF r.c.Dd)/\W.cell? ⟨cb,t.pc*9+7,Z⟩=U (iI r.c.v)/\W.cell? ⟨cb,t.pc*9+8,Z⟩=U (iI r.k)) 11 ⟨Fu,Ix,O1 0 _ rfl,O1 1 _ rfl,O1 2 _ rfl,O1 3 _ rfl,O1 4 _ rfl,O1 5 _ rfl,O1 6 _ rfl,O1 7 _ rfl,O1 8 _ rfl⟩ ?_;refine FC ?_;refine Bb rfl (λK hK=>?_);go_simp;have sb0:=VG.box H (qK (Bi.of ⟨#[]⟩).cells 101);have m0:Aw [] w (w.alloc (qK (Bi.of ⟨#[]⟩).cells 101)).drew.drew:=(((Aw.refl _ _).alloc _).drew).drew;refine hK _ _ (λ_=>⟨AH m0 Fu,AH m0 Ix,AH m0 (O1 0 _ rfl),AH m0 (O1 1 _ rfl),AH m0 (O1 2 _ rfl),AH m0 (O1 3 _ rfl),AH m0 (O1 4 _ rfl),AH m0 (O1 5 _ rfl),AH m0 (O1 6 _ rfl),AH m0 (O1 7 _ rfl),AH m0 (O1 8 _ rfl)⟩) ?_;clear hK m0 sb0;refine Bb rfl (λK hK=>?_);go_simp;refine hK _ _ (λh=>Jk h Do) ?_;clear hK;simp only[Ct];have sb:=VG.box H (qK r.cells 101);replace sb:=(sb.trans (Af.drew sb.Ak)).trans (Af.drew (Af.drew sb.Ak).Ak);clear Dk eu Fu Ix yE AfE Ac4 hcr O1 gT On Fe Uf GZ MU rV hk4 iV Lo;unfold Bi.cells at sb;generalize w.heap.size=b0 at*;generalize (w.alloc _).drew.drew=w1 at sb⊢;obtain⟨tsb1,mmb1,rb1,Ug⟩:=B5 sb.Ak HO.out;have Ix:=Ug.b.cell 1;have Ac4:=Ug.b.free 1;have s5:Af w1 (g.Az t mem ps _) (w1.setCell ⟨g.tb,1,Z⟩ (iI ((t.pc:Int)+1))) (g.Az {t with pc:=t.pc+1} mem ps _):=VG.CU sb.Ak (t.pc+1);have HT:=D (sb.trans s5);have UB:=D (HO.CU (t.pc+1));have An9:({t with pc:=t.pc+1}:C2).out.length<=1000000000:=Wv;clear Ug s5 sb Wv HO;go_upto_region 6 with fail
  generalize w1.setCell ⟨g.tb,1,Z⟩ _=w2 at HT⊢;generalize ({t with pc:=t.pc+1}:C2)=t1 at*;obtain⟨tsb2,mmb2,rb2,Z2⟩:=B5 HT.Ak UB.out;have hx2:=(HT.Ak.Ao (i:=8) rfl).cell 2;have hx3:=(HT.Ak.Ao (i:=8) rfl).cell 3;obtain⟨hra,bu⟩:=wR i yx;rw[hr] at hra bu;have Hg:=D (YJ r.a hra w2 g.tb rb2 g.r.c _ _ _ _ _ t1.Dx Z2.b Z2.rg);generalize XR:(if r.a.Dd then t1.Dx.getD r.a.v.toNat 0 else r.a.v)=av at*;have Hav:=D XR;have Hrb:=D bu;clear Z2 XR hra bu Ix Ac4;go_wp2_with fail;refine Hg.mono ?_;rintro e w3 ⟨rfl,iY⟩;have HT3:=D (HT.trans (Af.quiet HT.Ak iY));clear Hg hx2 hx3 iY HT;obtain⟨tsb2,mmb2,rb2,Z2⟩:=B5 HT3.Ak UB.out;have hx4:=(HT3.Ak.Ao (i:=8) rfl).cell 4;have hx5:=(HT3.Ak.Ao (i:=8) rfl).cell 5;have Hg:=D (YJ r.b Hrb w3 g.tb rb2 g.r.c _ _ _ _ _ t1.Dx Z2.b Z2.rg);generalize hbv:(if r.b.Dd then t1.Dx.getD r.b.v.toNat 0 else r.b.v)=bv at*;have Hbv:=D hbv;clear Z2 hbv;go_wp2_with fail;refine Hg.mono ?_;rintro e w4 ⟨rfl,XM⟩;have S:=D (HT3.trans (Af.quiet HT3.Ak XM));clear Hg hx4 hx5 XM HT3 Hrb;have hx0:=(S.Ak.Ao (i:=8) rfl).cell 0;have Hr:=D hr;clear hr H iX Cs hn;cases i with
  |halt=>
   have MJ:=Hr.out;unfold GI.DM Bi.of at MJ;subst MJ;dsimp only at*;obtain⟨tsb5,mmb5,rb5,To⟩:=B5 S.Ak UB.out;have yE:=To.b.cell 5;have AfE:=To.b.free 5;clear To;go_wp2
   go_end0
   have s:=VG.EB S.Ak 10;exact⟨rfl,g.w,g.o,by rw[<-Hres.out];exact(S.trans s).trans (VG.Ir s.Ak),by rw[<-Hres.out];exact UB.EB 10⟩
  |CS q=>
   have MJ:=Hr.out;unfold GI.DM Bi.of at MJ;subst MJ;dsimp only at*;obtain⟨tsb5,mmb5,rb5,To⟩:=B5 S.Ak UB.out;have yE:=To.b.cell 5;have AfE:=To.b.free 5;have hx8:=(S.Ak.Ao (i:=8) rfl).cell 8;clear To;go_wp2
   go_end0
   have s:=VG.EB S.Ak q;exact⟨rfl,g.w,g.o,by rw[<-Hres.out];exact(S.trans s).trans (VG.Ir s.Ak),by rw[<-Hres.out];exact UB.EB q⟩
  |GN q=>
   have MJ:=Hr.out;unfold GI.DM Bi.of at MJ;subst MJ;dsimp only at*;obtain⟨tsb5,mmb5,rb5,To⟩:=B5 S.Ak UB.out;have Ix:=To.b.cell 1;have Ac4:=To.b.free 1;have hx8:=(S.Ak.Ao (i:=8) rfl).cell 8;clear To;obtain⟨n,rfl⟩:∃n:Nat,q=n:=⟨q.toNat,by have:=yx.1;omega⟩;clear yx;go_wp2
   go_end0
   have s:=VG.CU S.Ak n;exact⟨rfl,g.w,g.o,by rw[<-Hres.out];exact(S.trans s).trans (VG.Ir s.Ak),by rw[<-Hres.out];exact UB.CU n⟩
  |jz a q=>
   have MJ:=Hr.out;unfold GI.DM Bi.of at MJ;subst MJ;dsimp only at*;obtain⟨tsb5,mmb5,rb5,To⟩:=B5 S.Ak UB.out;have Ix:=To.b.cell 1;have Ac4:=To.b.free 1;have hx8:=(S.Ak.Ao (i:=8) rfl).cell 8;clear To;obtain⟨n,rfl⟩:∃n:Nat,q=n:=⟨q.toNat,by have:=yx.2.1;omega⟩;clear yx;by_cases h0:av=0
   .have HR:=D (show({t1 with pc:=n},mem)=res by rw[<-Hres.out];exact(Jd (Hav.trans h0)).symm);have Z7:(av==0)=V:=by simpa using h0
    clear h0;go_wp2
    go_end0
    have s:=VG.CU S.Ak n;exact⟨rfl,g.w,g.o,by rw[<-HR.out];exact(S.trans s).trans (VG.Ir s.Ak),by rw[<-HR.out];exact UB.CU n⟩
   .have HR:=D (show(t1,mem)=res by rw[<-Hres.out];exact(In (λe=>h0 (Hav.symm.trans e))).symm);have Z7:(av==0)=I:=by rw[Jh];exact h0
    clear h0;go_wp2
    go_end0
    exact⟨rfl,g.w,g.o,by rw[<-HR.out];exact S.trans (VG.Ir S.Ak),by rw[<-HR.out];exact UB.out⟩
  |Mr=>exact yx.elim
  |Zv d a=>
   have MJ:=Hr.out;unfold GI.DM Bi.of at MJ;subst MJ;dsimp only at*;obtain⟨hd,_⟩:=yx;obtain⟨n,rfl⟩:∃n:Nat,d=n:=⟨d.toNat,by have:=hd.1;omega⟩;have yC:n<8:=by have:=hd.2;omega
   have oy:(0:Int)<=(n:Int):=Y
   have eD:(n:Int)<8:=Y
   clear hd;have HR:=D (show(t1.DA n av,mem)=res by rw[<-Hres.out,<-Hav.out];rfl);obtain⟨tsb5,mmb5,rb5,To⟩:=B5 S.Ak UB.out;have VZ:=To.b.cell 2;have Aow:=To.b.free 2;have hx1:=(S.Ak.Ao (i:=8) rfl).cell 1;have hr0:=To.rg n yC;have hrf:=St S.Ak To.er n;have He:=D To.er;have Hd8:=D yC;clear To yC;go_upto_region 14 with fail
   refine AU (l:=sq [] 0 8) (λW=>W.cell? ⟨g.tb,2,Z⟩=U (qD (U ⟨rb5,0,Z⟩) 8 g.r.c)/\W.cell? ⟨b0,1,Z⟩=U (iI n)) 8 ⟨VZ,hx1⟩ ?_;refine FC ?_;refine Bb rfl (λK hK=>?_);go_simp;refine hK _ _ (λh=>Jk h Do) ?_;clear hK;simp only[Ct];go_wp2
   go_end0
   have s:=VG.DA S.Ak He (d:=n) (by rw[UB.out.rl];exact Hd8.out) av;replace s:=s.trans (Af.drew s.Ak);exact⟨rfl,g.w,g.o,by rw[<-HR.out];exact(S.trans s).trans (VG.Ir s.Ak),by rw[<-HR.out];exact UB.DA n av⟩
  |out a=>
   have MJ:=Hr.out;unfold GI.DM Bi.of at MJ;subst MJ;dsimp only at*;obtain⟨tsb5,mmb5,rb5,To⟩:=B5 S.Ak UB.out;have hb4:=To.b.cell 4;have Am9:=To.b.free 4;clear To;have HR:=D (show({t1 with out:=t1.out++[av]},mem)=res by rw[<-Hres.out,<-Hav.out];rfl);obtain⟨i0,hi,Kc⟩:=Ji.1 KQ;simp only[Prod.mk.injEq] at Kc;obtain⟨I6,K6,LQ⟩:=Kc;have mG:J t1.out+1<=maxLen:=by unfold maxLen;omega
   have MT:(J t1.out+1)*8<=140737488355328:=Y
   go_wp2_with (first|(at_builtin;refine A6 8 _ _ _ i0 _ #[iI av] _ S.Ak (k:=4) rfl Eq Eq underlying31 hi I6 K6 LQ rfl Y Eq Eq rfl (by simp[Value.oneCell']) mG MT ?_;intro g6 AI w6 Ay _;have q1:=(Ay.Ak.Ao (i:=0) rfl).cell 4;have q2:=(Ay.Ak.Ao (i:=0) rfl).free 4;have q3:=(Ay.Ak.Ao (i:=0) rfl).lt;have vG:=D Ay;clear Ay hb4 Am9)|fail)
   go_end0
   have s:=AhB vG.out;exact⟨rfl,g.w,⟨U ⟨g6,0,Z⟩,AI⟩,by rw[<-HR.out];exact(S.trans s).trans (VG.Ir s.Ak),by rw[<-HR.out];exact UB.Ahv _ _⟩
  |load d a j=>
   have MJ:=Hr.out;unfold GI.DM Bi.of at MJ;subst MJ;dsimp only at*;obtain⟨hd,_⟩:=yx;obtain⟨n,rfl⟩:∃n:Nat,d=n:=⟨d.toNat,by have:=hd.1;omega⟩;have yC:n<8:=by have:=hd.2;omega
   clear hd;have HR:=D (show Tq (.load n a j) (wrap64 (av+j)) bv (t1,mem)=res by rw[<-Hres.out,<-Hav.out];rfl);have Hm:=D (Ab5 w4 g t1 mem ps _ k S.Ak UB n yC a j (wrap64 (av+j)) bv);unfold GI.DM Bi.of Bi.val Bi.cells at Hm;dsimp only at Hm;have hx:=(S.Ak.Ao (i:=8) rfl).cell;go_wp2_with fail;refine Hm.mono ?_;rintro e w5 ⟨rfl,c5,bt,mF⟩;have UA:=D bt;have HO5:=D mF;clear bt mF;go_wp2
   go_end0
   exact⟨rfl,c5,g.o,by rw[<-HR.out];exact(S.trans UA).trans (VG.Ir UA.Ak),by rw[<-HR.out];exact HO5.out⟩
  |store a j b=>
   have MJ:=Hr.out;unfold GI.DM Bi.of at MJ;subst MJ;dsimp only at*;have HR:=D (show Tq (.store a j b) (wrap64 (av+j)) bv (t1,mem)=res by rw[<-Hres.out,<-Hav.out,<-Hbv.out];rfl);have Hm:=D (xJ w4 g t1 mem ps _ k S.Ak UB a b j (wrap64 (av+j)) bv);unfold GI.DM Bi.of Bi.val Bi.cells at Hm;dsimp only at Hm;have hx:=(S.Ak.Ao (i:=8) rfl).cell;go_wp2_with fail;refine Hm.mono ?_;rintro e w5 ⟨rfl,c5,bt,mF⟩;have UA:=D bt;have HO5:=D mF;clear bt mF;go_wp2
   go_end0
   exact⟨rfl,c5,g.o,by rw[<-HR.out];exact(S.trans UA).trans (VG.Ir UA.Ak),by rw[<-HR.out];exact HO5.out⟩
  |La d a j b c=>
   have MJ:=Hr.out;unfold GI.DM Bi.of at MJ;subst MJ;dsimp only at*;obtain⟨hd,_,_,_,hoc⟩:=yx;have AmG:c.Dd=V->0<=c.v/\c.v<8:=λhr=>by
    unfold D7 at hoc;rw[Jd hr] at hoc;unfold OG at hoc;omega
   obtain⟨n,rfl⟩:∃n:Nat,d=n:=⟨d.toNat,by have:=hd.1;omega⟩;have yC:n<8:=by have:=hd.2;omega
   clear hd;have HR:=D (show Tq (.La n a j b c) (wrap64 (av+j)) bv (t1,mem)=res by rw[<-Hres.out,<-Hav.out,<-Hbv.out];rfl);have Hm:=D (Afb w4 g t1 mem ps _ k S.Ak UB n yC a b c AmG j (wrap64 (av+j)) bv);unfold GI.DM Bi.of Bi.val Bi.cells at Hm;dsimp only at Hm;have hx:=(S.Ak.Ao (i:=8) rfl).cell;go_wp2_with fail;refine Hm.mono ?_;rintro e w5 ⟨rfl,c5,bt,mF⟩;have UA:=D bt;have HO5:=D mF;clear bt mF;go_wp2
   go_end0
   exact⟨rfl,c5,g.o,by rw[<-HR.out];exact(S.trans UA).trans (VG.Ir UA.Ak),by rw[<-HR.out];exact HO5.out⟩
  |El d a j b=>
   have MJ:=Hr.out;unfold GI.DM Bi.of at MJ;subst MJ;dsimp only at*;obtain⟨hd,_⟩:=yx;obtain⟨n,rfl⟩:∃n:Nat,d=n:=⟨d.toNat,by have:=hd.1;omega⟩;have yC:n<8:=by have:=hd.2;omega
   clear hd;have HR:=D (show Tq (.El n a j b) (wrap64 (av+j)) bv (t1,mem)=res by rw[<-Hres.out,<-Hav.out,<-Hbv.out];rfl);have Hm:=D (Ab4 w4 g t1 mem ps _ k S.Ak UB n yC a b j (wrap64 (av+j)) bv);unfold GI.DM Bi.of Bi.val Bi.cells at Hm;dsimp only at Hm;have hx:=(S.Ak.Ao (i:=8) rfl).cell;go_wp2_with fail;refine Hm.mono ?_;rintro e w5 ⟨rfl,c5,bt,mF⟩;have UA:=D bt;have HO5:=D mF;clear bt mF;go_wp2
   go_end0
   exact⟨rfl,c5,g.o,by rw[<-HR.out];exact(S.trans UA).trans (VG.Ir UA.Ak),by rw[<-HR.out];exact HO5.out⟩
  |op nm d a b=>
   have MJ:=Hr.out;unfold GI.DM Bi.of at MJ;subst MJ;dsimp only at*;obtain⟨bV,hd,_⟩:=yx;have hw0:=IM bV 0 _ rfl;have Fi:=IM bV 1 _ rfl;have No:=IM bV 2 _ rfl;have Ln:=IM bV 3 _ rfl;have bR:=IM bV 4 _ rfl;have bq:=IM bV 5 _ rfl;have hw6:=IM bV 6 _ rfl;have hw7:=IM bV 7 _ rfl;have hw8:=IM bV 8 _ rfl;have hw9:=IM bV 9 _ rfl;have An0:=IM bV 10 _ rfl;obtain⟨n,rfl⟩:∃n:Nat,d=n:=⟨d.toNat,by have:=hd.1;omega⟩;have yC:n<8:=by have:=hd.2;omega
   have oy:(0:Int)<=(n:Int):=Y
   have eD:(n:Int)<8:=Y
   clear hd;have Hmd:=D (lU nm bV av bv w4);clear bV;have AfG:=Hres.out;have AnB:=D (show Zl nm av bv= qG #[iI ((BP nm av bv).getD 0),qF (BP nm av bv).isSome] from rfl);go_wp2_with fail;refine Hmd.mono ?_;rintro e w5 ⟨rfl,rfl⟩;rw[AnB.out];cases XL:BP nm av bv with
   |none=>
    have HR:=D (show({t1 with An:=1},mem)=res by
      rw[<-AfG];unfold zm;dsimp only;rw[show t1.ev a=av from Hav.out,show t1.ev b=bv from Hbv.out,XL])
    have yE:=(S.Ak.Ao (i:=0) rfl).cell 5;have AfE:=(S.Ak.Ao (i:=0) rfl).free 5;clear XL AfG;simp only[QZ,QD];go_wp2
    go_end0
    have s:=VG.EB S.Ak 1;exact⟨rfl,g.w,g.o,by rw[<-HR.out];exact(S.trans s).trans (VG.Ir s.Ak),by rw[<-HR.out];exact UB.EB 1⟩
   |some v=>
    have HR:=D (show(t1.DA n v,mem)=res by
      rw[<-AfG];unfold zm;dsimp only;rw[show t1.ev a=av from Hav.out,show t1.ev b=bv from Hbv.out,XL])
    clear XL AfG;simp only[Qq,QQ];obtain⟨tsb5,mmb5,rb5,To⟩:=B5 S.Ak UB.out;have VZ:=To.b.cell 2;have hx1:=(S.Ak.Ao (i:=8) rfl).cell 1;have hr0:=To.rg n yC;have hrf:=St S.Ak To.er n;have He:=D To.er;have Hd8:=D yC;clear To yC;go_upto_region 12 with fail
    refine AU (l:=sq [] 0 8) (λW=>W.cell? ⟨g.tb,2,Z⟩=U (qD (U ⟨rb5,0,Z⟩) 8 g.r.c)/\W.cell? ⟨b0,1,Z⟩=U (iI n)) 8 ⟨VZ,hx1⟩ ?_;refine FC ?_;refine Bb rfl (λK hK=>?_);go_simp;refine hK _ _ (λh=>Jk h Do) ?_;clear hK;simp only[Ct];go_wp2
    go_end0
    have s:=VG.DA S.Ak He (d:=n) (by rw[UB.out.rl];exact Hd8.out) v;replace s:=s.trans (Af.drew s.Ak);exact⟨rfl,g.w,g.o,by rw[<-HR.out];exact(S.trans s).trans (VG.Ir s.Ak),by rw[<-HR.out];exact UB.DA n v⟩
def Tu (s:C2×List Int):C2×List Int:=aD (J s.1.waits) s
theorem eU (n:Nat) (s:C2×List Int):(aD n s).1.Ab=s.1.Ab/\(aD n s).1.out=s.1.out:=by
 induction n generalizing s with
 |zero=>exact⟨rfl,rfl⟩
 |succ n ih=>exact ih (au s.1,hY s.1 s.2)
theorem y8 (i:GI) (p q:Int) (s:C2×List Int):(Tq i p q s).1.Ab=s.1.Ab/\(Tq i p q s).1.out=s.1.out:=by
 have d:=eU (J s.1.waits) s;unfold Tq;split
 .split<;>exact⟨rfl,rfl⟩
 .split
  .exact⟨rfl,rfl⟩
  .dsimp only;split<;>exact⟨rfl,rfl⟩
 .dsimp only;split
  .exact d
  .split<;>exact d
 .dsimp only;split<;>exact d
 .exact⟨rfl,rfl⟩
theorem zj (i:GI) (s:C2×List Int):(zm i s).1.Ab=s.1.Ab/\(zm i s).1.out.length<=J s.1.out+1:=by
 have e:∀i p q,(Tq i p q s).1.Ab=s.1.Ab/\(Tq i p q s).1.out.length<=J s.1.out+1:=λi p q=>by
  obtain⟨h1,h2⟩:=y8 i p q s;exact⟨h1,by rw[h2];omega⟩
 have d:=eU (J s.1.waits) s;cases i with
 |Zv d a=>exact⟨rfl,JJ _⟩
 |op n d a b=>
  show(match BP n (s.1.ev a) (s.1.ev b) with|none=>_|some v=>_:C2×List Int).1.Ab=_/\(match BP n (s.1.ev a) (s.1.ev b) with|none=>_|some v=>_:C2×List Int).1.out.length<=_;cases BP n (s.1.ev a) (s.1.ev b)<;>exact⟨rfl,JJ _⟩
 |load d a k=>exact e _ _ _
 |store a k b=>exact e _ _ _
 |La d a k b c=>exact e _ _ _
 |El d a k b=>exact e _ _ _
 |Mr=>exact⟨d.1,by show(aD _ s).1.out.length<=_;rw[d.2];omega⟩
 |out a=>exact⟨rfl,by show(s.1.out++_).length<=_;rw[GT];exact Jf _⟩
 |GN q=>exact⟨rfl,JJ _⟩
 |jz a q=>
  show(if s.1.ev a=0 then _ else s:C2×List Int).1.Ab=_/\(if s.1.ev a=0 then _ else s:C2×List Int).1.out.length<=_;split<;>exact⟨rfl,JJ _⟩
 |CS k=>exact⟨rfl,JJ _⟩
 |halt=>exact⟨rfl,JJ _⟩
theorem wB (l:List GI) (s:C2×List Int):(stI l s).1.Ab=s.1.Ab/\(stI l s).1.out.length<=J s.1.out+1:=by
 unfold stI;split
 .exact⟨rfl,JJ _⟩
 .split
  .exact⟨rfl,JJ _⟩
  .exact zj _ _
def Am.put (M:Am) (k:Nat) (s:C2×List Int):Am:={mem:=s.2,ts:=M.ts.set k s.1}
section
variable {M:Am} {k:Nat} (hk:k<J M.ts)
theorem U2 (s s':C2×List Int):(M.put k s).put k s'=M.put k s':=by unfold Am.put;dsimp only;rw[j7]
theorem Sb (s:C2×List Int) (t:C2):(M.put k s).CR k t=M.put k (t,s.2):=U2 s (t,s.2)
theorem gq (s:C2×List Int):(M.put k s).mem=s.2:=rfl
theorem Sc (s:C2×List Int):(M.put k s).ts.length=J M.ts:=Jp ..
include hk
theorem Zc (s:C2×List Int):(M.put k s).th k=s.1:=by
 show(M.ts.set k s.1).getD k C2.new=s.1;rw[B4 _ _ _ _ _ hk,Jd rfl]
theorem P3:M.put k (M.th k,M.mem)=M:=by
 obtain⟨mem,ts⟩:=M;unfold Am.put Am.th;congr 1;apply List.ext_getElem?;intro i;rw[Qs];split
 .rename_i h;subst h;rw[Ja,Jb hk];rfl
 .rfl
theorem Su:M.Ck k=M.put k (au (M.th k),hY (M.th k) M.mem):=by
 unfold Am.Ck au hY;cases hw:(M.th k).waits with
 |nil=>
  show M=M.put k _;have e:({M.th k with waits:=([]:List (Int×Int)).tail}:C2)=M.th k:=by
   cases h:M.th k;rw[h] at hw;dsimp only at hw;subst hw;rfl
  rw[e];exact(P3 hk).symm
 |cons p r=>rfl
theorem sx (n:Nat) (s:C2×List Int):Am.Mu n (M.put k s) k=M.put k (aD n s):=by
 induction n generalizing s with
 |zero=>rfl
 |succ n ih=>
  show Am.Mu n ((M.put k s).Ck k) k=M.put k (aD n (au s.1,hY s.1 s.2));rw[Su (by rw[Sc];exact hk),Zc hk,gq,U2,ih]
theorem zh:M.Cp k=M.put k (Tu (M.th k,M.mem)):=by
 unfold Am.Cp Tu
 conv=>lhs;rw[<-P3 hk]
 rw[sx hk,P3 hk]
theorem Ado (i:GI):M.Uo k i=M.put k (zm i (M.th k,M.mem)):=by
 have hd:=zh hk;cases i with
 |Zv d a=>rfl
 |op n d a b=>
  rw[Am.uY];unfold zm;dsimp only;cases BP n ((M.th k).ev a) ((M.th k).ev b)<;>rfl
 |load d a j=>
  rw[Am.eQ];unfold zm Tq;dsimp only;split<;>rfl
 |store a j b=>
  rw[Am.aA];unfold zm Tq;dsimp only;split
  .rfl
  .split
   .rw[Su hk];rw[Sb,Zc hk]
   .rfl
 |La d a j b c=>
  rw[Am.ni,hd];unfold zm Tq Am.SF;dsimp only;rw[Zc hk,gq];show _=M.put k (if _ then ({(Tu (M.th k,M.mem)).1 with An:=9},(Tu (M.th k,M.mem)).2) else if Am.wv (Tu (M.th k,M.mem)).1.waits ((Tu (M.th k,M.mem)).2.getD _ 0) _=(M.th k).ev b then _ else _);have LV:(Tu (M.th k,M.mem)).1.ev c=(M.th k).ev c:=by
   have:∀n (s:C2×List Int),(aD n s).1.Dx=s.1.Dx:=λn=>by
    induction n with
    |zero=>exact λs=>rfl
    |succ n ih=>exact λs=>ih (au s.1,hY s.1 s.2)
   unfold C2.ev;rw[show(Tu (M.th k,M.mem)).1.Dx=(M.th k).Dx from this _ _]
  split
  .rw[Sb]
  .split
   .show(M.put k _).put k (_,_)=M.put k (_,_);rw[U2,<-LV];rfl
   .rw[Sb];rfl
 |El d a j b=>
  rw[Am.eP,hd];unfold zm Tq Am.SF;dsimp only;rw[Zc hk,gq];show _=M.put k (if _ then ({(Tu (M.th k,M.mem)).1 with An:=9},(Tu (M.th k,M.mem)).2) else _);split
  .rw[Sb]
  .show(M.put k _).put k (_,_)=M.put k (_,_);rw[U2];rfl
 |Mr=>exact hd
 |out a=>rfl
 |GN q=>rfl
 |jz a q=>
  rw[Am.uZ];unfold zm;dsimp only;split
  .rfl
  .exact(P3 hk).symm
 |CS s=>rfl
 |halt=>rfl
theorem YR (Ab:Nat->List GI):M.step Ab k=M.put k (stI (Ab k) (M.th k,M.mem)):=by
 unfold Am.step stI;dsimp only;by_cases h0:(M.th k).An=0
 .rw[In (by
     rintro(h|h); · omega
     · exact h h0),In (by simpa using h0)]
  cases (Ab k)[(M.th k).pc]? with
  |none=>rfl
  |some i=>
   show(M.put k ({M.th k with pc:=(M.th k).pc+1},M.mem)).Uo k i=_;rw[Ado (by rw[Sc];exact hk),Zc hk,U2];rfl
 .rw[Jd (.inr h0),Jd h0];exact(P3 hk).symm
end
structure H9 where
 tb:Nat
 c:SG
 r:SG
 w:SG
 o:SG
def H9.on (x:H9) (F:VG):VG:=⟨x.tb,x.c,x.r,x.w,x.o,F.mb,F.m,F.t⟩
def H9.ptr (x:H9):Value:= iJ x.tb
def SE (F:VG) (gs:List H9) (ts:List C2):List Ob:=(gs.zip ts).flatMap λp=>(p.1.on F).PQ p.2
def MO (F:VG) (gs:List H9) (M:Am) (E:List Ob):List Ob:=F.Mj M.mem (gs.map H9.ptr)++(SE F gs M.ts++E)
structure cF (gs:List H9) (M:Am):Prop where
 gl:J gs=J M.ts
 tl:J M.ts<=3
 ml:J M.mem=256
 th:∀t,t∈M.ts->J t.Dx=8/\J t.waits<=4/\∀p,p∈t.waits->0<=p.1/\p.1<256
section
variable {F:VG} {E:List Ob} {k:Nat} {x:H9} {t:C2}
theorem vY {gs:List H9} {ts:List C2} (hx:gs[k]?=U x) (ht:ts[k]?=U t):(SE F gs ts).Perm ((x.on F).PQ t++SE F (gs.eraseIdx k) (ts.eraseIdx k)):=by
 induction k generalizing gs ts with
 |zero=>
  cases gs with
  |nil=>cases hx
  |cons g gs=>
   cases ts with
   |nil=>cases ht
   |cons u ts=>
    injection hx with hx;injection ht with ht
    subst hx ht;exact List.Perm.refl _
 |succ k ih=>
  cases gs with
  |nil=>cases hx
  |cons g gs=>
   cases ts with
   |nil=>cases ht
   |cons u ts=>
    have h:=ih (gs:=gs) (ts:=ts) hx ht;show((g.on F).PQ u++SE F gs ts).Perm (_++((g.on F).PQ u++SE F (gs.eraseIdx k) (ts.eraseIdx k)));refine(Qi _ h).trans ?_;rw[<-Jj,<-Jj];exact QK _ Qh
theorem Sj {gs:List H9} {M:Am} (hx:gs[k]?=U x) (ht:M.ts[k]?=U t):(MO F gs M E).Perm ((x.on F).Az t M.mem (gs.map H9.ptr) (SE F (gs.eraseIdx k) (M.ts.eraseIdx k)++E)):=by
 unfold MO VG.Az;refine(Qi _ (QK E (vY hx ht))).trans ?_;show(F.Mj M.mem (gs.map H9.ptr)++((x.on F).PQ t++_++E)).Perm ((x.on F).PQ t++(F.Mj M.mem (gs.map H9.ptr)++_));generalize F.Mj M.mem (gs.map H9.ptr)=A;generalize (x.on F).PQ t=B;generalize SE F (gs.eraseIdx k) (M.ts.eraseIdx k)=C;rw[Jj,<-Jj,<-Jj B];exact QK _ Qh
theorem gr {gs:List H9} (hx:gs[k]?=U x) {x':H9} (h:x'.tb=x.tb):(gs.set k x').map H9.ptr=gs.map H9.ptr:=by
 apply List.ext_getElem?;intro i;rw[JR,JR,Qs];split
 .rename_i he;subst he;have hl:=(Jm.1 hx).1;rw[Jd hl,hx];show U x'.ptr=U x.ptr;unfold H9.ptr;rw[h]
 .rfl
theorem uk {gs:List H9} {M:Am} {w:World} (h:Aq w (MO F gs M E)) (hx:gs[k]?=U x) (ht:M.ts[k]?=U t) {c o:SG} {s:C2×List Int}
  (S:Af w ((x.on F).Az t M.mem (gs.map H9.ptr) (SE F (gs.eraseIdx k) (M.ts.eraseIdx k)++E)) w' (VG.Az {x.on F with w:=c,o:=o} s.1 s.2 (gs.map H9.ptr) (SE F (gs.eraseIdx k) (M.ts.eraseIdx k)++E))):
  Af w (MO F gs M E) w' (MO F (gs.set k {x with w:=c,o:=o}) (M.put k s) E):=by
 have hl:=(Jm.1 hx).1;have Pm:=(Jm.1 ht).1;refine((Af.Kl h (Sj hx ht)).trans S).trans (Af.Kl S.Ak ?_);have p:=Sj (F:=F) (E:=E) (gs:=gs.set k {x with w:=c,o:=o}) (M:=M.put k s) (k:=k) (x:={x with w:=c,o:=o}) (t:=s.1) (by rw[Qs,Jd rfl,Jd hl]) (by show(M.ts.set k s.1)[k]?=_;rw[Qs,Jd rfl,Jd Pm]);rw[gr hx (x':={x with w:=c,o:=o}) rfl,List.eraseIdx_set_eq] at p;have e:(M.put k s).ts.eraseIdx k=M.ts.eraseIdx k:=by show(M.ts.set k s.1).eraseIdx k=_;rw[List.eraseIdx_set_eq]
 rw[e] at p;exact p.symm
theorem cF.fok {gs:List H9} {M:Am} (h:cF gs M) (hx:gs[k]?=U x) (ht:M.ts[k]?=U t):Pd (x.on F) t M.mem (gs.map H9.ptr) k:=by
 obtain⟨h1,h2,h3⟩:=h.th t (JZ ht);exact⟨h.ml,h1,h2,h3,by rw[JR,hx];rfl,by rw[JY,h.gl];exact h.tl⟩
theorem cF.put {gs:List H9} {M:Am} (h:cF gs M) {g:VG} {s:C2×List Int} {ps:List Value} (ho:Pd g s.1 s.2 ps k) (x':H9):cF (gs.set k x') (M.put k s):=by
 refine⟨?_,?_,ho.ml,λt ht=>?_⟩
 .rw[Jp,Sc];exact h.gl
 .rw[Sc];exact h.tl
 .rcases List.mem_or_eq_of_mem_set ht with ht|ht
  .exact h.th t ht
  .subst ht;exact⟨ho.rl,ho.wl,ho.wa⟩
def Ad7 (F:VG) (gs:List H9) (M M':Am) (E:List Ob) (w w':World):Prop:=∃gs',Af w (MO F gs M E) w' (MO F gs' M' E)/\cF gs' M'/\gs'.map H9.ptr=gs.map H9.ptr
theorem Agf {gs:List H9} {M:Am} (h:cF gs M) (hk:k<J M.ts):∃x,gs[k]?=U x/\M.ts[k]?=U (M.th k):=by
 have hg:k<J gs:=by rw[h.gl];exact hk
 refine⟨gs[k],Jb hg,?_⟩;unfold Am.th;rw[Ja,Jb hk];rfl
end
section
variable (F:VG) (gs:List H9) (M:Am) (E:List Ob) (w:World) (h:Aq w (MO F gs M E)) (ho:cF gs M) (k:Nat) (hk:k<J M.ts)
include h ho hk
theorem AfN:Calls prog 21 #[iJ F.mb,iI k] w λe w'=>e= qJ (qG #[])/\Ad7 F gs M (M.Ck k) E w w':=by
 obtain⟨x,hx,ht⟩:=Agf ho hk;refine(Wz w (x.on F) (M.th k) M.mem (gs.map H9.ptr) _ k (Af.Kl h (Sj hx ht)).Ak (ho.fok hx ht)).mono ?_;rintro e w' ⟨rfl,c,S⟩;rw[Su hk];exact⟨rfl,_,uk h hx ht (c:=c) (o:=x.o) (s:=(au (M.th k),hY (M.th k) M.mem)) S,ho.put ((ho.fok (F:=F) hx ht).fl c) _,gr hx rfl⟩
theorem Aho (Ab:Nat->List GI) (hl:∀i,i∈Ab k->SK 4000 i) (hc:(M.th k).Ab=(Ab k).map GI.DM) (hn:(Ab k).length<=4000) (Wv:(M.th k).out.length<=1000000000):
  Calls prog 25 #[iJ F.mb,iI k] w λe w'=>e= qJ (qG #[])/\Ad7 F gs M (M.step Ab k) E w w':=by
 obtain⟨x,hx,ht⟩:=Agf ho hk;refine(AaK (Ab k) hl w (x.on F) (M.th k) M.mem (gs.map H9.ptr) _ k (Af.Kl h (Sj hx ht)).Ak (ho.fok hx ht) hc hn Wv).mono ?_;rintro e w' ⟨rfl,c,o,S,bU⟩;rw[YR hk];exact⟨rfl,_,uk h hx ht (c:=c) (o:=o) S,ho.put bU _,gr hx rfl⟩
end
def Nh (c n:Int):Int:=(if c<0 then -(c+1) else c) % n
theorem Abt (c:Int) {n:Int} (hn:0<n):0<=Nh c n/\Nh c n<n:=⟨Int.emod_nonneg _ Y,Int.emod_lt_of_pos _ hn⟩
theorem Abr (c n:Int) (hn:0<n) (hc:i64 c) (w:World):Calls prog 18 #[iI c,iI n] w λe w'=>e= qJ (iI (Nh c n))/\w'=w:=by
 unfold i64 at hc;obtain⟨h1,h2⟩:=hc;have IL:(n==0)=I:=by rw[Jh];omega
 by_cases h0:c<0
 .have hq:=D (show -((c+1).tmod n)=Nh c n by unfold Nh;rw[Jd h0,<-Int.neg_tmod,Int.tmod_eq_emod_of_nonneg Y]);exact nax
 .have hq:=D (show c % n=Nh c n by unfold Nh;rw[In h0]);exact nax
def Li (p:Int):Nat×Nat:=((Nh p 1073741824).toNat % 4,if (Nh p 1073741824).toNat / 4 % 4=0 then 0 else 1+(Nh p 1073741824).toNat / 16 % 40)
theorem vr (p:Int):(Li p).1<4/\(Li p).2<=40:=by
 unfold Li;dsimp only;refine⟨Nat.mod_lt _ Do,?_⟩;split<;>omega
theorem Agj (p:Int) (hp:i64 p) (w:World):Calls prog 29 #[iI p] w λe w'=>e= qJ (qG #[iI (Li p).1,iI (Li p).2])/\w'=w:=by
 have Hp:=D (Abr p 1073741824 Do hp w);have LU:=Abt p (n:=1073741824) Do;have hA:Li p=((Nh p 1073741824).toNat % 4,if (Nh p 1073741824).toNat / 4 % 4=0 then 0 else 1+(Nh p 1073741824).toNat / 16 % 40):=rfl;generalize Nh p 1073741824=x at*;obtain⟨n,rfl⟩:∃n:Nat,x=n:=⟨x.toNat,Y⟩;rw[JW] at hA;have m4:(n:Int) % 4=((n % 4:Nat):Int):=rfl;have d4:(n:Int) / 4 % 4=((n / 4 % 4:Nat):Int):=rfl;have d16:(n:Int) / 16 % 40=((n / 16 % 40:Nat):Int):=rfl;have w1:True->wrap64 ((n:Int) / 4)=(n:Int) / 4:=λ_=>IntWalk.wrap64_in _ Y
 have w2:True->wrap64 ((n:Int) / 16)=(n:Int) / 16:=λ_=>IntWalk.wrap64_in _ Y
 have t4:True->((n:Int) / 4).tmod 4=(n:Int) / 4 % 4:=λ_=>rfl
 have t16:True->((n:Int) / 16).tmod 40=(n:Int) / 16 % 40:=λ_=>rfl
 rw[hA];clear hA LU;have M4:=D m4;have Z95:=D d16;by_cases h0:n / 4 % 4=0
 .rw[Jd h0];have Z7:((n:Int) / 4 % 4==0)=V:=by rw[d4,h0];rfl
  clear d4 h0 d16 m4;go_enter func29,ntmps29;go_wp2_with fail;refine Hp.mono ?_;rintro e w1 ⟨rfl,rfl⟩;go_wp2;go_ret2;rw[<-M4.out];exact⟨rfl,rfl⟩
 .rw[In h0];have Z7:((n:Int) / 4 % 4==0)=I:=by rw[d4,Jh];omega
  clear d4 h0 d16 m4;go_enter func29,ntmps29;go_wp2_with fail;refine Hp.mono ?_;rintro e w1 ⟨rfl,rfl⟩;go_wp2;go_ret2;rw[Int.natCast_add,<-M4.out,<-Z95.out];exact⟨rfl,rfl⟩
structure iQ (Ab:Nat->List GI) (T:Nat):Prop where
 ok:∀k,k<T->∀i,i∈Ab k->SK 4000 i
 ln:∀k,k<T->(Ab k).length<=4000
def IB (Ab:Nat->List GI) (M:Am) (N:Nat):Prop:=∀k,k<J M.ts->(M.th k).Ab=(Ab k).map GI.DM/\(M.th k).out.length<=N
theorem IB.put {M:Am} {N' k:Nat} (h:IB Ab M N) (hn:N<=N') {s:C2×List Int} (hc:s.1.Ab=(M.th k).Ab) (ho:J s.1.out<=N'):IB Ab (M.put k s) N':=λj hj=>by
 rw[Sc] at hj;obtain⟨h1,h2⟩:=h j hj;by_cases hk:k<J M.ts
 .have e:(M.put k s).th j=if j=k then s.1 else M.th j:=V6 hk
  rw[e];split
  .rename_i he;subst he;exact⟨hc.trans h1,ho⟩
  .exact⟨h1,Y⟩
 .have e:(M.put k s).ts=M.ts:=List.set_eq_of_length_le Y;have e2:(M.put k s).th j=M.th j:=by unfold Am.th;rw[e]
  rw[e2];exact⟨h1,Y⟩
theorem IB.Ck {M:Am} {k:Nat} (h:IB Ab M N) (hk:k<J M.ts):IB Ab (M.Ck k) N:=by
 rw[Su hk];exact h.put (Jf _) rfl (h k hk).2
theorem IB.step {M:Am} {k:Nat} (h:IB Ab M N) (hk:k<J M.ts):IB Ab (M.step Ab k) (N+1):=by
 rw[YR hk];have K:=wB (Ab k) (M.th k,M.mem);have:=(h k hk).2;exact h.put (JJ _) K.1 (by have:=K.2;dsimp only at this;omega)
theorem T6 (M:Am) (k:Nat):(M.Ck k).ts.length=J M.ts:=by
 unfold Am.Ck;split
 .rfl
 .exact Jp ..
theorem UM {M:Am} {k:Nat} (hk:k<J M.ts):(M.step Ab k).ts.length=J M.ts:=by rw[YR hk,Sc]
namespace Am
def YU (Ab:Nat->List GI) (t:Nat):Nat->Am->Am
 |0,M=>M
 |n+1,M=>YU Ab t n (M.step Ab t)
def IV (Ab:Nat->List GI) (M:Am) (t n:Nat):Am:=YU Ab t n (if n=0 then M.Ck t else M)
end Am
theorem cX {t:Nat} (n:Nat) {M:Am} (hk:t<J M.ts):(Am.YU Ab t n M).ts.length=J M.ts:=by
 induction n generalizing M with
 |zero=>rfl
 |succ n ih=>exact(ih (by rw[UM hk];exact hk)).trans (UM hk)
theorem cW {t:Nat} (n:Nat) {M:Am} {N:Nat} (h:IB Ab M N) (hk:t<J M.ts):IB Ab (Am.YU Ab t n M) (N+n):=by
 induction n generalizing M N with
 |zero=>exact h
 |succ n ih=>
  have:=ih (h.step hk) (by rw[UM hk];exact hk);rw[show N+1+n=N+(n+1) by omega] at this;exact this
theorem xy {t:Nat} {M:Am} (hk:t<J M.ts):(M.IV Ab t n).ts.length=J M.ts:=by
 unfold Am.IV;split
 .rw[cX n (by rw[T6];exact hk),T6]
 .exact cX n hk
theorem xx {t:Nat} {M:Am} (h:IB Ab M N) (hk:t<J M.ts):IB Ab (M.IV Ab t n) (N+n):=by
 unfold Am.IV;split
 .exact cW n (h.Ck hk) (by rw[T6];exact hk)
 .exact cW n h hk
theorem xz (Ab:Nat->List GI) (F:VG) (gs:List H9) (M:Am) (E:List Ob) (w:World) (h:Aq w (MO F gs M E)) (ho:cF gs M) (hC:iQ Ab (J M.ts)) (N:Nat) (hR:IB Ab M N) (t n:Nat) (ht:t<J M.ts) (hN:N+n<=1000000000):
  Calls prog 31 #[iJ F.mb,iI t,iI n] w λe w'=>e= qJ (qG #[])/\Ad7 F gs M (M.IV Ab t n) E w w':=by
 generalize AF:M.IV Ab t n=res;unfold Am.IV at AF;have H:=D h;have Ho:=D ho;have HC:=D hC;have HR:=D hR;have Ht:=D ht;have Hf:=D (AfN F gs M E w h ho t ht);clear h ho hC hR ht;by_cases h0:n=0
 .subst h0;have Hr:=D (show M.Ck t=res from AF);clear AF;go_enter func31,ntmps31;go_wp2_with fail;refine Hf.mono ?_;rintro e w1 ⟨rfl,hm⟩;rw[Hr.out] at hm;have HM:=D hm;clear hm;go_wp2;go_loopw [6] (λi wr=>wr=w1/\i= iI 0) (λ_ _=>0);case atStart=>exact⟨rfl,rfl⟩
  case round=>
   obtain⟨rfl,rfl⟩:=hrel;go_wp2
   go_end0
   exact⟨rfl,HM⟩
 .rw[In h0] at AF;have Hr:=D AF;have Z7:((n:Int)==0)=I:=by rw[Jh];omega
  clear AF h0;go_enter func31,ntmps31;go_wp2;go_loopw [6] (λi wr=>∃(j:Nat) (M':Am) (gs':List H9),i= iI j/\j<=n/\Af w (MO F gs M E) wr (MO F gs' M' E)/\cF gs' M'/\gs'.map H9.ptr=gs.map H9.ptr/\Am.YU Ab t (n-j) M'=res/\IB Ab M' (N+j)/\J M'.ts=J M.ts) (λi _=>n-(intOf i).toNat);case atStart=>exact⟨0,M,gs,rfl,Jo _,Af.refl H,Ho,rfl,Hr,HR,rfl⟩
  case round=>
   obtain⟨j,M',gs',rfl,hjn,hs,bU,he,hr,IG,hlen⟩:=hrel;by_cases hlt:j<n
   .have Cy:(j:Int)<(n:Int):=Y
    have ep:t<J M'.ts:=by rw[hlen];exact Ht.out
    have FZ:=D (Aho F gs' M' E wr hs.Ak bU t ep Ab (HC.ok t Ht) (IG t ep).1 (HC.ln t Ht) (by have:=(IG t ep).2;omega));have Hr1:=D (IG.step ep);have Hl1:=D ((UM (Ab:=Ab) ep).trans hlen);have ID:=D (show Am.YU Ab t (n-(j+1)) (M'.step Ab t)=res by
      rw[<-hr,show n-j=n-(j+1)+1 by omega];rfl)
    have HS:=D hs;have HE:=D he;have Fg:=D hlt;clear hs bU he hr IG hlen ep hlt hjn;go_wp2_with fail;refine FZ.mono ?_;rintro e w2 ⟨rfl,gs2,K8,XK,yB⟩;have tw:=D (HS.trans K8);have HO2:=D XK;have HE2:=D (yB.trans HE);clear K8 XK yB;go_wp2;go_roundw;case rel=>exact⟨j+1,_,gs2,Eq,Fg,tw,HO2,HE2,ID,Hr1,Hl1⟩
    case measure=>have:=Fg.out;simp[intOf];omega
   .have Cy:¬(j:Int)<(n:Int):=Y
    have e:M'=res:=by rw[<-hr,show n-j=0 by omega];rfl
    have HS:=D hs;have HE:=D he;have HO:=D bU;have He:=D e;clear hs he bU e hr IG hlen;go_wp2
    go_end0
    rw[<-He.out];exact⟨rfl,gs',HS,HO,HE⟩
structure VS (w0 w:World) (L:List Ob):Prop where
 mod:Aw [] w0 w
 Ak:Aq w L
 new:∀b,b∈Er L->w0.heap.size<=b
theorem VS.step {w0 w:World} {L L':List Ob} (h:VS w0 w L) (s:Af w L w' L'):VS w0 w' L':=by
 exact⟨h.mod.trans s.mod λb hb=> .inr (h.new b hb),s.Ak,λb hb=>(s.fp b hb).elim (h.new b) λh2=>Qb h.mod.size h2⟩
def iL (w0:World) (pp:Option Addr) (pk:List Int):Prop:=∀i,i<J pk->∃b o,pp=U ⟨b,o,Z⟩/\w0.cell? ⟨b,o+i,Z⟩=U (iI (pk.getD i 0))
def V9:Value->SG
 |.slice p _ c=>⟨p,c⟩
 |_=>⟨Z,0⟩
theorem NZ {w:World} {e:TypeId} {s:Nat} {v:Value} {xs:List Value} (h:w.ownsRow 0 e s v n xs):v= qD (V9 v).p n (V9 v).c:=by
 obtain⟨p,c,rfl,_⟩:=UW h;rfl
def TV.g (x:TV):H9:=⟨x.tb,V9 x.cv,V9 x.rv,V9 x.wv,V9 x.ov⟩
def cd (mb:Nat) (mv tv:Value):VG:=⟨0,⟨Z,0⟩,⟨Z,0⟩,⟨Z,0⟩,⟨Z,0⟩,mb,V9 mv,V9 tv⟩
theorem Ahi {w:World} {x:TV} (h:Tx w x t) (F:VG):(∀o,o∈(x.g.on F).PQ t->o.holds w)/\Er ((x.g.on F).PQ t)=x.fp:=by
 obtain⟨h1,h2,h3,h4,h5⟩:=h;have e2:=NZ h2;have e3:=NZ h3;have e4:=NZ h4;have e5:=NZ h5;obtain⟨tb,cv,rv,wv,ov⟩:=x;dsimp only at*;generalize V9 cv=a at*;generalize V9 rv=b at*;generalize V9 wv=c at*;generalize V9 ov=d at*;subst e2 e3 e4 e5;refine⟨λo ho=>?_,?_⟩
 .simp only[VG.PQ,H9.on,TV.g,Jl,Qr,or_false] at ho;rcases ho with rfl|rfl|rfl|rfl|rfl
  .exact h1
  .exact h2
  .exact h3
  .exact h4
  .exact h5
 .simp[Er,VG.PQ,H9.on,TV.g,V9,TV.fp,Ob.fp]
theorem Aek {w:World} (F:VG) {xs:List TV} {ts:List C2} (h:∀p,p∈xs.zip ts->Tx w p.1 p.2) (hl:J xs=J ts):(∀o,o∈SE F (xs.map TV.g) ts->o.holds w)/\Er (SE F (xs.map TV.g) ts)=xs.flatMap TV.fp:=by
 induction xs generalizing ts with
 |nil=>exact⟨λo ho=>Jk ho (by unfold SE;simp),by unfold SE;rfl⟩
 |cons x xs ih=>
  cases ts with
  |nil=>cases hl
  |cons t ts=>
   obtain⟨a1,a2⟩:=Ahi (h (x,t) (Je ..)) F;obtain⟨b1,b2⟩:=ih (ts:=ts) (λp hp=>h p (Id _ hp)) (by simpa using hl);show(∀o,o∈(x.g.on F).PQ t++SE F (xs.map TV.g) ts->o.holds w)/\Er ((x.g.on F).PQ t++SE F (xs.map TV.g) ts)=_;refine⟨λo ho=>(Jq.1 ho).elim (a1 o) (b1 o),?_⟩;rw[Bo,a2,b2,J2]
theorem AjZ {w:World} {M:Am} (h:Ej w mb mv tv xs M):Aq w (MO (cd mb mv tv) (xs.map TV.g) M [])/\Er (MO (cd mb mv tv) (xs.map TV.g) M [])=BH mb mv tv xs:=by
 obtain⟨h1,h2,h3,h4,h5,h6⟩:=h;obtain⟨t1,t2⟩:=Aek (cd mb mv tv) h5 h4;have em:=NZ h2;have et:=NZ h3;have AmN:(xs.map TV.g).map H9.ptr=xs.map TV.ptr:=by rw[jS];rfl
 have hpl:(xs.map TV.ptr).length=J xs:=JY ..;have hM:(cd mb mv tv).Mj M.mem ((xs.map TV.g).map H9.ptr)=[.Ao mb #[mv,tv] 34,.row mv 2 1 (J M.mem) (BZ M.mem),.row tv 69 1 (J xs) (xs.map TV.ptr)]:=by
  unfold VG.Mj cd;dsimp only;rw[AmN,hpl,<-em,<-et]
 have hfp:Er (MO (cd mb mv tv) (xs.map TV.g) M [])=BH mb mv tv xs:=by
  unfold MO;rw[hM,Bo,Jr,t2];simp[Er,Ob.fp,BH]
 refine⟨⟨λo ho=>?_,by rw[hfp];exact h6⟩,hfp⟩;unfold MO at ho;rw[hM,Jr] at ho;rcases Jq.1 ho with ho|ho
 .simp only[Jl,Qr,or_false] at ho;rcases ho with rfl|rfl|rfl
  .exact h1
  .exact h2
  .exact h3
 .exact t1 o ho
theorem Ae8 {w:World} {M:Am} {E:List Ob} (hE:Aq w E) (h:Ej w' mb mv tv xs M) (k:Aw [] w w') (hn:∀b,b∈BH mb mv tv xs->w.heap.size<=b):Af w E w' (MO (cd mb mv tv) (xs.map TV.g) M E):=by
 obtain⟨o,f⟩:=AjZ h;have e:MO (cd mb mv tv) (xs.map TV.g) M E=MO (cd mb mv tv) (xs.map TV.g) M []++E:=by unfold MO;simp
 have hE':=hE.mod k EQ;refine⟨⟨λx hx=>?_,?_⟩,k.nil,λb hb=>?_⟩
 .rw[e] at hx;exact(Jq.1 hx).elim (o.holds x) (hE'.holds x)
 .rw[e,Bo];refine Jv.2 ⟨o.Lk,hE.Lk,λa ha b hb UG=>?_⟩;subst UG;rw[f] at ha;have:=hn a ha;have:=hE.lt a hb;omega
 .rw[e,Bo] at hb;rcases Jq.1 hb with hb|hb
  .rw[f] at hb;exact .inr (hn b hb)
  .exact .inl hb
def Zy (b n:Nat) (l:List Bool):Ob:=.row (qD (U ⟨b,0,Z⟩) n n) 4 1 n (l.map .bool)
structure AoB (w:World) (pb:Nat) (p:RP):Prop where
 c1:w.cell? ⟨pb,1,Z⟩=U (iI p.cells)
 u:∃ub uc,(0<J p.Ap->∃b,ub=U (⟨b,0,Z⟩:Addr))/\w.cell? ⟨pb,2,Z⟩=U (qD ub (J p.Ap) uc)/\∀t,t<J p.Ap->∃b db dc,ub=U ⟨b,0,Z⟩/\w.cell? ⟨b,t,Z⟩=U (qD db (p.Ap.getD t []).length dc)/\∀c,c<(p.Ap.getD t []).length->∃a,db=U ⟨a,0,Z⟩/\w.cell? ⟨a,c,Z⟩=U (qF ((p.Ap.getD t []).getD c I))
 q:∃qb qc,w.cell? ⟨pb,3,Z⟩=U (qD qb (J p.BX) qc)/\∀t,t<J p.BX->∃a,qb=U ⟨a,0,Z⟩/\w.cell? ⟨a,t,Z⟩=U (qF (p.BX.getD t I))
