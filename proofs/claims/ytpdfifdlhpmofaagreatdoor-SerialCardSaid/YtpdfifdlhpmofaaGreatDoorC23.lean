/- Part 23 of the proof. -/
import Derived.Test.YtpdfifdlhpmofaaGreatDoorC21
import Derived.Test.YtpdfifdlhpmofaaGreatDoorC08
set_option linter.unusedVariables false
set_option linter.unusedSimpArgs false
set_option maxHeartbeats 0
set_option maxRecDepth 99999
namespace Go.Proofs.YtpdfifdlhpmofaaGreatDoor
open Go.RowKit Tryz
open Value renaming slice->m9,string->qA,bool->qB,tuple->qC,agg->qD,pointer->qE
open Ending renaming returned->qF
open Obj renaming cells->qG
open Option renaming none->Z,some->U
open Bool renaming true->V,false->I
open Go.Lib renaming hid->D
open List renaming length->J
variable {p:Prop}
theorem naa (h:p:=by
 have HS:=D (show({T with Au:=9},MM)=res by rw[<-Hres.out,Jb hp]);rcases Int.lt_or_le p 0 with gf|gf
 .go_wp2
  go_end0
  exact⟨rfl,c2,by rw[<-HS.out];exact S.trans ((VG.EB S.Ak 9).trans (VG.Im (VG.EB S.Ak 9).Ak)),by rw[<-HS.out];exact HO.EB 9⟩
 .have N0:¬p<0:=Y
  have Fa:256<=p:=Y
  clear hp gf;go_wp2
  go_end0
  exact⟨rfl,c2,by rw[<-HS.out];exact S.trans ((VG.EB S.Ak 9).trans (VG.Im (VG.EB S.Ak 9).Ak)),by rw[<-HS.out];exact HO.EB 9⟩):p:=h
theorem nab (h:p:=by
 have HS:=D (show({t with Au:=9},mem)=res by rw[<-Hres.out];unfold Tg;dsimp only;rw[Jb hp]);rcases Int.lt_or_le p 0 with gf|gf
 .go_wp2
  go_end0
  exact⟨rfl,g.w,by rw[<-HS.out];exact H.trans (VG.EB H.Ak 9),by rw[<-HS.out];exact Ho.EB 9⟩
 .have N0:¬p<0:=Y
  have Fa:256<=p:=Y
  clear hp gf;go_wp2
  go_end0
  exact⟨rfl,g.w,by rw[<-HS.out];exact H.trans (VG.EB H.Ak 9),by rw[<-HS.out];exact Ho.EB 9⟩):p:=h
theorem nac (h:p:=by
 go_wp2;go_ret2;rw[Hk.out];exact⟨rfl,rfl⟩):p:=h
theorem nap (h:p:=by
 go_enter func42,ntmps42;go_wp2_with fail;refine Hd.mono ?_;rintro e w1 ⟨rfl,rfl⟩;go_wp2;go_ret2;exact⟨rfl,rfl⟩):p:=h
theorem naq (h:p:=by
 have Hk:=D hk;clear hk
 skip
 skip
 unfold cR at*;go_enter func42,ntmps42;go_wp2;go_ret2;rw[Hk.out];exact⟨rfl,rfl⟩):p:=h
theorem naB (h:p:=by
 go_enter func18,ntmps18;go_wp2;go_ret;rw[<-hq.out];exact⟨rfl,rfl⟩):p:=h
variable {i mb g6 AL n N:Nat} {t:CH} {mem:List Int} {ps:List Value} {w6 w':World} {Ab:Nat->List GI} {xs:List TV} {mv tv:Value}
theorem ZZ (x y:Int):bits .and .i64 x y=K6 (· &&& ·) x y:=by
 show IntKind.i64.wrap ((BitVec.ofInt 64 x &&& BitVec.ofInt 64 y).toNat:Int)=wrap64 ((BitVec.ofInt 64 x &&& BitVec.ofInt 64 y).toNat:Int);exact IntWalk.i64_left _
theorem AfO (x y:Int):bits .or .i64 x y=K6 (· ||| ·) x y:=by
 show IntKind.i64.wrap ((BitVec.ofInt 64 x ||| BitVec.ofInt 64 y).toNat:Int)=wrap64 ((BitVec.ofInt 64 x ||| BitVec.ofInt 64 y).toNat:Int);exact IntWalk.i64_left _
theorem Adj (x y:Int):bits .xor .i64 x y=K6 (· ^^^ ·) x y:=by
 show IntKind.i64.wrap ((BitVec.ofInt 64 x ^^^ BitVec.ofInt 64 y).toNat:Int)=wrap64 ((BitVec.ofInt 64 x ^^^ BitVec.ofInt 64 y).toNat:Int);exact IntWalk.i64_left _
theorem Adv (b:Int):∃n:Nat,K6 (· &&& ·) b 63=n/\n<=63:=by
 refine⟨(BitVec.ofInt 64 b &&& BitVec.ofInt 64 63).toNat,?_,?_⟩
 .have h:(BitVec.ofInt 64 b &&& BitVec.ofInt 64 63).toNat<=63:=by rw[BitVec.toNat_and];exact Nat.and_le_right
  show wrap64 ((BitVec.ofInt 64 b &&& BitVec.ofInt 64 63).toNat:Int)=_;grind [EP]
 grind [Nat.and_le_right]
theorem WV (a b:Int) (up:Bool) (w:World):Calls prog 65 #[iI a,iI b,qB up] w λe w'=>e= qF (iI (if up then aK (K6 (· &&& ·) b 63).toNat a else Yx (K6 (· &&& ·) b 63).toNat a))/\w'=w:=by
 obtain⟨n,hn,AnN⟩:=Adv b;rw[hn,show((n:Int)).toNat=n from rfl];have hb:=(ZZ b 63).trans hn;generalize AG:(if up=V then aK n a else Yx n a)=res;have Hb:=D hb;clear hb hn;have Hres:=D AG;clear AG;go_enter func65,ntmps65;go_wp2;rw[Hb.out];clear Hb
 go_loop [0,8,9] (λx i _=>∃(k:Nat) (v:Int),k<=n/\i= iI k/\x= iI v/\(if up=V then aK (n-k) v else Yx (n-k) v)=res) (λ_ i _=>n-(intOf i).toNat)
 grind [Hres.out];case round=>
  obtain⟨k,v,hk,rfl,rfl,hr⟩:=hrel;by_cases hlt:k<n
  .have C4:k<(n:Int):=Y
   cases up with
   |true=>
    have Hr:=D (show aK (n-(k+1)) (wrap64 (v+v))=res by rw[<-hr,Jb rfl,show n-k=(n-(k+1))+1 by omega];rfl);clear hr;go_wp2;grind [Hr.out,intOf]
   |false=>
    have Hr:=D (show Yx (n-(k+1)) (wrap64 ((wrap64 (v-K6 (· &&& ·) v 1)).tdiv 2))=res by rw[<-hr,In Do,show n-k=(n-(k+1))+1 by omega];rfl);clear hr;go_wp2
    go_round
    grind [ZZ,Hr.out];grind [intOf]
  .have C4:¬k<(n:Int):=Y
   have Hr:=D (show v=res by rw[<-hr,show n-k=0 by omega];cases up<;>rfl);clear hr;go_wp2;go_ret;exact⟨fu Hr,rfl⟩
def YU (op:ByteArray) (a b:Int):Value:= qC #[iI ((BO op a b).getD 0),qB (BO op a b).isSome]
theorem Xh (op:ByteArray) (h:op=TB\/op=Y3) (a b:Int) (w:World):Calls prog 64 #[qA op,iI a,iI b] w λe w'=>e= qF (YU op a b)/\w'=w:=by
 have key:∀v,BO op a b=v->YU op a b= qC #[iI (v.getD 0),qB v.isSome]:=λv h=>by unfold YU;rw[h]
 have h0:BO op a b=if b=0 then Z else if b= -1 then U (if op=TB then wrap64 (-a) else 0) else U (if op=TB then wrap64 (a.tdiv b) else a.tmod b):=by
  unfold BO;rcases h with rfl|rfl<;>(rw[In (by decide+kernel),In (by decide+kernel),In (by decide+kernel),Jb AC])
 by_cases hb:b=0
 .subst hb;have Hk:=D (key Z (by rw[h0,Jb rfl]));clear h0 key h;go_enter func64,ntmps64;exact nac
 have tK:(b==0)=I:=AC
 by_cases h1:b= -1
 .subst h1;clear hb tK;rcases h with rfl|rfl
  .have Hk:=D (key (U (wrap64 (-a))) (by rw[h0,In Do,Jb rfl,Jb rfl]));clear h0 key;unfold TB at*;go_enter func64,ntmps64;exact nac
  .have Hk:=D (key (U 0) (by rw[h0,In Do,Jb rfl,In (by decide+kernel)]));clear h0 key;unfold Y3 at*;go_enter func64,ntmps64;exact nac
 have h1':(b== -1)=I:=AC
 rcases h with rfl|rfl
 .have Hk:=D (key (U (wrap64 (a.tdiv b))) (by rw[h0,In hb,In h1,Jb rfl]));clear h0 key;unfold TB at*;go_enter func64,ntmps64;exact nac
 .have Hk:=D (key (U (a.tmod b)) (by rw[h0,In hb,In h1,In (by decide+kernel)]));clear h0 key;unfold Y3 at*;go_enter func64,ntmps64;exact nac
theorem F1 {op:ByteArray} {a b x:Int} (h:BO op a b=U x):YU op a b= qC #[iI x,qB V]:=by unfold YU;rw[h,Qr,QK]
theorem oW (a b:Int):BO US a b=U (aK (K6 (· &&& ·) b 63).toNat a):=by unfold BO;rw[In (by decide+kernel),In (by decide+kernel),In (by decide+kernel),In (by decide+kernel),In (by decide+kernel),In (by decide+kernel),In (by decide+kernel),Jb rfl]
theorem oU (a b:Int):BO Y1 a b=U (Yx (K6 (· &&& ·) b 63).toNat a):=by unfold BO;rw[In (by decide+kernel),In (by decide+kernel),In (by decide+kernel),In (by decide+kernel),In (by decide+kernel),In (by decide+kernel),In (by decide+kernel),In (by decide+kernel),Jb rfl]
theorem oX (a b:Int):BO vO a b=U (wrap64 (a*b)):=by unfold BO;rw[In (by decide+kernel),In (by decide+kernel),Jb rfl]
theorem oT (a b:Int):BO vN a b=U (K6 (· ^^^ ·) a b):=by unfold BO;rw[In (by decide+kernel),In (by decide+kernel),In (by decide+kernel),In (by decide+kernel),In (by decide+kernel),In (by decide+kernel),Jb rfl]
theorem wE (a b:Int) (w:World):Calls prog 42 #[qA KG,iI a,iI b] w λe w'=>e= qF (YU KG a b)/\w'=w:=by
 have Hk:=D (F1 (NT a b));unfold KG at*;go_enter func42,ntmps42;exact nac
theorem wk (a b:Int) (w:World):Calls prog 42 #[qA KF,iI a,iI b] w λe w'=>e= qF (YU KF a b)/\w'=w:=by
 have Hk:=D (F1 (cW a b));unfold KF at*;go_enter func42,ntmps42;exact nac
theorem wA (a b:Int) (w:World):Calls prog 42 #[qA vO,iI a,iI b] w λe w'=>e= qF (YU vO a b)/\w'=w:=by
 have Hk:=D (F1 (oX a b));unfold vO at*;go_enter func42,ntmps42;exact nac
theorem wC (a b:Int) (w:World):Calls prog 42 #[qA TB,iI a,iI b] w λe w'=>e= qF (YU TB a b)/\w'=w:=by
 have Hd:=D (Xh TB EQ a b w);unfold YU at*;generalize (BO TB a b).getD 0=x at*;generalize (BO TB a b).isSome=y at*;unfold TB at*;exact nap
theorem wB (a b:Int) (w:World):Calls prog 42 #[qA Y3,iI a,iI b] w λe w'=>e= qF (YU Y3 a b)/\w'=w:=by
 have Hd:=D (Xh Y3 EQ a b w);unfold YU at*;generalize (BO Y3 a b).getD 0=x at*;generalize (BO Y3 a b).isSome=y at*;unfold Y3 at*;exact nap
theorem wD (a b:Int) (w:World):Calls prog 42 #[qA aS,iI a,iI b] w λe w'=>e= qF (YU aS a b)/\w'=w:=by
 have Hk:=D (F1 (V0 a b));unfold aS at*;go_enter func42,ntmps42;go_wp2;go_ret2;rw[Hk.out,<-ZZ];exact⟨rfl,rfl⟩
theorem AbB (a b:Int) (w:World):Calls prog 42 #[qA nOr,iI a,iI b] w λe w'=>e= qF (YU nOr a b)/\w'=w:=by
 have Hk:=D (F1 (kL a b));unfold nOr at*;go_enter func42,ntmps42;go_wp2;go_ret2;rw[Hk.out,<-AfO];exact⟨rfl,rfl⟩
theorem wj (a b:Int) (w:World):Calls prog 42 #[qA vN,iI a,iI b] w λe w'=>e= qF (YU vN a b)/\w'=w:=by
 have Hk:=D (F1 (oT a b));unfold vN at*;go_enter func42,ntmps42;go_wp2;go_ret2;rw[Hk.out,<-Adj];exact⟨rfl,rfl⟩
theorem wy (a b:Int) (w:World):Calls prog 42 #[qA US,iI a,iI b] w λe w'=>e= qF (YU US a b)/\w'=w:=by
 have Hk:=D (F1 (oW a b));have Hd:=D (WV a b V w);unfold US at*;go_enter func42,ntmps42;go_wp2_with fail;refine Hd.mono ?_;rintro e w1 ⟨rfl,rfl⟩;exact nac
theorem wq (a b:Int) (w:World):Calls prog 42 #[qA Y1,iI a,iI b] w λe w'=>e= qF (YU Y1 a b)/\w'=w:=by
 have Hk:=D (F1 (oU a b));have Hd:=D (WV a b I w);unfold Y1 at*;go_enter func42,ntmps42;go_wp2_with fail;refine Hd.mono ?_;rintro e w1 ⟨rfl,rfl⟩;exact nac
theorem AbC (a b:Int) (w:World):Calls prog 42 #[qA cR,iI a,iI b] w λe w'=>e= qF (YU cR a b)/\w'=w:=by
 have hk:=F1 (P3 a b);by_cases hc:a<b
 .rw[Jb hc] at hk;exact naq
 .rw[In hc] at hk;exact naq
theorem AbD (a b:Int) (w:World):Calls prog 42 #[qA cS,iI a,iI b] w λe w'=>e= qF (YU cS a b)/\w'=w:=by
 have hk:=F1 (NS a b);by_cases hc:a=b
 .rw[Jb hc] at hk;have Hk:=D hk;clear hk;have lG:(a==b)=V:=AC
  clear hc;unfold cS at*;go_enter func42,ntmps42;exact nac
 .rw[In hc] at hk;have Hk:=D hk;clear hk;have lG:(a==b)=I:=AC
  clear hc;unfold cS at*;go_enter func42,ntmps42;exact nac
theorem kK (op:ByteArray) (h:op∈B4) (a b:Int) (w:World):Calls prog 42 #[qA op,iI a,iI b] w λe w'=>e= qF (YU op a b)/\w'=w:=by
 have h':op∈[KG,KF,vO,TB,Y3,aS,nOr,vN,US,Y1,cR,cS]:=h;simp only[Jl,Qm,or_false] at h';rcases h' with rfl|rfl|rfl|rfl|rfl|rfl|rfl|rfl|rfl|rfl|rfl|rfl
 .exact wE a b w
 .exact wk a b w
 .exact wA a b w
 .exact wC a b w
 .exact wB a b w
 .exact wD a b w
 .exact AbB a b w
 .exact wj a b w
 .exact wy a b w
 .exact wq a b w
 .exact AbC a b w
 .exact AbD a b w
structure VG where
 tb:Nat
 c:SG
 r:SG
 w:SG
 o:SG
 mb:Nat
 m:SG
 t:SG
def VG.Uh (g:VG) (t:CH):List Ob:=
 [.Ao g.tb #[m9 g.c.p (J t.Ab) g.c.c,iI t.pc,m9 g.r.p (J t.DA) g.r.c,m9 g.w.p (J t.waits) g.w.c,m9 g.o.p (J t.out) g.o.c,iI t.Au] 68,
  .row (m9 g.c.p (J t.Ab) g.c.c) 101 9 (J t.Ab) (Gv t.Ab),.row (m9 g.r.p (J t.DA) g.r.c) 2 1 (J t.DA) (B9 t.DA),
  .row (m9 g.w.p (J t.waits) g.w.c) 83 2 (J t.waits) (CA t.waits),.row (m9 g.o.p (J t.out) g.o.c) 2 1 (J t.out) (B9 t.out)]
def VG.UY (g:VG) (mem:List Int) (ps:List Value):List Ob:=
 [.Ao g.mb #[m9 g.m.p (J mem) g.m.c,m9 g.t.p (J ps) g.t.c] 34,.row (m9 g.m.p (J mem) g.m.c) 2 1 (J mem) (B9 mem),.row (m9 g.t.p (J ps) g.t.c) 69 1 (J ps) ps]
def VG.Ay (g:VG) (t:CH) (mem:List Int) (ps:List Value) (E:List Ob):List Ob:=g.Uh t++(g.UY mem ps++E)
structure On (g:VG) (t:CH) (mem:List Int) (ps:List Value) (k:Nat):Prop where
 ml:J mem=256
 rl:J t.DA=8
 wl:J t.waits<=4
 wa:∀p,p∈t.waits->0<=p.1/\p.1<256
 pk:ps[k]?=U (iJ g.tb)
 pl:J ps<=3
theorem Ym (v:SO) (hv:v.Dd=V->0<=v.v/\v.v<8) (w:World) (tb rb rc:Nat) (c0 c1 c3 c4 c5:Value) (DA:List Int) (hb:Ci w tb #[c0,c1,m9 (U ⟨rb,0,Z⟩) 8 rc,c3,c4,c5] 68) (hr:∀i,(hi:i<8)->w.cell? ⟨rb,i,Z⟩=U (iI (DA.getD i 0))):
  Calls prog 40 #[iJ tb,v.val] w λe w'=>e= qF (iI (if v.Dd then DA.getD v.v.toNat 0 else v.v))/\Az [] w w':=by
 obtain⟨rg,n⟩:=v;cases rg with
 |true=>
  obtain⟨h0,h8⟩:=hv rfl;have pR:0<=n:=h0;have h8':n<8:=h8;obtain⟨i,rfl⟩:∃i:Nat,n=i:=⟨n.toNat,Y⟩;have hi:i<8:=Y
  have hc:=hr i hi;have VI:=hb.cell 2;have hlt:=hb.lt;have Hr:=D hr;clear hb hv h0 h8 hr;unfold SO.val;go_enter func40,ntmps40;go_wp2;have ha:(w.alloc (qG #[qB V,Value.int IntKind.i64 ↑i] 99)).cell? ⟨w.heap.size,1,Z⟩=U (iI i):=(Ci.new w _ _).cell 1;have AmG:(w.alloc (qG #[qB V,Value.int IntKind.i64 ↑i] 99)).cell? ⟨tb,2,Z⟩=U (m9 (U ⟨rb,0,Z⟩) 8 rc):=AK ((Az.refl [] w).alloc _) AC;have lG:(w.alloc (qG #[qB V,Value.int IntKind.i64 ↑i] 99)).cell? ⟨rb,i,Z⟩=U (iI (DA.getD i 0)):=AK ((Az.refl [] w).alloc _) hc;refine AO (l:=sq [] 0 8) (λW=>W.cell? ⟨w.heap.size,1,Z⟩=U (iI i)/\W.cell? ⟨tb,2,Z⟩=U (m9 (U ⟨rb,0,Z⟩) 8 rc)/\W.cell? ⟨rb,i,Z⟩=U (iI (DA.getD i 0))) 8 ⟨ha,AmG,lG⟩ ?_;refine Fg ?_;refine A7 rfl (λK hK=>?_);go_simp;refine hK _ _ AC ?_;clear hK;simp only[Cr];go_wp2;go_ret;exact⟨rfl,((Az.refl _ _).alloc _).drew⟩
 |false=>
  clear hv hr;unfold SO.val;go_enter func40,ntmps40;go_wp2;go_ret;exact⟨rfl,(Az.refl _ _).alloc _⟩
structure AiW (w:World) (g:VG) (t:CH) (mem:List Int) (ps:List Value) (k tsb mmb rb:Nat):Prop where
 et:g.t.p=U ⟨tsb,0,Z⟩
 em:g.m.p=U ⟨mmb,0,Z⟩
 er:g.r.p=U ⟨rb,0,Z⟩
 m0:w.cell? ⟨g.mb,0,Z⟩=U (m9 (U ⟨mmb,0,Z⟩) 256 g.m.c)
 m1:w.cell? ⟨g.mb,1,Z⟩=U (m9 (U ⟨tsb,0,Z⟩) (J ps) g.t.c)
 tk:w.cell? ⟨tsb,k,Z⟩=U (iJ g.tb)
 b:Ci w g.tb #[m9 g.c.p (J t.Ab) g.c.c,iI t.pc,m9 (U ⟨rb,0,Z⟩) 8 g.r.c,m9 g.w.p (J t.waits) g.w.c,m9 g.o.p (J t.out) g.o.c,iI t.Au] 68
 rg:∀i,i<8->w.cell? ⟨rb,i,Z⟩=U (iI (t.DA.getD i 0))
 mm:∀i,i<256->w.cell? ⟨mmb,i,Z⟩=U (iI (mem.getD i 0))
 kl:k<J ps
theorem iw {l:List Int} (h:i<J l) (h':i<(B9 l).length):(B9 l)[i]= iI (l.getD i 0):=by
 rw[Je,Ja h];simp[B9]
theorem B0 {w:World} {g:VG} {E:List Ob} {k:Nat} (h:Aq w (g.Ay t mem ps E)) (ho:On g t mem ps k):∃tsb mmb rb,AiW w g t mem ps k tsb mmb rb:=by
 have Kf:=(Jn.1 ho.pk).1;obtain⟨tsb,tc,et,_,_,_,_,htc,_⟩:=Av (h.row (i:=7) rfl) Y;obtain⟨mmb,mc,em,_,_,_,_,hmc,_⟩:=Av (h.row (i:=6) rfl) (by rw[ho.ml];decide);obtain⟨rb,rc,er,_,_,_,_,hrc,_⟩:=Av (h.row (i:=2) rfl) (by rw[ho.rl];decide);have hm:=h.Ao (i:=5) rfl;have hb:=h.Ao (i:=0) rfl;have e1:g.t.p=U ⟨tsb,0,Z⟩:=AC
 have e2:g.m.p=U ⟨mmb,0,Z⟩:=AC
 have e3:g.r.p=U ⟨rb,0,Z⟩:=AC
 rw[e1,e2,ho.ml] at hm;rw[e3,ho.rl] at hb;refine⟨tsb,mmb,rb,e1,e2,e3,hm.cell 0,hm.cell 1,?_,hb,λi hi=>?_,λi hi=>?_,Kf⟩<;>grind [B9,On]
theorem AdP {l:List (Int×Int)} (h:i<J l):(CA l)[i*2]?=U (iI (l.getD i (0,0)).1)/\(CA l)[i*2+1]?=U (iI (l.getD i (0,0)).2):=by
 induction l generalizing i with
 |nil=>simp at h
 |cons p r ih=>
  cases i with
  |zero=>exact⟨rfl,rfl⟩
  |succ i=>
   have:=ih (by simpa using h:i<J r);rw[show(i+1)*2=i*2+1+1 by omega];exact this
theorem Ks (l:List (Int×Int)):(CA l).length=J l*2:=by
 induction l<;>grind [CA]
theorem AdN (l:List (Int×Int)) (v a:Int) {k:Nat} (h:k<J l):Al.wv (l.take (k+1)) v a=if (l.getD k (0,0)).1=a then (l.getD k (0,0)).2 else Al.wv (l.take k) v a:=by
 rw[JK h,eN,Je,Ja h];rfl
theorem UE (w:World) (g:VG) (t:CH) (mem:List Int) (ps:List Value) (E:List Ob) (k:Nat) (h:Aq w (g.Ay t mem ps E)) (ho:On g t mem ps k) (a:Nat) (ha:a<256):
  Calls prog 63 #[iJ g.mb,iI k,iI a] w λe w'=>e= qF (iI (Al.wv t.waits (mem.getD a 0) a))/\w'=w:=by
 obtain⟨tsb,mmb,rb,hc⟩:=B0 h ho;have Zt:=hc.m0;have Dg:=hc.m1;have VD:=hc.tk;have gY:=hc.b.cell 3;have Kf:=hc.kl;have hma:=hc.mm a ha;have tj:=ho.wl;have hw:=D (h.row (i:=3) rfl);have Rr:(0:Int)<=(k:Int):=Y
 have GJ:(k:Int)<(J ps:Int):=Y
 have Lp:(0:Int)<=(a:Int):=Y
 have ha1:(a:Int)<(256:Int):=Y
 clear hc h ho;generalize hm:mem.getD a 0=mv at*;go_enter func63,ntmps63;go_wp2
 go_loop [7,8] (λv i=>∃n:Nat,n<=J t.waits/\i= iI n/\v= iI (Al.wv (t.waits.take n) mv a)) (λ_ i=>J t.waits-(intOf i).toNat)
 case atStart=>exact⟨0,AC,rfl,rfl⟩
 case round=>
  obtain⟨n,hn,rfl,rfl⟩:=hrel;by_cases hlt:n<J t.waits
  .obtain⟨wb,wc,ew,_,_,_,_,hwc,_⟩:=Av hw Y;have e1:g.w.p=U ⟨wb,0,Z⟩:=AC
   rw[e1] at gY;obtain⟨q1,q2⟩:=AdP hlt;have O9:=Ks t.waits;have r1:w.cell? ⟨wb,n*2,Z⟩=U (iI (t.waits.getD n (0,0)).1):=by rw[hwc (n*2) Y,<-Ja];exact q1
   have r2:w.cell? ⟨wb,n*2+1,Z⟩=U (iI (t.waits.getD n (0,0)).2):=by rw[hwc (n*2+1) Y,<-Ja];exact q2
   have C4:(n:Int)<(J t.waits:Int):=Y
   have IN:(0:Int)<=(n:Int):=Y
   have HT:=D (AdN t.waits mv a hlt);clear q1 q2 hwc O9 ew e1;generalize (t.waits.getD n (0,0)).1=p1 at*;generalize (t.waits.getD n (0,0)).2=p2 at*;by_cases he:p1=(a:Int)
   .have Bg:(p1==(a:Int))=V:=AC
    have HE:=D he;clear he;go_wp2;grind [HT.out,intOf]
   .have Bg:(p1==(a:Int))=I:=AC
    have HE:=D he;clear he;go_wp2;grind [HT.out,intOf]
  .have C4:¬(n:Int)<(J t.waits:Int):=Y
   have HT:=D (show t.waits.take n=t.waits by rw[J6];omega);go_wp2;go_ret;rw[HT.out];exact⟨rfl,rfl⟩
def aA (t:CH):CH:={t with waits:=t.waits.tail}
def ia (t:CH) (mem:List Int):List Int:=match t.waits with
 |[]=>mem
 |p::_=>mem.set p.1.toNat p.2
def AiS (g:VG) (t:CH) (mem:List Int) (ps:List Value) (E:List Ob) (w:World) (e:Ending) (w':World):Prop:=e= qF (qC #[])/\∃c:SG,Ai w (g.Ay t mem ps E) w' (VG.Ay {g with w:=c} (aA t) (ia t mem) ps E)
theorem AcM {w w1 w2:World} {tb mc wb wc2 mmb a:Nat} {sc sr so st:SG} {E:List Ob} {pv:Int} {r:List (Int×Int)} (hw:t.waits=((a:Int),pv)::r) (ha:a<J mem) (c:SG)
  (S:Ai w ((VG.mk tb sc sr ⟨U ⟨wb,0,Z⟩,wc2⟩ so mb ⟨U ⟨mmb,0,Z⟩,mc⟩ st).Ay t mem ps E) w1 (((VG.mk tb sc sr ⟨U ⟨wb,0,Z⟩,wc2⟩ so mb ⟨U ⟨mmb,0,Z⟩,mc⟩ st).Ay t mem ps E).set 6 (.row (m9 (U ⟨mmb,0,Z⟩) (J mem) mc) 2 1 (J mem) ((B9 mem).set a (iI pv)))))
  (k:Az [wb] w1 w2) (Cp:w2.ownsRow 0 83 2 (m9 c.p (J r) c.c) (J r) (CA r)) (hf:∀b,b∈(m9 c.p (J r) c.c).ownBlock.toList->w1.heap.size<=b):
  Ai w ((VG.mk tb sc sr ⟨U ⟨wb,0,Z⟩,wc2⟩ so mb ⟨U ⟨mmb,0,Z⟩,mc⟩ st).Ay t mem ps E) (w2.setCell ⟨tb,3,Z⟩ (m9 c.p (J r) c.c)) ((VG.mk tb sc sr c so mb ⟨U ⟨mmb,0,Z⟩,mc⟩ st).Ay (aA t) (ia t mem) ps E):=by
 have s1:=S.Ak.swap (i:=3) (o:=.row (m9 (U ⟨wb,0,Z⟩) (J t.waits) wc2) 83 2 (J t.waits) (CA t.waits)) (o':=.row (m9 c.p (J r) c.c) 83 2 (J r) (CA r)) rfl k Cp (by
   show((m9 c.p (J r) c.c).ownBlock.toList).Nodup;cases (m9 c.p (J r) c.c).ownBlock<;>simp) λb hb=> .inr (hf b hb)
 have s2:=s1.Ak.set (i:=0) (b:=tb) (c:= #[m9 sc.p (J t.Ab) sc.c,iI t.pc,m9 sr.p (J t.DA) sr.c,m9 (U ⟨wb,0,Z⟩) (J t.waits) wc2,m9 so.p (J t.out) so.c,iI t.Au]) (T:=68) rfl 3 (m9 c.p (J r) c.c);have s3:=S.trans (s1.trans s2);have e1:aA t={t with waits:=r}:=by grind [aA]
 have e2:ia t mem=mem.set a pv:=by unfold ia;rw[hw];rfl
 have e3:B9 (mem.set a pv)=(B9 mem).set a (iI pv):=by unfold B9;rw[QD]
 have e4:(mem.set a pv).length=J mem:=AC;have e5:(VG.mk tb sc sr c so mb ⟨U ⟨mmb,0,Z⟩,mc⟩ st).Ay {t with waits:=r} (mem.set a pv) ps E=(((((VG.mk tb sc sr ⟨U ⟨wb,0,Z⟩,wc2⟩ so mb ⟨U ⟨mmb,0,Z⟩,mc⟩ st).Ay t mem ps E).set 6 (.row (m9 (U ⟨mmb,0,Z⟩) (J mem) mc) 2 1 (J mem) ((B9 mem).set a (iI pv)))).set 3 (.row (m9 c.p (J r) c.c) 83 2 (J r) (CA r))).set 0 (.Ao tb (#[m9 sc.p (J t.Ab) sc.c,iI t.pc,m9 sr.p (J t.DA) sr.c,m9 (U ⟨wb,0,Z⟩) (J t.waits) wc2,m9 so.p (J t.out) so.c,iI t.Au].setIfInBounds 3 (m9 c.p (J r) c.c)) 68)):=by
  unfold VG.Ay VG.Uh VG.UY<;>grind
 rw[e1,e2,e5];exact s3
theorem V7:(prog.info? 83).map (λi=>(i.zero,i.size,i.bytes))=U (U (qD #[iI 0,iI 0]),2,16):=Fd
theorem dG (w:World) (g:VG) (t:CH) (mem:List Int) (ps:List Value) (E:List Ob) (k:Nat) (h:Aq w (g.Ay t mem ps E)) (ho:On g t mem ps k):
  Calls prog 21 #[iJ g.mb,iI k] w (AiS g t mem ps E w):=by
 obtain⟨tsb,mmb,rb,hc⟩:=B0 h ho;have Zt:=hc.m0;have Dg:=hc.m1;have VD:=hc.tk;have gY:=hc.b.cell 3;have Kf:=hc.kl;have Rr:(0:Int)<=(k:Int):=Y
 have GJ:(k:Int)<(J ps:Int):=Y
 have Mo:¬(k:Int)<0:=Y
 cases hw:t.waits with
 |nil=>
  rw[hw] at gY;have H:=D h;have e1:aA t=t:=by unfold aA;rw[hw];cases t;simp at hw;subst hw;rfl
  have e2:ia t mem=mem:=by unfold ia;rw[hw]
  have E1:=D e1;have E2:=D e2;clear hc h ho e1 e2 hw;go_enter func21,ntmps21;go_wp2
  go_end0
  exact⟨rfl,g.w,by rw[E1.out,E2.out];exact Ai.refl H⟩
 |cons p r=>
  obtain⟨gf,N0⟩:=ho.wa p (by rw[hw];grind);obtain⟨wb,wc,ew,_,_,_,_,hwc,_⟩:=Av (h.row (i:=3) rfl) (by rw[hw];simp);obtain⟨tb,sc,sr,⟨wp,wc2⟩,so,mb,⟨mp,mc⟩,st⟩:=g;have e1:wp=U ⟨wb,0,Z⟩:=by injection ew
  have e2:=hc.em;subst e1 e2;dsimp only at Zt Dg VD gY;obtain⟨pa,pv⟩:=p;obtain⟨a,rfl⟩:∃a:Nat,pa=a:=⟨pa.toNat,Y⟩;have ha:a<256:=Y
  have O9:=Ks t.waits;have r1:w.cell? ⟨wb,0,Z⟩=U (iI a):=by rw[hwc 0 (by rw[O9,hw,Jg];omega),<-Ja,hw];rfl
  have r2:w.cell? ⟨wb,1,Z⟩=U (iI pv):=by rw[hwc 1 (by rw[O9,hw,Jg];omega),<-Ja,hw];rfl
  have hml:=ho.ml;have GG:J r<=3:=by have:=ho.wl;rw[hw] at this;simp only[Jg] at this;omega
  have hma:=hc.mm a ha;have hmf:=(A4 (h.row (i:=6) rfl)).2.1 a;have S1:=D (h.ET (i:=6) (g:=mmb) (n:=J mem) (cap:=mc) (e:=2) (size:=1) (xs:=B9 mem) rfl a (by simp[B9];omega) (iI pv));have Fu:J t.waits=J r+1:=by rw[hw];rfl
  rw[Fu] at gY;have Hw:=D hw;have yE:=D hml;clear hw hwc O9 hml hc h ho Fu gf N0 ew;have ng:¬J ps<=k:=Y
  have yN:((J r:Int)+1==0)=I:=by simp;omega
  have a0:(0:Int)<=(a:Int):=Y
  have a1:(a:Int)<(256:Int):=Y
  go_enter func21,ntmps21;go_upto_region 2 with fail
  refine AO (l:=sq [] 0 19) (λW=>W.cell? ⟨mb,0,Z⟩=U (m9 (U ⟨mmb,0,Z⟩) 256 mc)/\W.cell? ⟨tb,3,Z⟩=U (m9 (U ⟨wb,0,Z⟩) (J r+1) wc2)/\W.cell? ⟨wb,0,Z⟩=U (iI a)/\W.cell? ⟨wb,1,Z⟩=U (iI pv)) 19 ⟨Zt,gY,r1,r2⟩ ?_;refine Fg ?_;refine A7 rfl (λK hK=>?_);go_simp;refine hK _ _ (λh=>Jk h Do) ?_;clear hK;simp only[Cr];have s:=S1.trans (Ai.drew S1.Ak);generalize (w.setCell ⟨mmb,a,Z⟩ (Value.int IntKind.i64 pv)).drew=w1 at s⊢;have S:=D s;have b3:=(s.Ak.Ao (i:=0) rfl).cell 3;have bf:=(s.Ak.Ao (i:=0) rfl).free 3;have hrw:=s.Ak.row (i:=3) rfl;rw[Hw.out] at b3 hrw;have HR:=D hrw;obtain⟨Fu,Mi,Ld⟩:=A4 hrw;have TU:J r+1<=wc2/\wc2<=maxLen:=by
   obtain⟨p',c',e',h1,h2⟩:=Uz hrw;cases e';exact⟨h1,h2⟩
  unfold maxLen at TU;obtain⟨Ant,Agy⟩:=TU;clear s S1 hma Zt Dg VD gY r1 r2 hmf hrw;by_cases hr:r=[]
  .subst hr;go_wp2;all_goals
    go_end0
    exact⟨rfl,⟨Z,0⟩,AcM Hw (by rw[yE.out];exact ha) ⟨Z,0⟩ S (Az.refl _ _) (ownsRow_nil _ _ _ _) (λb hb=>by cases hb)⟩
  .have hr0:=JE.2 hr;have Anw:¬wc2=1:=Y
   obtain⟨i0,hi,Pa⟩:=Jj.1 V7;simp only[Prod.mk.injEq] at Pa;obtain⟨Re,Va,U9⟩:=Pa;have O9:=Ks r;have Agt:∀(j:Nat) (u:Value),(CA r)[j]?=U u->w1.cell? ⟨wb,2+j,Z⟩=U u:=λj u hj=>by
    have hjl:=(Jn.1 hj).1;have gX:=Ks (((a:Int),pv)::r);rw[Jg] at gX;rw[Fu (2+j) Y,<-Ja];grind [CA]
   have Ah0:∀(u:Value),u∈CA r->u.oneCell'=V:=λu hu=>by
    obtain⟨p,_,hp⟩:=JT.1 hu;simp only[Jl,Qm,or_false] at hp;rcases hp with rfl|rfl<;>rfl
   have Acr:∀w2,w1.grownBy w2 Z->w2.cell? ⟨tb,3,Z⟩=U (m9 (U ⟨wb,0,Z⟩) (J r+1) wc2):=λw2 hg=>AK (Az.grown (Az.refl [] w1) hg AC) b3
   clear hr Fu;go_wp2_with (at_builtin;go_loud (refine wpList_append_lies _ rfl _ _ _ rfl 0 83 i0 _ 2 16 underlying66 hi Re Va U9 rfl Y _ 0 [] rfl (ownsRow_nil _ _ _ _) ⟨wb,2,Z⟩ (J r) (wc2-1) (CA r) ?_ O9 ?_ ?_ hr0 (by unfold maxLen;omega) Y AC w1.heap.size rfl ?_))
   .exact Agt
   grind
   .intro g cap w2 Cp hgr FE hlt;have hg:=FE.resolve_left (λh=>by cases h);subst hg;have K2:=D (Az.grown (Az.refl [wb] w1) hgr (λk hk=>by cases hk));have HO:=D Cp;have b4:=Acr w2 hgr;have b5:=((S.Ak.Ao (i:=0) rfl).mod (Az.grown (Az.refl [] w1) hgr (λk hk=>by cases hk)) EQ).free 3;clear Agt Ah0 Cp hgr FE hi Re Va U9 O9 Acr b3;go_wp2
    go_end0
    exact⟨rfl,⟨U ⟨w1.heap.size,0,Z⟩,cap⟩,AcM Hw (by rw[yE.out];exact ha) ⟨U ⟨w1.heap.size,0,Z⟩,cap⟩ S K2 HO (λb hb=>by grind [Value.ownBlock])⟩
theorem On.fl {g:VG} {k:Nat} (h:On g t mem ps k) (c:SG):On {g with w:=c} (aA t) (ia t mem) ps k:=by
 obtain⟨h1,h2,h3,h4,h5,h6⟩:=h;refine⟨?_,h2,?_,λp hp=>h4 p (List.mem_of_mem_tail hp),h5,h6⟩;grind [ia]
 .show J t.waits.tail<=4;rw[QF];omega
def ZQ:Nat->CH×List Int->CH×List Int
 |0,s=>s
 |n+1,s=>ZQ n (aA s.1,ia s.1 s.2)
def AbK (w:World) (tb:Nat):Nat:=match w.cell? ⟨tb,3,Z⟩ with
 |some (.slice _ n _)=>n
 |_=>0
theorem kU {w:World} {g:VG} {E:List Ob} (h:Aq w (g.Ay t mem ps E)):AbK w g.tb=J t.waits:=by
 grind [AbK,(h.Ao (i:=0) rfl).cell 3]
theorem Wm (w:World) (g:VG) (t:CH) (mem:List Int) (ps:List Value) (E:List Ob) (k:Nat) (h:Aq w (g.Ay t mem ps E)) (ho:On g t mem ps k):
  Calls prog 26 #[iJ g.mb,iI k] w (λe w'=>e= qF (qC #[])/\∃c:SG,Ai w (g.Ay t mem ps E) w' (VG.Ay {g with w:=c} (ZQ (J t.waits) (t,mem)).1 (ZQ (J t.waits) (t,mem)).2 ps E)/\On {g with w:=c} (ZQ (J t.waits) (t,mem)).1 (ZQ (J t.waits) (t,mem)).2 ps k):=by
 generalize AG:ZQ (J t.waits) (t,mem)=res;have H:=D h;have Ho:=D ho;have Hres:=D AG;clear h ho AG;go_enter func26,ntmps26;go_wp2;go_loopw [] (λwr=>∃(c:SG) (t':CH) (mem':List Int),Ai w (g.Ay t mem ps E) wr (VG.Ay {g with w:=c} t' mem' ps E)/\On {g with w:=c} t' mem' ps k/\ZQ (J t'.waits) (t',mem')=res) (λwr=>AbK wr g.tb);case atStart=>exact⟨g.w,t,mem,Ai.refl H,Ho,Hres⟩
 case round=>
  obtain⟨c,t',mem',hs,ho,hr⟩:=hrel;obtain⟨tsb,mmb,rb,hc⟩:=B0 hs.Ak ho;have Dg:=hc.m1;have VD:=hc.tk;have gY:=hc.b.cell 3;have Kf:=hc.kl;have Rr:(0:Int)<=(k:Int):=Y
  have GJ:(k:Int)<(J ps:Int):=Y
  have HS:=D hs;have HO:=D ho;clear hc hs ho;by_cases h0:J t'.waits=0
  .rw[h0] at gY;rw[h0] at hr;have Hr:=D hr;clear hr h0;go_wp2
   go_end0
   exact⟨rfl,c,by rw[<-Hr.out];exact HS.out,by rw[<-Hr.out];exact HO.out⟩
  .have hgt:(0:Int)<(J t'.waits:Int):=Y
   obtain⟨m,hm⟩:∃m,J t'.waits=m+1:=⟨J t'.waits-1,Y⟩;have LB:ZQ (aA t').waits.length (aA t',ia t' mem')=res:=by
    rw[<-hr,hm];show ZQ (List.length t'.waits.tail) _=_;rw[QF,hm];rfl
   have Hr:=D LB;have Hm:=D hm;have Hf:=D (dG wr {g with w:=c} t' mem' ps E k HS.Ak HO);clear hr h0 hm LB;go_wp2_with fail;refine Hf.mono ?_;rintro e w2 ⟨rfl,c2,MU⟩;have rV:=D MU;clear MU;go_wp2;go_roundw;case rel=>exact⟨c2,aA t',ia t' mem',HS.trans rV,HO.fl c2,Hr⟩
   case measure=>
    rw[kU (g:={g with w:=c2}) rV.out.Ak,kU (g:={g with w:=c}) HS.out.Ak];show J t'.waits.tail<_;rw[QF,Hm.out];omega
section
variable {w:World} {g:VG} {t:CH} {mem:List Int} {ps:List Value} {E:List Ob} {k:Nat}
theorem VG.DD (h:Aq w (g.Ay t mem ps E)) {rb:Nat} (er:g.r.p=U ⟨rb,0,Z⟩) {d:Nat} (hd:d<J t.DA) (v:Int):Ai w (g.Ay t mem ps E) (w.setCell ⟨rb,d,Z⟩ (iI v)) (g.Ay (t.DD d v) mem ps E):=by
 obtain⟨tb,sc,⟨rp,rc⟩,sw,so,mb,sm,st⟩:=g;dsimp only at er;subst er;have s:=h.ET (i:=2) (g:=rb) (n:=J t.DA) (cap:=rc) (e:=2) (size:=1) (xs:=B9 t.DA) rfl d (by simpa[B9] using hd) (iI v);have e1:B9 (t.DA.set d v)=(B9 t.DA).set d (iI v):=by unfold B9;rw[QD]
 have e2:(t.DA.set d v).length=J t.DA:=AC;have e3:(VG.mk tb sc ⟨U ⟨rb,0,Z⟩,rc⟩ sw so mb sm st).Ay (t.DD d v) mem ps E=((VG.mk tb sc ⟨U ⟨rb,0,Z⟩,rc⟩ sw so mb sm st).Ay t mem ps E).set 2 (.row (m9 (U ⟨rb,0,Z⟩) (J t.DA) rc) 2 1 (J t.DA) ((B9 t.DA).set d (iI v))):=by
  grind [VG.Ay,VG.Uh,CH.DD]
 rw[e3];exact s
theorem VG.EB (h:Aq w (g.Ay t mem ps E)) (s:Int):Ai w (g.Ay t mem ps E) (w.setCell ⟨g.tb,5,Z⟩ (iI s)) (g.Ay {t with Au:=s} mem ps E):=
 h.set (i:=0) (b:=g.tb) (T:=68) rfl 5 (iI s)
theorem VG.CU (h:Aq w (g.Ay t mem ps E)) (n:Nat):Ai w (g.Ay t mem ps E) (w.setCell ⟨g.tb,1,Z⟩ (iI n)) (g.Ay {t with pc:=n} mem ps E):=
 h.set (i:=0) (b:=g.tb) (T:=68) rfl 1 (iI n)
theorem VG.Aau (h:Aq w (g.Ay t mem ps E)) {mmb:Nat} (em:g.m.p=U ⟨mmb,0,Z⟩) {a:Nat} (ha:a<J mem) (v:Int):Ai w (g.Ay t mem ps E) (w.setCell ⟨mmb,a,Z⟩ (iI v)) (g.Ay t (mem.set a v) ps E):=by
 obtain⟨tb,sc,sr,sw,so,mb,⟨mp,mc⟩,st⟩:=g;dsimp only at em;subst em;have s:=h.ET (i:=6) (g:=mmb) (n:=J mem) (cap:=mc) (e:=2) (size:=1) (xs:=B9 mem) rfl a (by simpa[B9] using ha) (iI v);have e1:B9 (mem.set a v)=(B9 mem).set a (iI v):=by unfold B9;rw[QD]
 have e2:(mem.set a v).length=J mem:=AC;have e3:(VG.mk tb sc sr sw so mb ⟨U ⟨mmb,0,Z⟩,mc⟩ st).Ay t (mem.set a v) ps E=((VG.mk tb sc sr sw so mb ⟨U ⟨mmb,0,Z⟩,mc⟩ st).Ay t mem ps E).set 6 (.row (m9 (U ⟨mmb,0,Z⟩) (J mem) mc) 2 1 (J mem) ((B9 mem).set a (iI v))):=by
  unfold VG.Ay VG.Uh VG.UY<;>grind
 rw[e3];exact s
theorem On.DD (h:On g t mem ps k) (d v:Int):On g (t.DD d v) mem ps k:=⟨h.1,by show(t.DA.set _ _).length=8;rw[Ju];exact h.2,h.3,h.4,h.5,h.6⟩
theorem On.EB (h:On g t mem ps k) (s:Int):On g {t with Au:=s} mem ps k:=⟨h.1,h.2,h.3,h.4,h.5,h.6⟩
theorem On.CU (h:On g t mem ps k) (s:Nat):On g {t with pc:=s} mem ps k:=⟨h.1,h.2,h.3,h.4,h.5,h.6⟩
theorem On.Aau (h:On g t mem ps k) (a:Nat) (v:Int):On g t (mem.set a v) ps k:=⟨by rw[Ju];exact h.1,h.2,h.3,h.4,h.5,h.6⟩
theorem Sq (h:Aq w (g.Ay t mem ps E)) {rb:Nat} (er:g.r.p=U ⟨rb,0,Z⟩) (i:Nat):w.frozen? ⟨rb,i,Z⟩=I:=by
 have:=h.row (i:=2) rfl;rw[er] at this;grind [A4 this]
theorem lM (h:Aq w (g.Ay t mem ps E)) {mmb:Nat} (em:g.m.p=U ⟨mmb,0,Z⟩) (i:Nat):w.frozen? ⟨mmb,i,Z⟩=I:=by
 have:=h.row (i:=6) rfl;rw[em] at this;grind [A4 this]
end
def Tg:GI->Int->Int->CH×List Int->CH×List Int
 |.load d _ _,p,_,s=>if p<0\/256<=p then ({s.1 with Au:=9},s.2) else (s.1.DD d (Al.wv s.1.waits (s.2.getD p.toNat 0) p),s.2)
 |.store _ _ _,p,q,s=>if p<0\/256<=p then ({s.1 with Au:=9},s.2) else
  let s:=if J s.1.waits=4 then (aA s.1,ia s.1 s.2) else s
  ({s.1 with waits:=s.1.waits++[(p,q)]},s.2)
 |.KL d _ _ _ c,p,q,s=>
  let z:=ZQ (J s.1.waits) s
  if p<0\/256<=p then ({z.1 with Au:=9},z.2) else
   if Al.wv z.1.waits (z.2.getD p.toNat 0) p=q then (z.1.DD d 1,z.2.set p.toNat (z.1.ev c)) else (z.1.DD d 0,z.2)
 |.Em d _ _ _,p,q,s=>
  let z:=ZQ (J s.1.waits) s
  if p<0\/256<=p then ({z.1 with Au:=9},z.2) else
   (z.1.DD d (Al.wv z.1.waits (z.2.getD p.toNat 0) p),z.2.set p.toNat (wrap64 (Al.wv z.1.waits (z.2.getD p.toNat 0) p+q)))
 |_,_,_,s=>s
def AfY (g:VG) (t:CH) (mem:List Int) (s:CH×List Int) (ps:List Value) (E:List Ob) (k:Nat) (w:World) (e:Ending) (w':World):Prop:=e= qF (qC #[])/\∃c:SG,Ai w (g.Ay t mem ps E) w' (VG.Ay {g with w:=c} s.1 s.2 ps E)/\On {g with w:=c} s.1 s.2 ps k
theorem AbA (w:World) (g:VG) (t:CH) (mem:List Int) (ps:List Value) (E:List Ob) (k:Nat) (h:Aq w (g.Ay t mem ps E)) (ho:On g t mem ps k) (d:Nat) (hd:d<8) (a:Ag) (j p q:Int):
  Calls prog 41 #[iJ g.mb,iI k,(GI.load d a j).DI.val,iI p,iI q] w (AfY g t mem (Tg (.load d a j) p q (t,mem)) ps E k w):=by
 generalize AG:Tg (.load d a j) p q (t,mem)=res;have Hres:=D AG;have s0:=Ai.alloc h (qG (GI.load d a j).DI.cells 101);have bx:=Ci.new w (GI.load d a j).DI.cells 101;have Ho:=D ho;unfold GI.DI Bh.of at*;unfold Bh.val Bh.cells at*;dsimp only at*;clear AG;go_enter func41,ntmps41;go_upto_region 1 with fail
 generalize Fo:w.heap.size=b0 at*;generalize w.alloc _=w1 at*;obtain⟨tsb,mmb,rb,hc⟩:=B0 s0.Ak ho;have Dg:=hc.m1;have VD:=hc.tk;have Kf:=hc.kl;have Rr:(0:Int)<=(k:Int):=Y
 have GJ:(k:Int)<(J ps:Int):=Y
 have kZ:=bx.cell 0;have hx1:=bx.cell 1;have H:=D s0;have HC:=D hc;have HR:=D (hc.rg d hd);have VI:=hc.b.cell 2;have pN:=hc.b.cell 5;have tI:=hc.b.free 5;have pM:(0:Int)<=(d:Int):=Y
 have du:(d:Int)<8:=Y
 have hrf:=Sq s0.Ak hc.er d;clear s0 hc ho bx h Fo;by_cases hp:p<0\/256<=p
 .exact nab
 .obtain⟨n,rfl⟩:∃n:Nat,p=n:=⟨p.toNat,Y⟩;have hn:n<256:=Y
  have N0:¬(n:Int)<0:=Y
  have Fa:¬(256:Int)<=n:=Y
  have Hrd:=D (UE w1 g t mem ps E k H.Ak Ho n hn);have HS:=D (show(t.DD d (Al.wv t.waits (mem.getD n 0) n),mem)=res by rw[<-Hres.out];grind [Tg]);have GG:=D Ho.rl;clear hp;go_wp2_with fail;refine Hrd.mono ?_;rintro e w2 ⟨rfl,rfl⟩;generalize Al.wv t.waits (mem.getD n 0) n=v at*;go_upto_region 10 with fail
  refine AO (l:=sq [] 0 8) (λW=>W.cell? ⟨g.tb,2,Z⟩=U (m9 (U ⟨rb,0,Z⟩) 8 g.r.c)/\W.cell? ⟨b0,1,Z⟩=U (iI d)) 8 ⟨VI,hx1⟩ ?_;refine Fg ?_;refine A7 rfl (λK hK=>?_);have hr0:=HR.out;go_simp;refine hK _ _ AC ?_;clear hK;simp only[Cr];go_wp2
  go_end0
  exact⟨rfl,g.w,by rw[<-HS.out];exact H.trans ((VG.DD H.Ak HC.er (by rw[GG.out];exact hd) v).trans (Ai.drew (VG.DD H.Ak HC.er (by rw[GG.out];exact hd) v).Ak)),by rw[<-HS.out];exact Ho.DD d v⟩
theorem Yg (l:List (Int×Int)) (p q:Int):CA (l++[(p,q)])=CA l++(#[Value.int .i64 p,iI q]:Array Value).toList:=by
 grind [CA]
theorem zr {w:World} {g:VG} {E:List Ob} {p q:Int} (S:Ai w (g.Ay t mem ps E) w6 ((g.Ay t mem ps E).set 3 (.row (m9 (U ⟨g6,0,Z⟩) (J t.waits+1) AL) 83 2 (J t.waits+1) (CA t.waits++(#[Value.int .i64 p,iI q]:Array Value).toList)))):
  Ai w (g.Ay t mem ps E) (w6.setCell ⟨g.tb,3,Z⟩ (m9 (U ⟨g6,0,Z⟩) (J t.waits+1) AL)) (VG.Ay {g with w:=⟨U ⟨g6,0,Z⟩,AL⟩} {t with waits:=t.waits++[(p,q)]} mem ps E):=by
 have s:=S.trans (S.Ak.set (i:=0) (b:=g.tb) (T:=68) rfl 3 (m9 (U ⟨g6,0,Z⟩) (J t.waits+1) AL));have e:VG.Ay {g with w:=⟨U ⟨g6,0,Z⟩,AL⟩} {t with waits:=t.waits++[(p,q)]} mem ps E=(((g.Ay t mem ps E).set 3 (.row (m9 (U ⟨g6,0,Z⟩) (J t.waits+1) AL) 83 2 (J t.waits+1) (CA t.waits++(#[Value.int .i64 p,iI q]:Array Value).toList))).set 0 (.Ao g.tb (#[m9 g.c.p (J t.Ab) g.c.c,iI t.pc,m9 g.r.p (J t.DA) g.r.c,m9 g.w.p (J t.waits) g.w.c,m9 g.o.p (J t.out) g.o.c,iI t.Au].setIfInBounds 3 (m9 (U ⟨g6,0,Z⟩) (J t.waits+1) AL)) 68)):=by
  grind [VG.Ay,VG.Uh,VG.UY,Yg]
 rw[e];exact s
theorem On.push {g:VG} {k:Nat} (h:On g t mem ps k) (hw:J t.waits<=3) {n:Nat} (hn:n<256) (q:Int) (c:SG):On {g with w:=c} {t with waits:=t.waits++[((n:Int),q)]} mem ps k:=
 ⟨h.1,h.2,AC,λx hx=>by
   grind [On],h.5,h.6⟩
theorem we (w:World) (g:VG) (t:CH) (mem:List Int) (ps:List Value) (E:List Ob) (k:Nat) (h:Aq w (g.Ay t mem ps E)) (ho:On g t mem ps k) (a b:Ag) (j:Int) (p q:Int):
  Calls prog 41 #[iJ g.mb,iI k,(GI.store a j b).DI.val,iI p,iI q] w (AfY g t mem (Tg (GI.store a j b) p q (t,mem)) ps E k w):=by
 generalize AG:Tg (GI.store a j b) p q (t,mem)=res;have Hres:=D AG;have s0:=Ai.alloc h (qG (GI.store a j b).DI.cells 101);have bx:=Ci.new w (GI.store a j b).DI.cells 101;have Ho:=D ho;unfold GI.DI Bh.of at*;unfold Bh.val Bh.cells at*;dsimp only at*;clear AG;go_enter func41,ntmps41;go_upto_region 1 with fail
 generalize Fo:w.heap.size=b0 at*;generalize w.alloc _=w1 at*;obtain⟨tsb,mmb,rb,hc⟩:=B0 s0.Ak ho;have Dg:=hc.m1;have VD:=hc.tk;have Kf:=hc.kl;have Rr:(0:Int)<=(k:Int):=Y
 have GJ:(k:Int)<(J ps:Int):=Y
 have kZ:=bx.cell 0;have H:=D s0;have gY:=hc.b.cell 3;have pN:=hc.b.cell 5;have tI:=hc.b.free 5;clear s0 bx h Fo;have tj:=ho.wl;clear hc ho;by_cases hp:p<0\/256<=p
 .exact nab
 .obtain⟨n,rfl⟩:∃n:Nat,p=n:=⟨p.toNat,Y⟩;have hn:n<256:=Y
  have Hn:=D hn;have N0:¬(n:Int)<0:=Y
  have Fa:¬(256:Int)<=n:=Y
  have Hrd:=D (UE w1 g t mem ps E k H.Ak Ho n hn);by_cases h4:J t.waits=4
  .have HS:=D (show({aA t with waits:=(aA t).waits++[((n:Int),q)]},ia t mem)=res by rw[<-Hres.out];unfold Tg;dsimp only;rw[In hp,Jb h4]);have h4':((J t.waits:Int)==4)=V:=by rw[h4];rfl
   have Hf:=D (dG w1 g t mem ps E k H.Ak Ho);have Ld:(aA t).waits.length<=3:=by show J t.waits.tail<=3;rw[QF];omega
   have Hw3:=D Ld;clear hp hn h4 tj;go_wp2_with fail;refine Hrd.mono ?_;rintro e w2 ⟨rfl,rfl⟩;go_wp2_with fail;refine Hf.mono ?_;rintro e w3 ⟨rfl,c2,MU⟩;have S:=D (H.trans MU);have HO:=D (Ho.fl c2);clear MU gY pN tI Dg VD Hrd;obtain⟨tsb2,mmb2,rb2,Wf⟩:=B0 S.Ak HO.out;have kb3:=Wf.b.cell 3;obtain⟨i0,hi,Pa⟩:=Jj.1 V7;simp only[Prod.mk.injEq] at Pa;obtain⟨Re,Va,U9⟩:=Pa;have xq:(aA t).waits.length+1<=maxLen:=by unfold maxLen;omega
   have N6:((aA t).waits.length+1)*16<=140737488355328:=Y
   clear Wf;go_wp2_with (first|(at_builtin;refine Bm 16 _ _ _ i0 _ #[iI (n:Int),iI q] _ S.Ak (k:=3) rfl Eq Eq underlying66 hi Re Va U9 rfl Y Eq Eq rfl (by simp[Value.oneCell']) xq N6 ?_;intro g6 AL w6 Aw _;have q1:=(Aw.Ak.Ao (i:=0) rfl).cell 3;have q2:=(Aw.Ak.Ao (i:=0) rfl).free 3;have q3:=(Aw.Ak.Ao (i:=0) rfl).lt;have uD:=D Aw;clear Aw kb3)|fail)
   go_end0
   exact⟨rfl,⟨U ⟨g6,0,Z⟩,AL⟩,by rw[<-HS.out];exact S.trans (zr uD),by rw[<-HS.out];exact HO.push Hw3 Hn q _⟩
  .have HS:=D (show({t with waits:=t.waits++[((n:Int),q)]},mem)=res by rw[<-Hres.out];unfold Tg;dsimp only;rw[In hp,In h4]);have h4':((J t.waits:Int)==4)=I:=by rw[Jh];omega
   have Ld:J t.waits<=3:=Y
   have Hw3:=D Ld;have S:=H;have HO:=Ho;clear hp hn h4;go_wp2_with fail;refine Hrd.mono ?_;rintro e w2 ⟨rfl,rfl⟩;obtain⟨tsb2,mmb2,rb2,Wf⟩:=B0 S.Ak HO.out;have kb3:=Wf.b.cell 3;obtain⟨i0,hi,Pa⟩:=Jj.1 V7;simp only[Prod.mk.injEq] at Pa;obtain⟨Re,Va,U9⟩:=Pa;have xq:J t.waits+1<=maxLen:=by unfold maxLen;omega
   have N6:(J t.waits+1)*16<=140737488355328:=Y
   clear Wf;go_wp2_with (first|(at_builtin;refine Bm 16 _ _ _ i0 _ #[iI (n:Int),iI q] _ S.Ak (k:=3) rfl Eq Eq underlying66 hi Re Va U9 rfl Y Eq Eq rfl (by simp[Value.oneCell']) xq N6 ?_;intro g6 AL w6 Aw _;have q1:=(Aw.Ak.Ao (i:=0) rfl).cell 3;have q2:=(Aw.Ak.Ao (i:=0) rfl).free 3;have q3:=(Aw.Ak.Ao (i:=0) rfl).lt;have uD:=D Aw;clear Aw kb3)|fail)
   go_end0
   exact⟨rfl,⟨U ⟨g6,0,Z⟩,AL⟩,by rw[<-HS.out];exact S.trans (zr uD),by rw[<-HS.out];grind [HO.push]⟩
theorem VG.box {w:World} {g:VG} {E:List Ob} (h:Aq w (g.Ay t mem ps E)) (o:Obj):Ai w (g.Ay t mem ps E) (w.alloc o) (g.Ay t mem ps (.W2 w.heap.size o::E)):=by
 refine(Ai.new h o).trans (Ai.VU (Ai.new h o).Ak ?_);unfold VG.Ay;rw[Ji,Ji];exact(Qn _ (Qn _ J4))
theorem VG.Im {w:World} {g:VG} {E:List Ob} {x:Ob} (h:Aq w (g.Ay t mem ps (x::E))):Ai w (g.Ay t mem ps (x::E)) w (g.Ay t mem ps E):=by
 have e1:g.Ay t mem ps (x::E)=(g.Uh t++g.UY mem ps)++[x]++E:=by unfold VG.Ay;simp
 have e2:g.Ay t mem ps E=(g.Uh t++g.UY mem ps)++E:=by unfold VG.Ay;simp
 rw[e1] at h⊢;rw[e2];exact Ai.drop h
theorem Aas (t:CH) (d v u:Int):(t.DD d v).DD d u=t.DD d u:=by unfold CH.DD;simp
theorem AkN (t:CH) (c:Ag):(if c.rv.Dd then t.DA.getD c.rv.v.toNat 0 else c.rv.v)=t.ev c:=rfl
theorem Abz (w:World) (g:VG) (t:CH) (mem:List Int) (ps:List Value) (E:List Ob) (k:Nat) (h:Aq w (g.Ay t mem ps E)) (ho:On g t mem ps k) (d:Nat) (hd:d<8) (a b:Ag) (j:Int) (p q:Int):
  Calls prog 41 #[iJ g.mb,iI k,(GI.Em d a j b).DI.val,iI p,iI q] w (AfY g t mem (Tg (GI.Em d a j b) p q (t,mem)) ps E k w):=by
 generalize AG:Tg (GI.Em d a j b) p q (t,mem)=res;have Hres:=D AG;have s0:=VG.box h (qG (GI.Em d a j b).DI.cells 101);have Ho:=D ho;unfold GI.DI Bh.of at*;unfold Bh.val Bh.cells at*;dsimp only at*;clear AG;go_enter func41,ntmps41;go_upto_region 1 with fail
 generalize Fo:w.heap.size=b0 at*;generalize w.alloc _=w1 at*;obtain⟨tsb,mmb,rb,hc⟩:=B0 s0.Ak ho;have Dg:=hc.m1;have VD:=hc.tk;have Kf:=hc.kl;have Rr:(0:Int)<=(k:Int):=Y
 have GJ:(k:Int)<(J ps:Int):=Y
 have kZ:=(s0.Ak.Ao (i:=8) rfl).cell 0;have H:=D s0;clear s0 h Fo;have pM:(0:Int)<=(d:Int):=Y
 have du:(d:Int)<8:=Y
 replace hd:=D hd;have Hd:=D (Wm w1 g t mem ps _ k H.Ak Ho);clear hc ho;go_wp2_with fail;refine Hd.mono ?_;rintro e w2 ⟨rfl,c2,MU,Xr⟩;unfold Tg at Hres;dsimp only at Hres;generalize (ZQ (J t.waits) (t,mem)).1=T at*;generalize (ZQ (J t.waits) (t,mem)).2=MM at*;have S:=D (H.trans MU);have HO:=D Xr;obtain⟨tsb2,mmb2,rb2,Wf⟩:=B0 S.Ak HO.out;have pN:=Wf.b.cell 5;have tI:=Wf.b.free 5;clear Wf MU Xr Hd Dg VD kZ;by_cases hp:p<0\/256<=p
 .exact naa
 .obtain⟨n,rfl⟩:∃n:Nat,p=n:=⟨p.toNat,Y⟩;have hn:n<256:=Y
  have Hn:=D hn;have IN:(0:Int)<=(n:Int):=Y
  have TN:(n:Int)<256:=Y
  have Hrd:=D (UE w2 {g with w:=c2} T MM ps _ k S.Ak HO n hn);replace Hres:=D (Hres.symm.trans (In hp));rw[JW] at Hres;have hx9:=(S.Ak.Ao (i:=8) rfl).cell 0;clear hp hn;go_wp2_with fail;refine Hrd.mono ?_;rintro e w3 ⟨rfl,rfl⟩;generalize Al.wv T.waits (MM.getD n 0) n=v at*;clear pN tI Hrd;obtain⟨tsb,mmb,rb,hc⟩:=B0 S.Ak HO.out;have f2:=hc.b.cell 2;have fm:=hc.m0;have fn:=hc.mm n Hn.out;have fg:=lM S.Ak hc.em n;have Hm:=D hc.em;clear hc;go_upto_region 23 with fail
  have s1:=VG.Aau S.Ak Hm (a:=n) (by rw[HO.out.ml];exact Hn.out) (wrap64 (v+q));have Vf:=HO.Aau n (wrap64 (v+q));clear f2 fm fn fg Hm;generalize aU:w3.setCell ⟨mmb,n,Z⟩ _=w4 at*;clear aU;obtain⟨tsb4,mmb4,rb4,ZA⟩:=B0 s1.Ak Vf;have f24:=ZA.b.cell 2;have fx4:=(s1.Ak.Ao (i:=8) rfl).cell 1;have fr4:=ZA.rg d hd.out;have ff4:=Sq s1.Ak ZA.er d;have He4:=D ZA.er;clear ZA;have S1:=D (S.trans s1);have Uf:=D Vf;clear s1 Vf;go_upto_region 23 with fail
  refine AO (l:=sq [] 0 8) (λW=>W.cell? ⟨g.tb,2,Z⟩=U (m9 (U ⟨rb4,0,Z⟩) 8 g.r.c)/\W.cell? ⟨b0,1,Z⟩=U (iI d)) 8 ⟨f24,fx4⟩ ?_;refine Fg ?_;refine A7 rfl (λK hK=>?_);go_simp;refine hK _ _ (λh=>Jk h Do) ?_;clear hK;simp only[Cr];go_wp2
  go_end0
  have s2:=VG.DD S1.Ak He4 (d:=d) (by rw[Uf.out.rl];exact hd.out) v;have s3:=s2.trans (Ai.drew s2.Ak);exact⟨rfl,c2,by rw[Hres.out];exact(S1.trans s3).trans (VG.Im s3.Ak),by rw[Hres.out];exact Uf.DD d v⟩
theorem AeQ (w:World) (g:VG) (t:CH) (mem:List Int) (ps:List Value) (E:List Ob) (k:Nat) (h:Aq w (g.Ay t mem ps E)) (ho:On g t mem ps k) (d:Nat) (hd:d<8) (a b c:Ag) (hcr:c.Dd=V->0<=c.v/\c.v<8) (j:Int) (p q:Int):
  Calls prog 41 #[iJ g.mb,iI k,(GI.KL d a j b c).DI.val,iI p,iI q] w (AfY g t mem (Tg (GI.KL d a j b c) p q (t,mem)) ps E k w):=by
 generalize AG:Tg (GI.KL d a j b c) p q (t,mem)=res;have Hres:=D AG;have s0:=VG.box h (qG (GI.KL d a j b c).DI.cells 101);have Ho:=D ho;unfold GI.DI Bh.of at*;unfold Bh.val Bh.cells at*;dsimp only at*;clear AG;go_enter func41,ntmps41;go_upto_region 1 with fail
 generalize Fo:w.heap.size=b0 at*;generalize w.alloc _=w1 at*;obtain⟨tsb,mmb,rb,hc⟩:=B0 s0.Ak ho;have Dg:=hc.m1;have VD:=hc.tk;have Kf:=hc.kl;have Rr:(0:Int)<=(k:Int):=Y
 have GJ:(k:Int)<(J ps:Int):=Y
 have kZ:=(s0.Ak.Ao (i:=8) rfl).cell 0;have H:=D s0;clear s0 h Fo;have pM:(0:Int)<=(d:Int):=Y
 have du:(d:Int)<8:=Y
 replace hd:=D hd;have Hd:=D (Wm w1 g t mem ps _ k H.Ak Ho);clear hc ho;go_wp2_with fail;refine Hd.mono ?_;rintro e w2 ⟨rfl,c2,MU,Xr⟩;unfold Tg at Hres;dsimp only at Hres;generalize (ZQ (J t.waits) (t,mem)).1=T at*;generalize (ZQ (J t.waits) (t,mem)).2=MM at*;have S:=D (H.trans MU);have HO:=D Xr;obtain⟨tsb2,mmb2,rb2,Wf⟩:=B0 S.Ak HO.out;have pN:=Wf.b.cell 5;have tI:=Wf.b.free 5;clear Wf MU Xr Hd Dg VD kZ;by_cases hp:p<0\/256<=p
 .exact naa
 .obtain⟨n,rfl⟩:∃n:Nat,p=n:=⟨p.toNat,Y⟩;have hn:n<256:=Y
  have Hn:=D hn;have IN:(0:Int)<=(n:Int):=Y
  have TN:(n:Int)<256:=Y
  have Hrd:=D (UE w2 {g with w:=c2} T MM ps _ k S.Ak HO n hn);replace Hres:=D (Hres.symm.trans (In hp));rw[JW] at Hres;have hx9:=(S.Ak.Ao (i:=8) rfl).cell 0;clear hp hn;go_wp2_with fail;refine Hrd.mono ?_;rintro e w3 ⟨rfl,rfl⟩;generalize Al.wv T.waits (MM.getD n 0) n=v at*;clear pN tI Hrd;obtain⟨tsb,mmb0,rb0,az⟩:=B0 S.Ak HO.out;have hx4:=(S.Ak.Ao (i:=8) rfl).cell 6;have hx5:=(S.Ak.Ao (i:=8) rfl).cell 7;have Hg:=D (Ym c.rv hcr w3 g.tb rb0 g.r.c _ _ _ _ _ T.DA az.b az.rg);rw[AkN] at Hg;generalize VF:T.ev c=cv at*;clear az;go_wp2_with fail;refine Hg.mono ?_;rintro e w4 ⟨rfl,XZ⟩;have s4:=Ai.quiet S.Ak XZ;clear hx4 hx5 hx9 Hg hcr VF XZ;obtain⟨tsb4,mmb4,rb4,ZA⟩:=B0 s4.Ak HO.out;have f24:=ZA.b.cell 2;have fx4:=(s4.Ak.Ao (i:=8) rfl).cell 1;have fr4:=ZA.rg d hd.out;have ff4:=Sq s4.Ak ZA.er d;have He4:=D ZA.er;clear ZA;have S4:=D (S.trans s4);clear s4;go_upto_region 17 with fail
  refine AO (l:=sq [] 0 7) (λW=>W.cell? ⟨g.tb,2,Z⟩=U (m9 (U ⟨rb4,0,Z⟩) 8 g.r.c)/\W.cell? ⟨b0,1,Z⟩=U (iI d)) 7 ⟨f24,fx4⟩ ?_;refine Fg ?_;refine A7 rfl (λK hK=>?_);go_simp;refine hK _ _ (λh=>Jk h Do) ?_;clear hK;simp only[Cr];have s5:=S4.trans (VG.DD S4.Ak He4 (d:=d) (by rw[HO.out.rl];exact hd.out) 0);replace s5:=s5.trans (Ai.drew s5.Ak);have ly:=HO.DD d 0;clear f24 fx4 fr4 ff4;generalize (w4.setCell ⟨rb4,d,Z⟩ (iI 0)).drew=w5 at s5⊢;obtain⟨tsb5,mmb5,rb5,hc5⟩:=B0 s5.Ak ly;have fm5:=hc5.m0;have fn5:=hc5.mm n Hn.out;have fg5:=lM s5.Ak hc5.em n;have Hm5:=D hc5.em;clear hc5;have S5:=D s5;have HO5:=D ly;clear s5 ly;by_cases hq:v=q
  .rw[Jb hq] at Hres;have hq':(v==q)=V:=by simpa using hq
   clear hq;go_upto_region 20 with fail
   have s6:=S5.trans (VG.Aau S5.Ak Hm5 (a:=n) (by rw[HO.out.ml];exact Hn.out) cv);have ho6:=HO5.Aau n cv;clear fm5 fn5 fg5;generalize hw6:w5.setCell ⟨mmb5,n,Z⟩ _=w6 at*;clear hw6;obtain⟨tsb6,mmb6,rb6,lF⟩:=B0 s6.Ak ho6;have f26:=lF.b.cell 2;have fx6:=(s6.Ak.Ao (i:=8) rfl).cell 1;have fr6:=lF.rg d hd.out;have ff6:=Sq s6.Ak lF.er d;have He6:=D lF.er;clear lF;have S6:=D s6;have HO6:=D ho6;clear s6 ho6;go_upto_region 20 with fail
   refine AO (l:=sq [] 0 7) (λW=>W.cell? ⟨g.tb,2,Z⟩=U (m9 (U ⟨rb6,0,Z⟩) 8 g.r.c)/\W.cell? ⟨b0,1,Z⟩=U (iI d)) 7 ⟨f26,fx6⟩ ?_;refine Fg ?_;refine A7 rfl (λK hK=>?_);go_simp;refine hK _ _ (λh=>Jk h Do) ?_;clear hK;simp only[Cr];go_wp2
   go_end0
   have s7:=VG.DD S6.Ak He6 (d:=d) (by rw[HO6.out.rl];exact hd.out) 1;have s8:=s7.trans (Ai.drew s7.Ak);rw[Aas] at s8;have ho8:=HO6.DD d 1;rw[Aas] at ho8;exact⟨rfl,c2,by rw[Hres.out];exact(S6.trans s8).trans (VG.Im s8.Ak),by rw[Hres.out];exact ho8⟩
  .rw[In hq] at Hres;have hq':(v==q)=I:=by rw[Jh];exact hq
   clear hq;go_wp2
   go_end0
   exact⟨rfl,c2,by rw[Hres.out];exact S5.trans (VG.Im S5.Ak),by rw[Hres.out];exact HO5.out⟩
def xY (i:GI) (s:CH×List Int):CH×List Int:=match i with
 |.Y4 d a=>(s.1.DD d (s.1.ev a),s.2)
 |.op n d a b=>match BO n (s.1.ev a) (s.1.ev b) with
  |none=>({s.1 with Au:=1},s.2)
  |some v=>(s.1.DD d v,s.2)
 |.Ma=>ZQ (J s.1.waits) s
 |.out a=>({s.1 with out:=s.1.out++[s.1.ev a]},s.2)
 |.GF q=>({s.1 with pc:=q.toNat},s.2)
 |.jz a q=>if s.1.ev a=0 then ({s.1 with pc:=q.toNat},s.2) else s
 |.CR k=>({s.1 with Au:=k},s.2)
 |.halt=>({s.1 with Au:=10},s.2)
 |.load d a j=>Tg (.load d a j) (wrap64 (s.1.ev a+j)) 0 s
 |.store a j b=>Tg (.store a j b) (wrap64 (s.1.ev a+j)) (s.1.ev b) s
 |.KL d a j b c=>Tg (.KL d a j b c) (wrap64 (s.1.ev a+j)) (s.1.ev b) s
 |.Em d a j b=>Tg (.Em d a j b) (wrap64 (s.1.ev a+j)) (s.1.ev b) s
def iH (Ab:List GI) (s:CH×List Int):CH×List Int:=
 if s.1.Au≠0 then s else match Ab[s.1.pc]? with
  |none=>({s.1 with Au:=10},s.2)
  |some i=>xY i ({s.1 with pc:=s.1.pc+1},s.2)
def Ak3 (g:VG) (t:CH) (mem:List Int) (s:CH×List Int) (ps:List Value) (E:List Ob) (k:Nat) (w:World) (e:Ending) (w':World):Prop:=e= qF (qC #[])/\∃c o:SG,Ai w (g.Ay t mem ps E) w' (VG.Ay {g with w:=c,o:=o} s.1 s.2 ps E)/\On {g with w:=c,o:=o} s.1 s.2 ps k
theorem bu (l:List Bh):(Gv l).length=J l*9:=by
 induction l with
 |nil=>rfl
 |cons p r ih=>
  show(List.flatMap _ (p::r)).length=_;rw[JV,GT];show 9+(Gv r).length=_;rw[ih,Jg];omega
theorem AfF {l:List Bh} {r:Bh} (h:l[n]?=U r) (j:Nat) (hj:j<9):(Gv l)[n*9+j]?=r.cells.toList[j]?:=by
 induction l generalizing n with
 |nil=>simp at h
 |cons p q ih=>
  show(List.flatMap _ (p::q))[_]?=_;rw[JV];have h9:J p.cells.toList=9:=rfl;cases n with
  |zero=>
   have e:p=r:=by simpa using h
   subst e;rw[J5 Y,show 0*9+j=j by omega]
  |succ n=>
   rw[JY Y,show(n+1)*9+j-J p.cells.toList=n*9+j by omega];exact ih (by simpa using h)
theorem rn {w:World} {g:VG} {E:List Ob} (h:Aq w (g.Ay t mem ps E)) {r:Bh} (hr:t.Ab[t.pc]?=U r):∃cb,g.c.p=U ⟨cb,0,Z⟩/\w.rangeAt cb (t.pc*9) r.cells.toList:=by
 have hlt:=(Jn.1 hr).1;obtain⟨cb,cc,ec,_,_,_,_,Xw,_⟩:=Av (h.row (i:=1) rfl) Y;refine⟨cb,by injection ec,λj v hv=>?_⟩;have hj:=(Jn.1 hv).1;have h9:J r.cells.toList=9:=rfl;have hl:=bu t.Ab;have:=AfF hr j Y;rw[Xw (t.pc*9+j) Y,<-Ja,this];exact hv
theorem Ahe {w:World} {g:VG} {E:List Ob} {v:Int} (S:Ai w (g.Ay t mem ps E) w6 ((g.Ay t mem ps E).set 4 (.row (m9 (U ⟨g6,0,Z⟩) (J t.out+1) AL) 2 1 (J t.out+1) (B9 t.out++(#[Value.int .i64 v]:Array Value).toList)))):
  Ai w (g.Ay t mem ps E) (w6.setCell ⟨g.tb,4,Z⟩ (m9 (U ⟨g6,0,Z⟩) (J t.out+1) AL)) (VG.Ay {g with o:=⟨U ⟨g6,0,Z⟩,AL⟩} {t with out:=t.out++[v]} mem ps E):=by
 have s:=S.trans (S.Ak.set (i:=0) (b:=g.tb) (T:=68) rfl 4 (m9 (U ⟨g6,0,Z⟩) (J t.out+1) AL));have e0:B9 (t.out++[v])=B9 t.out++(#[Value.int .i64 v]:Array Value).toList:=by unfold B9;rw[JQ];rfl
 have e:VG.Ay {g with o:=⟨U ⟨g6,0,Z⟩,AL⟩} {t with out:=t.out++[v]} mem ps E=(((g.Ay t mem ps E).set 4 (.row (m9 (U ⟨g6,0,Z⟩) (J t.out+1) AL) 2 1 (J t.out+1) (B9 t.out++(#[Value.int .i64 v]:Array Value).toList))).set 0 (.Ao g.tb (#[m9 g.c.p (J t.Ab) g.c.c,iI t.pc,m9 g.r.p (J t.DA) g.r.c,m9 g.w.p (J t.waits) g.w.c,m9 g.o.p (J t.out) g.o.c,iI t.Au].setIfInBounds 4 (m9 (U ⟨g6,0,Z⟩) (J t.out+1) AL)) 68)):=by
  unfold VG.Ay VG.Uh VG.UY;dsimp only;rw[e0,GT];rfl
 rw[e];exact s
theorem On.Ag7 {g:VG} {k:Nat} (h:On g t mem ps k) (o:List Int) (c:SG):On {g with o:=c} {t with out:=o} mem ps k:=⟨h.1,h.2,h.3,h.4,h.5,h.6⟩
def Aga:List (List UInt8):=[[109,111,118],[111,117,116],[102,101,110,99,101],[106,109,112],[106,122],[116,114,97,112],[104,97,108,116],[108,111,97,100],[115,116,111,114,101],[99,97,115],[120,97,100,100]]
theorem IC {nm:ByteArray} (h:nm∈B4) (i:Nat) (x:List UInt8) (hx:Aga[i]?=U x):(nm.toList==x)=I:=by
 have e:∀x,x∈Aga->∀y,y∈B4->(y.toList==x)=I:=by decide+kernel
 exact e x (JL hx) nm h
theorem vp (i:GI) (h:Sd 4000 i):(i.DI.a.Dd=V->0<=i.DI.a.v/\i.DI.a.v<8)/\(i.DI.b.Dd=V->0<=i.DI.b.v/\i.DI.b.v<8):=by
 have ag:∀a:Ag,D7 a->a.rv.Dd=V->0<=a.rv.v/\a.rv.v<8:=λa ha hr=>by
  unfold D7 at ha;have Mj:a.Dd=V:=hr;rw[Jb Mj] at ha;unfold Oq at ha;have:a.rv.v=a.v:=rfl;omega
 have ze:SO.zero.Dd=V->0<=SO.zero.v/\SO.zero.v<8:=λ_=>Do
 cases i with
 |Y4 d a=>exact⟨ag a h.2,ze⟩
 |op n d a b=>exact⟨ag a h.2.2.1,ag b h.2.2.2⟩
 |load d a k=>exact⟨ag a h.2.1,ze⟩
 |store a k b=>exact⟨ag a h.1,ag b h.2.2⟩
 |KL d a k b c=>exact⟨ag a h.2.1,ag b h.2.2.2.1⟩
 |Em d a k b=>exact⟨ag a h.2.1,ag b h.2.2.2⟩
 |Ma=>exact⟨ze,ze⟩
 |out a=>exact⟨ag a h,ze⟩
 |GF q=>exact⟨ze,ze⟩
 |jz a q=>exact⟨ag a h.1,ze⟩
 |CR k=>exact⟨ze,ze⟩
 |halt=>exact⟨ze,ze⟩
theorem Aab (l:List GI) (hl:∀i,i∈l->Sd 4000 i) (w:World) (g:VG) (t:CH) (mem:List Int) (ps:List Value) (E:List Ob) (k:Nat) (h:Aq w (g.Ay t mem ps E)) (ho:On g t mem ps k) (hc:t.Ab=l.map GI.DI) (hn:J l<=4000) (Ro:J t.out<=1000000000):
  Calls prog 25 #[iJ g.mb,iI k] w (Ak3 g t mem (iH l (t,mem)) ps E k w):=by
 generalize AG:iH l (t,mem)=res;unfold iH at AG;obtain⟨tsb,mmb,rb,hf⟩:=B0 h ho;have Dg:=hf.m1;have VD:=hf.tk;have Kf:=hf.kl;have Rr:(0:Int)<=(k:Int):=Y
 have GJ:(k:Int)<(J ps:Int):=Y
 have Mo:¬(k:Int)<0:=Y
 have ng:¬J ps<=k:=Y
 have hk4:¬(J ps:Int)<=(k:Int):=Y
 have Fo:=hf.b.cell 0;have Is:=hf.b.cell 1;have pN:=hf.b.cell 5;have Afg:=hf.b.free 5;have AcB:=hf.b.free 1;have H:=D h;have HO:=D ho;clear hf h ho;by_cases Aw:t.Au=0;rotate_left
 .have HS:=D (show(t,mem)=res by rw[<-AG,Jb Aw]);have V9:(t.Au==0)=I:=by rw[Jh];exact Aw
  clear Aw AG hc;go_enter func25,ntmps25;go_wp2
  go_end0
  exact⟨rfl,g.w,g.o,by rw[<-HS.out];exact Ai.refl H,by rw[<-HS.out];exact HO.out⟩
 rw[In (by simpa using Aw)] at AG;have V9:(t.Au==0)=V:=by rw[Aw];rfl
 have B8:J t.Ab=J l:=by rw[hc,JZ]
 rw[B8] at Fo;cases hi:l[t.pc]? with
 |none=>
  dsimp only at AG;have HS:=D (show({t with Au:=10},mem)=res by rw[<-AG,hi]);have aZ:J l<=t.pc:=List.getElem?_eq_none_iff.1 hi;have AnZ:(J l:Int)<=(t.pc:Int):=Y
  clear Aw AG hc hi;go_enter func25,ntmps25;go_upto_region 2 with fail
  refine AO (l:=sq [] 0 9) (λW=>W.cell? ⟨g.tb,0,Z⟩=U (m9 g.c.p (J l) g.c.c)/\W.cell? ⟨g.tb,1,Z⟩=U (iI t.pc)) 9 ⟨Fo,Is⟩ ?_;refine Fg ?_;refine A7 rfl (λK hK=>?_);go_simp;refine hK _ _ (λh=>Jk h Do) ?_;clear hK;simp only[Cr];go_wp2
  go_end0
  exact⟨rfl,g.w,g.o,by rw[<-HS.out];exact(Ai.drew H).trans (VG.EB (Ai.drew H).Ak 10),by rw[<-HS.out];exact HO.EB 10⟩
 |some i=>
  dsimp only at AG;have Agq:xY i ({t with pc:=t.pc+1},mem)=res:=by rw[<-AG,hi]
  have hil:t.pc<J l:=(Jn.1 hi).1;have dx:t.Ab[t.pc]?=U i.DI:=by rw[hc,JS,hi];rfl
  obtain⟨cb,ec,hcr⟩:=rn H dx;have xp:=hl i (JL hi);rw[ec] at Fo;have gf:(0:Int)<=(t.pc:Int):=Y
  have N0:(t.pc:Int)<(J l:Int):=Y
  have Fa:¬(J l:Int)<=(t.pc:Int):=Y
  have gV:True->wrap64 ((t.pc:Int)+1)=((t.pc+1:Nat):Int):=λ_=>IntWalk.wrap64_in _ Y
  have Hres:=D Agq;clear Aw AG Agq hc hi hl dx hil ec;generalize hr:i.DI=r at hcr;have OQ:∀j v,r.cells.toList[j]?=U v->w.cell? ⟨cb,t.pc*9+j,Z⟩=U v:=hcr;go_enter func25,ntmps25;go_upto_region 2 with fail
  refine AO (l:=sq [] 0 9) (λW=>W.cell? ⟨g.tb,0,Z⟩=U (m9 (U ⟨cb,0,Z⟩) (J l) g.c.c)/\W.cell? ⟨g.tb,1,Z⟩=U (iI t.pc)) 9 ⟨Fo,Is⟩ ?_;refine Fg ?_;refine A7 rfl (λK hK=>?_);go_simp;refine hK _ _ (λh=>Jk h Do) ?_;clear hK;simp only[Cr];go_upto_region 4 with fail
  refine AO (l:=sq [10] 0 11) (λW=>W.cell? ⟨g.tb,0,Z⟩=U (m9 (U ⟨cb,0,Z⟩) (J l) g.c.c)/\W.cell? ⟨g.tb,1,Z⟩=U (iI t.pc)/\W.cell? ⟨cb,t.pc*9,Z⟩=U (qA r.M9)/\W.cell? ⟨cb,t.pc*9+1,Z⟩=U (iI r.d)/\W.cell? ⟨cb,t.pc*9+2,Z⟩=U (qB r.a.Dd)/\W.cell? ⟨cb,t.pc*9+3,Z⟩=U (iI r.a.v)/\W.cell? ⟨cb,t.pc*9+4,Z⟩=U (qB r.b.Dd)/\W.cell? ⟨cb,t.pc*9+5,Z⟩=U (iI r.b.v)/\W.cell? ⟨cb,t.pc*9+6,Z⟩=U (qB r.c.Dd)/\W.cell? ⟨cb,t.pc*9+7,Z⟩=U (iI r.c.v)/\W.cell? ⟨cb,t.pc*9+8,Z⟩=U (iI r.k)) 11 ⟨Fo,Is,OQ 0 _ rfl,OQ 1 _ rfl,OQ 2 _ rfl,OQ 3 _ rfl,OQ 4 _ rfl,OQ 5 _ rfl,OQ 6 _ rfl,OQ 7 _ rfl,OQ 8 _ rfl⟩ ?_;refine Fg ?_;refine A7 rfl (λK hK=>?_);go_simp;have sb0:=VG.box H (qG (Bh.of ⟨#[]⟩).cells 101);have m0:Az [] w (w.alloc (qG (Bh.of ⟨#[]⟩).cells 101)).drew.drew:=(((Az.refl _ _).alloc _).drew).drew;refine hK _ _ (λ_=>⟨AK m0 Fo,AK m0 Is,AK m0 (OQ 0 _ rfl),AK m0 (OQ 1 _ rfl),AK m0 (OQ 2 _ rfl),AK m0 (OQ 3 _ rfl),AK m0 (OQ 4 _ rfl),AK m0 (OQ 5 _ rfl),AK m0 (OQ 6 _ rfl),AK m0 (OQ 7 _ rfl),AK m0 (OQ 8 _ rfl)⟩) ?_;clear hK m0 sb0;refine A7 rfl (λK hK=>?_);go_simp;refine hK _ _ (λh=>Jk h Do) ?_;clear hK;simp only[Cr];have sb:=VG.box H (qG r.cells 101);replace sb:=(sb.trans (Ai.drew sb.Ak)).trans (Ai.drew (Ai.drew sb.Ak).Ak);clear Dg VD Fo Is pN Afg AcB hcr OQ gf N0 Fa Rr GJ Mo ng hk4 V9 Kf;unfold Bh.cells at sb;generalize w.heap.size=b0 at*;generalize (w.alloc _).drew.drew=w1 at sb⊢;obtain⟨tsb1,mmb1,rb1,TP⟩:=B0 sb.Ak HO.out;have Is:=TP.b.cell 1;have AcB:=TP.b.free 1;have s5:Ai w1 (g.Ay t mem ps _) (w1.setCell ⟨g.tb,1,Z⟩ (iI ((t.pc:Int)+1))) (g.Ay {t with pc:=t.pc+1} mem ps _):=VG.CU sb.Ak (t.pc+1);have HT:=D (sb.trans s5);have Uf:=D (HO.CU (t.pc+1));have AnH:({t with pc:=t.pc+1}:CH).out.length<=1000000000:=Ro;clear TP s5 sb Ro HO;go_upto_region 6 with fail
  generalize w1.setCell ⟨g.tb,1,Z⟩ _=w2 at HT⊢;generalize ({t with pc:=t.pc+1}:CH)=t1 at*;obtain⟨tsb2,mmb2,rb2,Zx⟩:=B0 HT.Ak Uf.out;have hx2:=(HT.Ak.Ao (i:=8) rfl).cell 2;have hx3:=(HT.Ak.Ao (i:=8) rfl).cell 3;obtain⟨hra,lq⟩:=vp i xp;rw[hr] at hra lq;have Hg:=D (Ym r.a hra w2 g.tb rb2 g.r.c _ _ _ _ _ t1.DA Zx.b Zx.rg);generalize ZB:(if r.a.Dd then t1.DA.getD r.a.v.toNat 0 else r.a.v)=av at*;have yZ:=D ZB;have Hrb:=D lq;clear Zx ZB hra lq Is AcB;go_wp2_with fail;refine Hg.mono ?_;rintro e w3 ⟨rfl,gW⟩;have HT3:=D (HT.trans (Ai.quiet HT.Ak gW));clear Hg hx2 hx3 gW HT;obtain⟨tsb2,mmb2,rb2,Zx⟩:=B0 HT3.Ak Uf.out;have hx4:=(HT3.Ak.Ao (i:=8) rfl).cell 4;have hx5:=(HT3.Ak.Ao (i:=8) rfl).cell 5;have Hg:=D (Ym r.b Hrb w3 g.tb rb2 g.r.c _ _ _ _ _ t1.DA Zx.b Zx.rg);generalize hbv:(if r.b.Dd then t1.DA.getD r.b.v.toNat 0 else r.b.v)=bv at*;have Hbv:=D hbv;clear Zx hbv;go_wp2_with fail;refine Hg.mono ?_;rintro e w4 ⟨rfl,XZ⟩;have S:=D (HT3.trans (Ai.quiet HT3.Ak XZ));clear Hg hx4 hx5 XZ HT3 Hrb;have kZ:=(S.Ak.Ao (i:=8) rfl).cell 0;have Hr:=D hr;clear hr H gV B8 hn;cases i with
  |halt=>
   have Mj:=Hr.out;unfold GI.DI Bh.of at Mj;subst Mj;dsimp only at*;obtain⟨tsb5,mmb5,rb5,Td⟩:=B0 S.Ak Uf.out;have pN:=Td.b.cell 5;have Afg:=Td.b.free 5;clear Td;go_wp2
   go_end0
   have s:=VG.EB S.Ak 10;exact⟨rfl,g.w,g.o,by rw[<-Hres.out];exact(S.trans s).trans (VG.Im s.Ak),by rw[<-Hres.out];exact Uf.EB 10⟩
  |CR q=>
   have Mj:=Hr.out;unfold GI.DI Bh.of at Mj;subst Mj;dsimp only at*;obtain⟨tsb5,mmb5,rb5,Td⟩:=B0 S.Ak Uf.out;have pN:=Td.b.cell 5;have Afg:=Td.b.free 5;have hx8:=(S.Ak.Ao (i:=8) rfl).cell 8;clear Td;go_wp2
   go_end0
   have s:=VG.EB S.Ak q;exact⟨rfl,g.w,g.o,by rw[<-Hres.out];exact(S.trans s).trans (VG.Im s.Ak),by rw[<-Hres.out];exact Uf.EB q⟩
  |GF q=>
   have Mj:=Hr.out;unfold GI.DI Bh.of at Mj;subst Mj;dsimp only at*;obtain⟨tsb5,mmb5,rb5,Td⟩:=B0 S.Ak Uf.out;have Is:=Td.b.cell 1;have AcB:=Td.b.free 1;have hx8:=(S.Ak.Ao (i:=8) rfl).cell 8;clear Td;obtain⟨n,rfl⟩:∃n:Nat,q=n:=⟨q.toNat,by have:=xp.1;omega⟩;clear xp;go_wp2
   go_end0
   have s:=VG.CU S.Ak n;exact⟨rfl,g.w,g.o,by rw[<-Hres.out];exact(S.trans s).trans (VG.Im s.Ak),by rw[<-Hres.out];exact Uf.CU n⟩
  |jz a q=>
   have Mj:=Hr.out;unfold GI.DI Bh.of at Mj;subst Mj;dsimp only at*;obtain⟨tsb5,mmb5,rb5,Td⟩:=B0 S.Ak Uf.out;have Is:=Td.b.cell 1;have AcB:=Td.b.free 1;have hx8:=(S.Ak.Ao (i:=8) rfl).cell 8;clear Td;obtain⟨n,rfl⟩:∃n:Nat,q=n:=⟨q.toNat,by have:=xp.2.1;omega⟩;clear xp;by_cases h0:av=0
   .have HR:=D (show({t1 with pc:=n},mem)=res by rw[<-Hres.out];exact(Jb (yZ.trans h0)).symm);have pR:(av==0)=V:=by simpa using h0
    clear h0;go_wp2
    go_end0
    have s:=VG.CU S.Ak n;exact⟨rfl,g.w,g.o,by rw[<-HR.out];exact(S.trans s).trans (VG.Im s.Ak),by rw[<-HR.out];exact Uf.CU n⟩
   .have HR:=D (show(t1,mem)=res by rw[<-Hres.out];exact(In (λe=>h0 (yZ.symm.trans e))).symm);have pR:(av==0)=I:=by rw[Jh];exact h0
    clear h0;go_wp2
    go_end0
    exact⟨rfl,g.w,g.o,by rw[<-HR.out];exact S.trans (VG.Im S.Ak),by rw[<-HR.out];exact Uf.out⟩
  |Ma=>exact xp.elim
  |Y4 d a=>
   have Mj:=Hr.out;unfold GI.DI Bh.of at Mj;subst Mj;dsimp only at*;obtain⟨hd,_⟩:=xp;obtain⟨n,rfl⟩:∃n:Nat,d=n:=⟨d.toNat,by have:=hd.1;omega⟩;have xv:n<8:=by have:=hd.2;omega
   have pM:(0:Int)<=(n:Int):=Y
   have du:(n:Int)<8:=Y
   clear hd;have HR:=D (show(t1.DD n av,mem)=res by rw[<-Hres.out,<-yZ.out];rfl);obtain⟨tsb5,mmb5,rb5,Td⟩:=B0 S.Ak Uf.out;have VI:=Td.b.cell 2;have An6:=Td.b.free 2;have hx1:=(S.Ak.Ao (i:=8) rfl).cell 1;have hr0:=Td.rg n xv;have hrf:=Sq S.Ak Td.er n;have He:=D Td.er;have Hd8:=D xv;clear Td xv;go_upto_region 14 with fail
   refine AO (l:=sq [] 0 8) (λW=>W.cell? ⟨g.tb,2,Z⟩=U (m9 (U ⟨rb5,0,Z⟩) 8 g.r.c)/\W.cell? ⟨b0,1,Z⟩=U (iI n)) 8 ⟨VI,hx1⟩ ?_;refine Fg ?_;refine A7 rfl (λK hK=>?_);go_simp;refine hK _ _ (λh=>Jk h Do) ?_;clear hK;simp only[Cr];go_wp2
   go_end0
   have s:=VG.DD S.Ak He (d:=n) (by rw[Uf.out.rl];exact Hd8.out) av;replace s:=s.trans (Ai.drew s.Ak);exact⟨rfl,g.w,g.o,by rw[<-HR.out];exact(S.trans s).trans (VG.Im s.Ak),by rw[<-HR.out];exact Uf.DD n av⟩
  |out a=>
   have Mj:=Hr.out;unfold GI.DI Bh.of at Mj;subst Mj;dsimp only at*;obtain⟨tsb5,mmb5,rb5,Td⟩:=B0 S.Ak Uf.out;have hb4:=Td.b.cell 4;have AmE:=Td.b.free 4;clear Td;have HR:=D (show({t1 with out:=t1.out++[av]},mem)=res by rw[<-Hres.out,<-yZ.out];rfl);obtain⟨i0,hi,Pa⟩:=Jj.1 Rc;simp only[Prod.mk.injEq] at Pa;obtain⟨Re,Va,U9⟩:=Pa;have xq:J t1.out+1<=maxLen:=by unfold maxLen;omega
   have N6:(J t1.out+1)*8<=140737488355328:=Y
   go_wp2_with (first|(at_builtin;refine Bm 8 _ _ _ i0 _ #[iI av] _ S.Ak (k:=4) rfl Eq Eq underlying31 hi Re Va U9 rfl Y Eq Eq rfl (by simp[Value.oneCell']) xq N6 ?_;intro g6 AL w6 Aw _;have q1:=(Aw.Ak.Ao (i:=0) rfl).cell 4;have q2:=(Aw.Ak.Ao (i:=0) rfl).free 4;have q3:=(Aw.Ak.Ao (i:=0) rfl).lt;have uD:=D Aw;clear Aw hb4 AmE)|fail)
   go_end0
   have s:=Ahe uD.out;exact⟨rfl,g.w,⟨U ⟨g6,0,Z⟩,AL⟩,by rw[<-HR.out];exact(S.trans s).trans (VG.Im s.Ak),by rw[<-HR.out];exact Uf.Ag7 _ _⟩
  |load d a j=>
   have Mj:=Hr.out;unfold GI.DI Bh.of at Mj;subst Mj;dsimp only at*;obtain⟨hd,_⟩:=xp;obtain⟨n,rfl⟩:∃n:Nat,d=n:=⟨d.toNat,by have:=hd.1;omega⟩;have xv:n<8:=by have:=hd.2;omega
   clear hd;have HR:=D (show Tg (.load n a j) (wrap64 (av+j)) bv (t1,mem)=res by rw[<-Hres.out,<-yZ.out];rfl);have Hm:=D (AbA w4 g t1 mem ps _ k S.Ak Uf n xv a j (wrap64 (av+j)) bv);unfold GI.DI Bh.of Bh.val Bh.cells at Hm;dsimp only at Hm;have hx:=(S.Ak.Ao (i:=8) rfl).cell;go_wp2_with fail;refine Hm.mono ?_;rintro e w5 ⟨rfl,c5,gT,ly⟩;have Ue:=D gT;have HO5:=D ly;clear gT ly;go_wp2
   go_end0
   exact⟨rfl,c5,g.o,by rw[<-HR.out];exact(S.trans Ue).trans (VG.Im Ue.Ak),by rw[<-HR.out];exact HO5.out⟩
  |store a j b=>
   have Mj:=Hr.out;unfold GI.DI Bh.of at Mj;subst Mj;dsimp only at*;have HR:=D (show Tg (.store a j b) (wrap64 (av+j)) bv (t1,mem)=res by rw[<-Hres.out,<-yZ.out,<-Hbv.out];rfl);have Hm:=D (we w4 g t1 mem ps _ k S.Ak Uf a b j (wrap64 (av+j)) bv);unfold GI.DI Bh.of Bh.val Bh.cells at Hm;dsimp only at Hm;have hx:=(S.Ak.Ao (i:=8) rfl).cell;go_wp2_with fail;refine Hm.mono ?_;rintro e w5 ⟨rfl,c5,gT,ly⟩;have Ue:=D gT;have HO5:=D ly;clear gT ly;go_wp2
   go_end0
   exact⟨rfl,c5,g.o,by rw[<-HR.out];exact(S.trans Ue).trans (VG.Im Ue.Ak),by rw[<-HR.out];exact HO5.out⟩
  |KL d a j b c=>
   have Mj:=Hr.out;unfold GI.DI Bh.of at Mj;subst Mj;dsimp only at*;obtain⟨hd,_,_,_,hoc⟩:=xp;have Ama:c.Dd=V->0<=c.v/\c.v<8:=λhr=>by
    unfold D7 at hoc;rw[Jb hr] at hoc;unfold Oq at hoc;omega
   obtain⟨n,rfl⟩:∃n:Nat,d=n:=⟨d.toNat,by have:=hd.1;omega⟩;have xv:n<8:=by have:=hd.2;omega
   clear hd;have HR:=D (show Tg (.KL n a j b c) (wrap64 (av+j)) bv (t1,mem)=res by rw[<-Hres.out,<-yZ.out,<-Hbv.out];rfl);have Hm:=D (AeQ w4 g t1 mem ps _ k S.Ak Uf n xv a b c Ama j (wrap64 (av+j)) bv);unfold GI.DI Bh.of Bh.val Bh.cells at Hm;dsimp only at Hm;have hx:=(S.Ak.Ao (i:=8) rfl).cell;go_wp2_with fail;refine Hm.mono ?_;rintro e w5 ⟨rfl,c5,gT,ly⟩;have Ue:=D gT;have HO5:=D ly;clear gT ly;go_wp2
   go_end0
   exact⟨rfl,c5,g.o,by rw[<-HR.out];exact(S.trans Ue).trans (VG.Im Ue.Ak),by rw[<-HR.out];exact HO5.out⟩
  |Em d a j b=>
   have Mj:=Hr.out;unfold GI.DI Bh.of at Mj;subst Mj;dsimp only at*;obtain⟨hd,_⟩:=xp;obtain⟨n,rfl⟩:∃n:Nat,d=n:=⟨d.toNat,by have:=hd.1;omega⟩;have xv:n<8:=by have:=hd.2;omega
   clear hd;have HR:=D (show Tg (.Em n a j b) (wrap64 (av+j)) bv (t1,mem)=res by rw[<-Hres.out,<-yZ.out,<-Hbv.out];rfl);have Hm:=D (Abz w4 g t1 mem ps _ k S.Ak Uf n xv a b j (wrap64 (av+j)) bv);unfold GI.DI Bh.of Bh.val Bh.cells at Hm;dsimp only at Hm;have hx:=(S.Ak.Ao (i:=8) rfl).cell;go_wp2_with fail;refine Hm.mono ?_;rintro e w5 ⟨rfl,c5,gT,ly⟩;have Ue:=D gT;have HO5:=D ly;clear gT ly;go_wp2
   go_end0
   exact⟨rfl,c5,g.o,by rw[<-HR.out];exact(S.trans Ue).trans (VG.Im Ue.Ak),by rw[<-HR.out];exact HO5.out⟩
  |op nm d a b=>
   have Mj:=Hr.out;unfold GI.DI Bh.of at Mj;subst Mj;dsimp only at*;obtain⟨Zs,hd,_⟩:=xp;have hw0:=IC Zs 0 _ rfl;have Fu:=IC Zs 1 _ rfl;have Mi:=IC Zs 2 _ rfl;have Ld:=IC Zs 3 _ rfl;have aU:=IC Zs 4 _ rfl;have au:=IC Zs 5 _ rfl;have hw6:=IC Zs 6 _ rfl;have hw7:=IC Zs 7 _ rfl;have hw8:=IC Zs 8 _ rfl;have hw9:=IC Zs 9 _ rfl;have Anx:=IC Zs 10 _ rfl;obtain⟨n,rfl⟩:∃n:Nat,d=n:=⟨d.toNat,by have:=hd.1;omega⟩;have xv:n<8:=by have:=hd.2;omega
   have pM:(0:Int)<=(n:Int):=Y
   have du:(n:Int)<8:=Y
   clear hd;have Hmd:=D (kK nm Zs av bv w4);clear Zs;have Afi:=Hres.out;have Am8:=D (show YU nm av bv= qC #[iI ((BO nm av bv).getD 0),qB (BO nm av bv).isSome] from rfl);go_wp2_with fail;refine Hmd.mono ?_;rintro e w5 ⟨rfl,rfl⟩;rw[Am8.out];cases aw:BO nm av bv with
   |none=>
    have HR:=D (show({t1 with Au:=1},mem)=res by
      rw[<-Afi];unfold xY;dsimp only;rw[show t1.ev a=av from yZ.out,show t1.ev b=bv from Hbv.out,aw])
    have pN:=(S.Ak.Ao (i:=0) rfl).cell 5;have Afg:=(S.Ak.Ao (i:=0) rfl).free 5;clear aw Afi;simp only[QW,Qt];go_wp2
    go_end0
    have s:=VG.EB S.Ak 1;exact⟨rfl,g.w,g.o,by rw[<-HR.out];exact(S.trans s).trans (VG.Im s.Ak),by rw[<-HR.out];exact Uf.EB 1⟩
   |some v=>
    have HR:=D (show(t1.DD n v,mem)=res by
      rw[<-Afi];unfold xY;dsimp only;rw[show t1.ev a=av from yZ.out,show t1.ev b=bv from Hbv.out,aw])
    clear aw Afi;simp only[Qr,QK];obtain⟨tsb5,mmb5,rb5,Td⟩:=B0 S.Ak Uf.out;have VI:=Td.b.cell 2;have hx1:=(S.Ak.Ao (i:=8) rfl).cell 1;have hr0:=Td.rg n xv;have hrf:=Sq S.Ak Td.er n;have He:=D Td.er;have Hd8:=D xv;clear Td xv;go_upto_region 12 with fail
    refine AO (l:=sq [] 0 8) (λW=>W.cell? ⟨g.tb,2,Z⟩=U (m9 (U ⟨rb5,0,Z⟩) 8 g.r.c)/\W.cell? ⟨b0,1,Z⟩=U (iI n)) 8 ⟨VI,hx1⟩ ?_;refine Fg ?_;refine A7 rfl (λK hK=>?_);go_simp;refine hK _ _ (λh=>Jk h Do) ?_;clear hK;simp only[Cr];go_wp2
    go_end0
    have s:=VG.DD S.Ak He (d:=n) (by rw[Uf.out.rl];exact Hd8.out) v;replace s:=s.trans (Ai.drew s.Ak);exact⟨rfl,g.w,g.o,by rw[<-HR.out];exact(S.trans s).trans (VG.Im s.Ak),by rw[<-HR.out];exact Uf.DD n v⟩
def I2 (s:CH×List Int):CH×List Int:=ZQ (J s.1.waits) s
def alI (l:List GI):Nat->CH×List Int->CH×List Int
 |0,s=>s
 |n+1,s=>if s.1.Au=0 then alI l n (I2 (iH l s)) else s
theorem Wn (n:Nat) (s:CH×List Int):(ZQ n s).1.Ab=s.1.Ab/\(ZQ n s).1.out=s.1.out:=by
 induction n generalizing s with
 |zero=>exact⟨rfl,rfl⟩
 |succ n ih=>exact ih (aA s.1,ia s.1 s.2)
theorem xV (i:GI) (p q:Int) (s:CH×List Int):(Tg i p q s).1.Ab=s.1.Ab/\(Tg i p q s).1.out=s.1.out:=by
 have d:=Wn (J s.1.waits) s;unfold Tg;split
 .split<;>exact⟨rfl,rfl⟩
 .split
  .exact⟨rfl,rfl⟩
  .dsimp only;split<;>exact⟨rfl,rfl⟩
 .dsimp only;split
  .exact d
  .split<;>exact d
 .dsimp only;split<;>exact d
 .exact⟨rfl,rfl⟩
theorem xX (i:GI) (s:CH×List Int):(xY i s).1.Ab=s.1.Ab/\(xY i s).1.out.length<=J s.1.out+1:=by
 have e:∀i p q,(Tg i p q s).1.Ab=s.1.Ab/\(Tg i p q s).1.out.length<=J s.1.out+1:=λi p q=>by
  obtain⟨h1,h2⟩:=xV i p q s;exact⟨h1,by rw[h2];omega⟩
 have d:=Wn (J s.1.waits) s;cases i with
 |Y4 d a=>exact⟨rfl,JI _⟩
 |op n d a b=>
  show(match BO n (s.1.ev a) (s.1.ev b) with|none=>_|some v=>_:CH×List Int).1.Ab=_/\(match BO n (s.1.ev a) (s.1.ev b) with|none=>_|some v=>_:CH×List Int).1.out.length<=_;cases BO n (s.1.ev a) (s.1.ev b)<;>exact⟨rfl,JI _⟩
 |load d a k=>exact e _ _ _
 |store a k b=>exact e _ _ _
 |KL d a k b c=>exact e _ _ _
 |Em d a k b=>exact e _ _ _
 |Ma=>exact⟨d.1,by show(ZQ _ s).1.out.length<=_;rw[d.2];omega⟩
 |out a=>exact⟨rfl,by show(s.1.out++_).length<=_;rw[GT];exact Jf _⟩
 |GF q=>exact⟨rfl,JI _⟩
 |jz a q=>
  show(if s.1.ev a=0 then _ else s:CH×List Int).1.Ab=_/\(if s.1.ev a=0 then _ else s:CH×List Int).1.out.length<=_;split<;>exact⟨rfl,JI _⟩
 |CR k=>exact⟨rfl,JI _⟩
 |halt=>exact⟨rfl,JI _⟩
theorem ca (l:List GI) (s:CH×List Int):(iH l s).1.Ab=s.1.Ab/\(iH l s).1.out.length<=J s.1.out+1:=by
 unfold iH;split
 .exact⟨rfl,JI _⟩
 .split
  .exact⟨rfl,JI _⟩
  .exact xX _ _
theorem Xg (s:CH×List Int):(I2 s).1.Ab=s.1.Ab/\(I2 s).1.out=s.1.out:=Wn _ s
def AiZ (g:VG) (t:CH) (mem:List Int) (s:CH×List Int) (ps:List Value) (E:List Ob) (k:Nat) (w:World) (e:Ending) (w':World):Prop:=e= qF (qB (s.1.Au !=0))/\∃c o:SG,Ai w (g.Ay t mem ps E) w' (VG.Ay {g with w:=c,o:=o} s.1 s.2 ps E)/\On {g with w:=c,o:=o} s.1 s.2 ps k
theorem yo (l:List GI) (hl:∀i,i∈l->Sd 4000 i) (w:World) (g:VG) (t:CH) (mem:List Int) (ps:List Value) (E:List Ob) (k:Nat) (h:Aq w (g.Ay t mem ps E)) (ho:On g t mem ps k) (hc:t.Ab=l.map GI.DI) (hn:J l<=4000) (BE:Nat) (Ro:J t.out+BE<=1000000000):
  Calls prog 12 #[iJ g.mb,iI k,iI BE] w (AiZ g t mem (alI l BE (t,mem)) ps E k w):=by
 generalize AG:alI l BE (t,mem)=res;have H:=D h;have Ho:=D ho;have Hres:=D AG;have Hc:=D hc;have Hl:=D hl;have Hn:=D hn;clear h ho AG hc hl hn;go_enter func12,ntmps12;go_wp2;go_loopw [7] (λi wr=>∃(n:Nat) (c o:SG) (t':CH) (mem':List Int),i= iI n/\n<=BE/\Ai w (g.Ay t mem ps E) wr (VG.Ay {g with w:=c,o:=o} t' mem' ps E)/\On {g with w:=c,o:=o} t' mem' ps k/\alI l (BE-n) (t',mem')=res/\t'.Ab=t.Ab/\J t'.out<=J t.out+n) (λi _=>BE-(intOf i).toNat);case atStart=>exact⟨0,g.w,g.o,t,mem,rfl,Jr _,Ai.refl H,Ho,Hres,rfl,Jf _⟩
 case round=>
  obtain⟨n,c,o,t',mem',rfl,Zs,hs,ho,hr,hcd,hou⟩:=hrel;obtain⟨tsb,mmb,rb,hf⟩:=B0 hs.Ak ho;have Dg:=hf.m1;have VD:=hf.tk;have Kf:=hf.kl;have Rr:(0:Int)<=(k:Int):=Y
  have GJ:(k:Int)<(J ps:Int):=Y
  have pN:=hf.b.cell 5;have HS:=D hs;have HO:=D ho;have Hcd:=D hcd;clear hf hs ho hcd;dsimp only at Dg VD pN;by_cases hlt:n<BE
  .have C4:(n:Int)<(BE:Int):=Y
   by_cases h0:t'.Au=0
   .have pR:(t'.Au==0)=V:=by simpa using h0
    obtain⟨m,hm⟩:∃m,BE-n=m+1:=⟨BE-n-1,Y⟩;have LB:alI l m (I2 (iH l (t',mem')))=res:=by
     rw[<-hr,hm];exact(Jb h0).symm
    have FM:m=BE-(n+1):=Y
    have inc:True->wrap64 ((n:Int)+1)=((n:Int)+1):=λ_=>IntWalk.wrap64_in _ Y
    have GK:=D (Aab l Hl wr {g with w:=c,o:=o} t' mem' ps E k HS.Ak HO (Hcd.trans Hc) Hn Y);have K1:=ca l (t',mem');have IA:=D LB;have gN:=D FM;have HK1:=D K1;have Hou:=D hou;have PH:=D hlt;clear hr LB hm h0 FM hou K1 hlt Zs Ro;go_wp2_with fail;refine GK.mono ?_;rintro e w2 ⟨rfl,c2,o2,MU,Xr⟩;have K2:=D (Xg (iH l (t',mem')));unfold I2 at*;generalize pw:iH l (t',mem')=s2 at*;clear pw;have rV:=D (HS.trans MU);have Hdr:=D (Wm w2 _ s2.1 s2.2 ps E k MU.Ak Xr);clear MU Xr Dg VD pN Kf;dsimp only at Hdr;go_wp2_with fail;refine Hdr.mono ?_;rintro e w3 ⟨rfl,c3,hs3,ho3⟩;have GL:=D (rV.trans hs3);have HO3:=D ho3;clear hs3 ho3;go_wp2;go_roundw;case rel=>
     refine⟨n+1,c3,o2,_,_,by rw[inc trivial];rfl,PH,GL,HO3,?_,?_,?_⟩
     .rw[<-gN.out];exact IA.out
     .rw[K2.out.1,HK1.out.1];exact Hcd.out
     .rw[K2.out.2];have h1:=HK1.2;have h2:=Hou.out;omega
    case measure=>have:=PH.out;rw[inc trivial];simp[intOf];omega
   .have pR:(t'.Au==0)=I:=by rw[Jh];exact h0
    have LB:(t',mem')=res:=by
     rw[<-hr];obtain⟨m,hm⟩:∃m,BE-n=m+1:=⟨BE-n-1,Y⟩;rw[hm];exact(In h0).symm
    have IA:=D LB;clear hr LB h0;go_wp2;go_ret;rw[<-IA.out];exact⟨rfl,c,o,HS,HO⟩
  .have C4:¬(n:Int)<(BE:Int):=Y
   have LB:(t',mem')=res:=by
    rw[<-hr,show BE-n=0 by omega];rfl
   have IA:=D LB;clear hr LB;go_wp2;go_ret;rw[<-IA.out];exact⟨rfl,c,o,HS,HO⟩
def Al.put (M:Al) (k:Nat) (s:CH×List Int):Al:={mem:=s.2,ts:=M.ts.set k s.1}
section
variable {M:Al} {k:Nat} (hk:k<J M.ts)
theorem OJ (s s':CH×List Int):(M.put k s).put k s'=M.put k s':=by unfold Al.put;dsimp only;rw[jX]
theorem RZ (s:CH×List Int) (t:CH):(M.put k s).CQ k t=M.put k (t,s.2):=OJ s (t,s.2)
theorem UF (s:CH×List Int):(M.put k s).mem=s.2:=rfl
theorem MH (s:CH×List Int):(M.put k s).ts.length=J M.ts:=Ju ..
include hk
theorem OI (s:CH×List Int):(M.put k s).th k=s.1:=by
 show(M.ts.set k s.1).getD k CH.new=s.1;rw[B6 _ _ _ _ _ hk,Jb rfl]
theorem NJ:M.put k (M.th k,M.mem)=M:=by
 obtain⟨mem,ts⟩:=M;unfold Al.put Al.th;congr 1;apply List.ext_getElem?;intro i;rw[Qw];split
 .rename_i h;subst h;rw[Je,Ja hk];rfl
 .rfl
theorem dE:M.C7 k=M.put k (aA (M.th k),ia (M.th k) M.mem):=by
 unfold Al.C7 aA ia;cases hw:(M.th k).waits with
 |nil=>
  show M=M.put k _;have e:({M.th k with waits:=([]:List (Int×Int)).tail}:CH)=M.th k:=by
   cases h:M.th k;rw[h] at hw;dsimp only at hw;subst hw;rfl
  rw[e];exact(NJ hk).symm
 |cons p r=>rfl
theorem p8 (n:Nat) (s:CH×List Int):Al.Mc n (M.put k s) k=M.put k (ZQ n s):=by
 induction n generalizing s with
 |zero=>rfl
 |succ n ih=>
  show Al.Mc n ((M.put k s).C7 k) k=M.put k (ZQ n (aA s.1,ia s.1 s.2));rw[dE (by rw[MH];exact hk),OI hk,UF,OJ,ih]
theorem dO:M.Cm k=M.put k (I2 (M.th k,M.mem)):=by
 unfold Al.Cm I2
 conv=>lhs;rw[<-NJ hk]
 rw[p8 hk,NJ hk]
theorem AcV (i:GI):M.TZ k i=M.put k (xY i (M.th k,M.mem)):=by
 have hd:=dO hk;cases i with
 |Y4 d a=>rfl
 |op n d a b=>
  rw[Al.tW];unfold xY;dsimp only;cases BO n ((M.th k).ev a) ((M.th k).ev b)<;>rfl
 |load d a j=>
  rw[Al.dL];unfold xY Tg;dsimp only;split<;>rfl
 |store a j b=>
  rw[Al.ZN];unfold xY Tg;dsimp only;split
  .rfl
  .split
   .rw[dE hk];rw[RZ,OI hk]
   .rfl
 |KL d a j b c=>
  rw[Al.lT,hd];unfold xY Tg Al.SC;dsimp only;rw[OI hk,UF];show _=M.put k (if _ then ({(I2 (M.th k,M.mem)).1 with Au:=9},(I2 (M.th k,M.mem)).2) else if Al.wv (I2 (M.th k,M.mem)).1.waits ((I2 (M.th k,M.mem)).2.getD _ 0) _=(M.th k).ev b then _ else _);have LC:(I2 (M.th k,M.mem)).1.ev c=(M.th k).ev c:=by
   have:∀n (s:CH×List Int),(ZQ n s).1.DA=s.1.DA:=λn=>by
    induction n with
    |zero=>exact λs=>rfl
    |succ n ih=>exact λs=>ih (aA s.1,ia s.1 s.2)
   unfold CH.ev;rw[show(I2 (M.th k,M.mem)).1.DA=(M.th k).DA from this _ _]
  split
  .rw[RZ]
  .split
   .show(M.put k _).put k (_,_)=M.put k (_,_);rw[OJ,<-LC];rfl
   .rw[RZ];rfl
 |Em d a j b=>
  rw[Al.dK,hd];unfold xY Tg Al.SC;dsimp only;rw[OI hk,UF];show _=M.put k (if _ then ({(I2 (M.th k,M.mem)).1 with Au:=9},(I2 (M.th k,M.mem)).2) else _);split
  .rw[RZ]
  .show(M.put k _).put k (_,_)=M.put k (_,_);rw[OJ];rfl
 |Ma=>exact hd
 |out a=>rfl
 |GF q=>rfl
 |jz a q=>
  rw[Al.tX];unfold xY;dsimp only;split
  .rfl
  .exact(NJ hk).symm
 |CR s=>rfl
 |halt=>rfl
theorem zY (Ab:Nat->List GI):M.step Ab k=M.put k (iH (Ab k) (M.th k,M.mem)):=by
 unfold Al.step iH;dsimp only;by_cases h0:(M.th k).Au=0
 .rw[In (by
     rintro(h|h); · omega
     · exact h h0),In (by simpa using h0)]
  cases (Ab k)[(M.th k).pc]? with
  |none=>rfl
  |some i=>
   show(M.put k ({M.th k with pc:=(M.th k).pc+1},M.mem)).TZ k i=_;rw[AcV (by rw[MH];exact hk),OI hk,OJ];rfl
 .rw[Jb (.inr h0),Jb h0];exact(NJ hk).symm
theorem rH (Ab:Nat->List GI) (n:Nat) (s:CH×List Int):Al.C8 Ab k n (M.put k s)=M.put k (alI (Ab k) n s):=by
 induction n generalizing s with
 |zero=>rfl
 |succ n ih=>
  show(if ((M.put k s).th k).Au=0 then Al.C8 Ab k n ((M.put k s).Wu Ab k) else M.put k s)=M.put k (if s.1.Au=0 then alI (Ab k) n (I2 (iH (Ab k) s)) else s);rw[OI hk];split
  .have e:(M.put k s).Wu Ab k=M.put k (I2 (iH (Ab k) s)):=by
    unfold Al.Wu;rw[zY (by rw[MH];exact hk),OJ,OI hk,UF];have hl:k<(M.put k (iH (Ab k) s)).ts.length:=by rw[MH];exact hk
    rw[dO hl,OJ,OI hk,UF]
   rw[e,ih]
  .rfl
theorem Sw (Ab:Nat->List GI) (n:Nat):Al.C8 Ab k n M=M.put k (alI (Ab k) n (M.th k,M.mem)):=by
 conv=>lhs;rw[<-NJ hk]
 exact rH hk Ab n _
end
structure Lf where
 tb:Nat
 c:SG
 r:SG
 w:SG
 o:SG
def Lf.on (x:Lf) (F:VG):VG:=⟨x.tb,x.c,x.r,x.w,x.o,F.mb,F.m,F.t⟩
def Lf.ptr (x:Lf):Value:= iJ x.tb
def SB (F:VG) (gs:List Lf) (ts:List CH):List Ob:=(gs.zip ts).flatMap λp=>(p.1.on F).Uh p.2
def MO (F:VG) (gs:List Lf) (M:Al) (E:List Ob):List Ob:=F.UY M.mem (gs.map Lf.ptr)++(SB F gs M.ts++E)
structure rQ (gs:List Lf) (M:Al):Prop where
 gl:J gs=J M.ts
 tl:J M.ts<=3
 ml:J M.mem=256
 th:∀t,t∈M.ts->J t.DA=8/\J t.waits<=4/\∀p,p∈t.waits->0<=p.1/\p.1<256
section
variable {F:VG} {E:List Ob} {k:Nat} {x:Lf} {t:CH}
theorem uS {gs:List Lf} {ts:List CH} (hx:gs[k]?=U x) (ht:ts[k]?=U t):(SB F gs ts).Perm ((x.on F).Uh t++SB F (gs.eraseIdx k) (ts.eraseIdx k)):=by
 induction k generalizing gs ts with
 |zero=>
  cases gs with
  |nil=>cases hx
  |cons g gs=>
   cases ts with
   |nil=>cases ht
   |cons u ts=>
    injection hx with hx;injection ht with ht
    subst hx ht;exact List.Perm.refl _
 |succ k ih=>
  cases gs with
  |nil=>cases hx
  |cons g gs=>
   cases ts with
   |nil=>cases ht
   |cons u ts=>
    have h:=ih (gs:=gs) (ts:=ts) hx ht;show((g.on F).Uh u++SB F gs ts).Perm (_++((g.on F).Uh u++SB F (gs.eraseIdx k) (ts.eraseIdx k)));refine(Qn _ h).trans ?_;rw[<-Ji,<-Ji];exact QZ _ J4
theorem XT {gs:List Lf} {M:Al} (hx:gs[k]?=U x) (ht:M.ts[k]?=U t):(MO F gs M E).Perm ((x.on F).Ay t M.mem (gs.map Lf.ptr) (SB F (gs.eraseIdx k) (M.ts.eraseIdx k)++E)):=by
 unfold MO VG.Ay;refine(Qn _ (QZ E (uS hx ht))).trans ?_;show(F.UY M.mem (gs.map Lf.ptr)++((x.on F).Uh t++_++E)).Perm ((x.on F).Uh t++(F.UY M.mem (gs.map Lf.ptr)++_));generalize F.UY M.mem (gs.map Lf.ptr)=A;generalize (x.on F).Uh t=B;generalize SB F (gs.eraseIdx k) (M.ts.eraseIdx k)=C;rw[Ji,<-Ji,<-Ji B];exact QZ _ J4
theorem sF {gs:List Lf} (hx:gs[k]?=U x) {x':Lf} (h:x'.tb=x.tb):(gs.set k x').map Lf.ptr=gs.map Lf.ptr:=by
 apply List.ext_getElem?;intro i;rw[JS,JS,Qw];split
 .rename_i he;subst he;have hl:=(Jn.1 hx).1;rw[Jb hl,hx];show U x'.ptr=U x.ptr;unfold Lf.ptr;rw[h]
 .rfl
theorem AeO {gs:List Lf} {M:Al} {w:World} (h:Aq w (MO F gs M E)) (hx:gs[k]?=U x) (ht:M.ts[k]?=U t) {c o:SG} {s:CH×List Int}
  (S:Ai w ((x.on F).Ay t M.mem (gs.map Lf.ptr) (SB F (gs.eraseIdx k) (M.ts.eraseIdx k)++E)) w' (VG.Ay {x.on F with w:=c,o:=o} s.1 s.2 (gs.map Lf.ptr) (SB F (gs.eraseIdx k) (M.ts.eraseIdx k)++E))):
  Ai w (MO F gs M E) w' (MO F (gs.set k {x with w:=c,o:=o}) (M.put k s) E):=by
 have hl:=(Jn.1 hx).1;have O9:=(Jn.1 ht).1;refine((Ai.VU h (XT hx ht)).trans S).trans (Ai.VU S.Ak ?_);have p:=XT (F:=F) (E:=E) (gs:=gs.set k {x with w:=c,o:=o}) (M:=M.put k s) (k:=k) (x:={x with w:=c,o:=o}) (t:=s.1) (by rw[Qw,Jb rfl,Jb hl]) (by show(M.ts.set k s.1)[k]?=_;rw[Qw,Jb rfl,Jb O9]);rw[sF hx (x':={x with w:=c,o:=o}) rfl,List.eraseIdx_set_eq] at p;have e:(M.put k s).ts.eraseIdx k=M.ts.eraseIdx k:=by show(M.ts.set k s.1).eraseIdx k=_;rw[List.eraseIdx_set_eq]
 rw[e] at p;exact p.symm
theorem rQ.fok {gs:List Lf} {M:Al} (h:rQ gs M) (hx:gs[k]?=U x) (ht:M.ts[k]?=U t):On (x.on F) t M.mem (gs.map Lf.ptr) k:=by
 obtain⟨h1,h2,h3⟩:=h.th t (JL ht);exact⟨h.ml,h1,h2,h3,by rw[JS,hx];rfl,by rw[JZ,h.gl];exact h.tl⟩
theorem rQ.put {gs:List Lf} {M:Al} (h:rQ gs M) {g:VG} {s:CH×List Int} {ps:List Value} (ho:On g s.1 s.2 ps k) (x':Lf):rQ (gs.set k x') (M.put k s):=by
 refine⟨?_,?_,ho.ml,λt ht=>?_⟩
 .rw[Ju,MH];exact h.gl
 .rw[MH];exact h.tl
 .rcases List.mem_or_eq_of_mem_set ht with ht|ht
  .exact h.th t ht
  .subst ht;exact⟨ho.rl,ho.wl,ho.wa⟩
def Ak9 (F:VG) (gs:List Lf) (M M':Al) (E:List Ob) (w w':World):Prop:=∃gs',Ai w (MO F gs M E) w' (MO F gs' M' E)/\rQ gs' M'/\gs'.map Lf.ptr=gs.map Lf.ptr
theorem AkY {gs:List Lf} {M:Al} (h:rQ gs M) (hk:k<J M.ts):∃x,gs[k]?=U x/\M.ts[k]?=U (M.th k):=by
 have hg:k<J gs:=by rw[h.gl];exact hk
 refine⟨gs[k],Ja hg,?_⟩;unfold Al.th;rw[Je,Ja hk];rfl
end
section
variable (F:VG) (gs:List Lf) (M:Al) (E:List Ob) (w:World) (h:Aq w (MO F gs M E)) (ho:rQ gs M) (k:Nat) (hk:k<J M.ts)
include h ho hk
theorem AfU (Ab:Nat->List GI) (hl:∀i,i∈Ab k->Sd 4000 i) (hc:(M.th k).Ab=(Ab k).map GI.DI) (hn:(Ab k).length<=4000) (BE:Nat) (Ro:(M.th k).out.length+BE<=1000000000):
  Calls prog 12 #[iJ F.mb,iI k,iI BE] w λe w'=>e= qF (qB ((Al.C8 Ab k BE M |>.th k).Au !=0))/\Ak9 F gs M (Al.C8 Ab k BE M) E w w':=by
 obtain⟨x,hx,ht⟩:=AkY ho hk;refine(yo (Ab k) hl w (x.on F) (M.th k) M.mem (gs.map Lf.ptr) _ k (Ai.VU h (XT hx ht)).Ak (ho.fok hx ht) hc hn BE Ro).mono ?_;rintro e w' ⟨rfl,c,o,S,nf⟩;rw[Sw hk,OI hk];exact⟨rfl,_,AeO h hx ht (c:=c) (o:=o) S,ho.put nf _,sF hx rfl⟩
end
def W3 (c n:Int):Int:=(if c<0 then -(c+1) else c) % n
theorem Aa0 (c:Int) {n:Int} (hn:0<n):0<=W3 c n/\W3 c n<n:=⟨Int.emod_nonneg _ Y,Int.emod_lt_of_pos _ hn⟩
theorem AaZ (c n:Int) (hn:0<n) (hc:i64 c) (w:World):Calls prog 18 #[iI c,iI n] w λe w'=>e= qF (iI (W3 c n))/\w'=w:=by
 unfold i64 at hc;obtain⟨h1,h2⟩:=hc;have IN:(n==0)=I:=by rw[Jh];omega
 by_cases h0:c<0
 .have hq:=D (show -((c+1).tmod n)=W3 c n by unfold W3;rw[Jb h0,<-Int.neg_tmod,Int.tmod_eq_emod_of_nonneg Y]);exact naB
 .have hq:=D (show c % n=W3 c n by unfold W3;rw[In h0]);exact naB
structure AiY (Ab:Nat->List GI) (T:Nat):Prop where
 ok:∀k,k<T->∀i,i∈Ab k->Sd 4000 i
 ln:∀k,k<T->(Ab k).length<=4000
def Vv (Ab:Nat->List GI) (M:Al) (N:Nat):Prop:=∀k,k<J M.ts->(M.th k).Ab=(Ab k).map GI.DI/\(M.th k).out.length<=N
theorem Vv.put {M:Al} {N' k:Nat} (h:Vv Ab M N) (hn:N<=N') {s:CH×List Int} (hc:s.1.Ab=(M.th k).Ab) (ho:J s.1.out<=N'):Vv Ab (M.put k s) N':=λj hj=>by
 rw[MH] at hj;obtain⟨h1,h2⟩:=h j hj;by_cases hk:k<J M.ts
 .have e:(M.put k s).th j=if j=k then s.1 else M.th j:=Tm hk
  rw[e];split
  .rename_i he;subst he;exact⟨hc.trans h1,ho⟩
  .exact⟨h1,Y⟩
 .have e:(M.put k s).ts=M.ts:=List.set_eq_of_length_le Y;have e2:(M.put k s).th j=M.th j:=by unfold Al.th;rw[e]
  rw[e2];exact⟨h1,Y⟩
theorem yq (l:List GI) (n:Nat) (s:CH×List Int):(alI l n s).1.Ab=s.1.Ab/\(alI l n s).1.out.length<=J s.1.out+n:=by
 induction n generalizing s with
 |zero=>exact⟨rfl,Jf _⟩
 |succ n ih=>
  unfold alI;split
  .obtain⟨h1,h2⟩:=ih (I2 (iH l s));obtain⟨k1,k2⟩:=ca l s;obtain⟨d1,d2⟩:=Xg (iH l s);rw[h1,d1,k1];rw[d2] at h2;exact⟨rfl,Y⟩
  .exact⟨rfl,Y⟩
theorem Vv.alone {M:Al} {k:Nat} (h:Vv Ab M N) (hk:k<J M.ts):Vv Ab (Al.C8 Ab k n M) (N+n):=by
 rw[Sw hk];have K:=yq (Ab k) n (M.th k,M.mem);have:=(h k hk).2;exact h.put (jV _ _) K.1 (by have:=K.2;dsimp only at this;omega)
theorem eC {M:Al} {k:Nat} (hk:k<J M.ts):(Al.C8 Ab k n M).ts.length=J M.ts:=by rw[Sw hk,MH]
namespace Al
end Al
structure eK (w0 w:World) (L:List Ob):Prop where
 mod:Az [] w0 w
 Ak:Aq w L
 new:∀b,b∈Et L->w0.heap.size<=b
theorem eK.step {w0 w:World} {L L':List Ob} (h:eK w0 w L) (s:Ai w L w' L'):eK w0 w' L':=by
 exact⟨h.mod.trans s.mod λb hb=> .inr (h.new b hb),s.Ak,λb hb=>(s.fp b hb).elim (h.new b) λh2=>QA h.mod.size h2⟩
def VP:Value->SG
 |.slice p _ c=>⟨p,c⟩
 |_=>⟨Z,0⟩
theorem ND {w:World} {e:TypeId} {s:Nat} {v:Value} {xs:List Value} (h:w.ownsRow 0 e s v n xs):v= m9 (VP v).p n (VP v).c:=by
 obtain⟨p,c,rfl,_⟩:=Uz h;rfl
def TV.g (x:TV):Lf:=⟨x.tb,VP x.cv,VP x.rv,VP x.wv,VP x.ov⟩
def bq (mb:Nat) (mv tv:Value):VG:=⟨0,⟨Z,0⟩,⟨Z,0⟩,⟨Z,0⟩,⟨Z,0⟩,mb,VP mv,VP tv⟩
theorem AgV {w:World} {x:TV} (h:Ti w x t) (F:VG):(∀o,o∈(x.g.on F).Uh t->o.holds w)/\Et ((x.g.on F).Uh t)=x.fp:=by
 obtain⟨h1,h2,h3,h4,h5⟩:=h;have e2:=ND h2;have e3:=ND h3;have e4:=ND h4;have e5:=ND h5;obtain⟨tb,cv,rv,wv,ov⟩:=x;dsimp only at*;generalize VP cv=a at*;generalize VP rv=b at*;generalize VP wv=c at*;generalize VP ov=d at*;subst e2 e3 e4 e5;refine⟨λo ho=>?_,?_⟩
 .simp only[VG.Uh,Lf.on,TV.g,Jl,Qm,or_false] at ho;rcases ho with rfl|rfl|rfl|rfl|rfl
  .exact h1
  .exact h2
  .exact h3
  .exact h4
  .exact h5
 .simp[Et,VG.Uh,Lf.on,TV.g,VP,TV.fp,Ob.fp]
theorem AdU {w:World} (F:VG) {xs:List TV} {ts:List CH} (h:∀p,p∈xs.zip ts->Ti w p.1 p.2) (hl:J xs=J ts):(∀o,o∈SB F (xs.map TV.g) ts->o.holds w)/\Et (SB F (xs.map TV.g) ts)=xs.flatMap TV.fp:=by
 induction xs generalizing ts with
 |nil=>exact⟨λo ho=>Jk ho (by unfold SB;simp),by unfold SB;rfl⟩
 |cons x xs ih=>
  cases ts with
  |nil=>cases hl
  |cons t ts=>
   obtain⟨a1,a2⟩:=AgV (h (x,t) (Jd ..)) F;obtain⟨b1,b2⟩:=ih (ts:=ts) (λp hp=>h p (Id _ hp)) (by simpa using hl);show(∀o,o∈(x.g.on F).Uh t++SB F (xs.map TV.g) ts->o.holds w)/\Et ((x.g.on F).Uh t++SB F (xs.map TV.g) ts)=_;refine⟨λo ho=>(Jp.1 ho).elim (a1 o) (b1 o),?_⟩;rw[Bo,a2,b2,JV]
theorem AjA {w:World} {M:Al} (h:El w mb mv tv xs M):Aq w (MO (bq mb mv tv) (xs.map TV.g) M [])/\Et (MO (bq mb mv tv) (xs.map TV.g) M [])=BG mb mv tv xs:=by
 obtain⟨h1,h2,h3,h4,h5,h6⟩:=h;obtain⟨t1,t2⟩:=AdU (bq mb mv tv) h5 h4;have em:=ND h2;have et:=ND h3;have Afc:(xs.map TV.g).map Lf.ptr=xs.map TV.ptr:=by rw[jM];rfl
 have hpl:(xs.map TV.ptr).length=J xs:=JZ ..;have hM:(bq mb mv tv).UY M.mem ((xs.map TV.g).map Lf.ptr)=[.Ao mb #[mv,tv] 34,.row mv 2 1 (J M.mem) (B9 M.mem),.row tv 69 1 (J xs) (xs.map TV.ptr)]:=by
  unfold VG.UY bq;dsimp only;rw[Afc,hpl,<-em,<-et]
 have yS:Et (MO (bq mb mv tv) (xs.map TV.g) M [])=BG mb mv tv xs:=by
  unfold MO;rw[hM,Bo,Jo,t2];simp[Et,Ob.fp,BG]
 refine⟨⟨λo ho=>?_,by rw[yS];exact h6⟩,yS⟩;unfold MO at ho;rw[hM,Jo] at ho;rcases Jp.1 ho with ho|ho
 .simp only[Jl,Qm,or_false] at ho;rcases ho with rfl|rfl|rfl
  .exact h1
  .exact h2
  .exact h3
 .exact t1 o ho
theorem AeN {w:World} {M:Al} {E:List Ob} (hE:Aq w E) (h:El w' mb mv tv xs M) (k:Az [] w w') (hn:∀b,b∈BG mb mv tv xs->w.heap.size<=b):Ai w E w' (MO (bq mb mv tv) (xs.map TV.g) M E):=by
 obtain⟨o,f⟩:=AjA h;have e:MO (bq mb mv tv) (xs.map TV.g) M E=MO (bq mb mv tv) (xs.map TV.g) M []++E:=by unfold MO;simp
 have hE':=hE.mod k EQ;refine⟨⟨λx hx=>?_,?_⟩,k.nil,λb hb=>?_⟩
 .rw[e] at hx;exact(Jp.1 hx).elim (o.holds x) (hE'.holds x)
 .rw[e,Bo];refine Jt.2 ⟨o.K7,hE.K7,λa ha b hb Vj=>?_⟩;subst Vj;rw[f] at ha;have:=hn a ha;have:=hE.lt a hb;omega
 .rw[e,Bo] at hb;rcases Jp.1 hb with hb|hb
  .rw[f] at hb;exact .inr (hn b hb)
  .exact .inl hb

structure Aob (w:World) (pb:Nat) (p:RP):Prop where
 c1:w.cell? ⟨pb,1,Z⟩=U (iI p.cells)
 u:∃ub uc,(0<J p.Ap->∃b,ub=U (⟨b,0,Z⟩:Addr))/\w.cell? ⟨pb,2,Z⟩=U (m9 ub (J p.Ap) uc)/\∀t,t<J p.Ap->∃b db dc,ub=U ⟨b,0,Z⟩/\w.cell? ⟨b,t,Z⟩=U (m9 db (p.Ap.getD t []).length dc)/\∀c,c<(p.Ap.getD t []).length->∃a,db=U ⟨a,0,Z⟩/\w.cell? ⟨a,c,Z⟩=U (qB ((p.Ap.getD t []).getD c I))
 q:∃qb qc,w.cell? ⟨pb,3,Z⟩=U (m9 qb (J p.BX) qc)/\∀t,t<J p.BX->∃a,qb=U ⟨a,0,Z⟩/\w.cell? ⟨a,t,Z⟩=U (qB (p.BX.getD t I))
