/-
  Part 41 of the proof.
-/
import Derived.Test.YtpdfifdlhpmofaaGreatDoorZ40
set_option linter.unusedVariables false
set_option linter.unusedSimpArgs false
set_option maxHeartbeats 3200000
set_option maxRecDepth 100000
namespace Go.Proofs.YtpdfifdlhpmofaaGreatDoor
open Go.RowKit Tryz
open Go.Lib (hid)
theorem naa {p:Prop} (h:p:=by
 have HS:=hid (show({T with BG:=9},MM)=res by rw[<-AJ.out,In hp]);rcases Int.lt_or_le p 0 with fQ | fQ
 ·go_wp2
  go_end0
  exact⟨rfl,c2,by rw[<-HS.out];exact S.trans ((VG.EL S.Am 9).trans (VG.Im (VG.EL S.Am 9).Am)),by rw[<-HS.out];exact HO.EL 9⟩
 ·have cu:¬p < 0:=Y
  have Ib:256<=p:=Y
  clear hp fQ;go_wp2
  go_end0
  exact⟨rfl,c2,by rw[<-HS.out];exact S.trans ((VG.EL S.Am 9).trans (VG.Im (VG.EL S.Am 9).Am)),by rw[<-HS.out];exact HO.EL 9⟩):p:=h
theorem nab {p:Prop} (h:p:=by
 have HS:=hid (show({t with BG:=9},mem)=res by rw[<-AJ.out];unfold P8;dsimp only;rw[In hp]);rcases Int.lt_or_le p 0 with fQ | fQ
 ·go_wp2
  go_end0
  exact⟨rfl,g.w,by rw[<-HS.out];exact H.trans (VG.EL H.Am 9),by rw[<-HS.out];exact Ho.EL 9⟩
 ·have cu:¬p < 0:=Y
  have Ib:256<=p:=Y
  clear hp fQ;go_wp2
  go_end0
  exact⟨rfl,g.w,by rw[<-HS.out];exact H.trans (VG.EL H.Am 9),by rw[<-HS.out];exact Ho.EL 9⟩):p:=h
theorem nad {p:Prop} (h:p:=by
 go_wp2;go_ret2;rw[Hk.out];exact⟨rfl,rfl⟩):p:=h
theorem nas {p:Prop} (h:p:=by
 go_enter func42,ntmps42;go_wp2_with fail;refine Hd.mono ?_;rintro e w1 ⟨rfl,rfl⟩;go_wp2;go_ret2;exact⟨rfl,rfl⟩):p:=h
theorem nau {p:Prop} (h:p:=by
 have Hk:=hid hk;clear hk
 skip
 skip
 unfold XV at*;go_enter func42,ntmps42;go_wp2;go_ret2;rw[Hk.out];exact⟨rfl,rfl⟩):p:=h
variable {i k g6 AZ:Nat} {w w6:World} {t:C9} {mem:List Int} {ps:List Value} {E:List Ob} {M:Al}
theorem Xd (x y:Int):bits .and .i64 x y=Iv (· &&& ·) x y:=by
 show IntKind.i64.wrap ((BitVec.ofInt 64 x &&& BitVec.ofInt 64 y).toNat:Int)=wrap64 ((BitVec.ofInt 64 x &&& BitVec.ofInt 64 y).toNat:Int);exact IntWalk.i64_left _
theorem Aab (x y:Int):bits .or .i64 x y=Iv (· ||| ·) x y:=by
 show IntKind.i64.wrap ((BitVec.ofInt 64 x ||| BitVec.ofInt 64 y).toNat:Int)=wrap64 ((BitVec.ofInt 64 x ||| BitVec.ofInt 64 y).toNat:Int);exact IntWalk.i64_left _
theorem vX (x y:Int):bits .xor .i64 x y=Iv (· ^^^ ·) x y:=by
 show IntKind.i64.wrap ((BitVec.ofInt 64 x ^^^ BitVec.ofInt 64 y).toNat:Int)=wrap64 ((BitVec.ofInt 64 x ^^^ BitVec.ofInt 64 y).toNat:Int);exact IntWalk.i64_left _
theorem wA (b:Int):∃n:Nat,Iv (· &&& ·) b 63=n/\n<=63:=by
 refine⟨(BitVec.ofInt 64 b &&& BitVec.ofInt 64 63).toNat,?_,?_⟩
 ·have h:(BitVec.ofInt 64 b &&& BitVec.ofInt 64 63).toNat<=63:=by rw[BitVec.toNat_and];exact Nat.and_le_right
  show wrap64 ((BitVec.ofInt 64 b &&& BitVec.ofInt 64 63).toNat:Int)=_;exact Fu Y Y
 ·rw[BitVec.toNat_and];exact Nat.and_le_right
theorem AaA (k:Nat) (hk:k<=63):wrap64 ((k:Int)+1)=k+1:=Fu Y Y
theorem TR (a b:Int) (up:Bool) (w:World):Calls prog 65 #[i5 a,i5 b,.bool up] w fun e w'=>e= .returned (i5 (if up then Uu (Iv (· &&& ·) b 63).toNat a else Ut (Iv (· &&& ·) b 63).toNat a))/\w'=w:=by
 obtain⟨n,hn,AgI⟩:=wA b;rw[hn,show((n:Int)).toNat=n from rfl];have hb:bits .and .i64 b 63=n:=(Xd b 63).trans hn;generalize AF:(if up=true then Uu n a else Ut n a)=res;have Hb:=hid hb;clear hb hn;have AJ:=hid AF;clear AF;go_enter func65,ntmps65;go_wp2;rw[Hb.out];clear Hb
 go_loop [0,8,9] (fun x i _=>∃(k:Nat) (v:Int),k<=n/\i= i5 k/\x= i5 v/\(if up=true then Uu (n - k) v else Ut (n - k) v)=res) (fun _ i _=>n - (intOf i).toNat)
 case atStart=>exact⟨0,a,d6 _,rfl,rfl,AJ⟩
 case round=>
  obtain⟨k,v,hk,rfl,rfl,hr⟩:=hrel;by_cases AX:k < n
  ·have inc:True->wrap64 ((k:Int)+1)=k+1:=fun _=>AaA k Y
   have DJ:(k:Int) < (n:Int):=Y
   cases up with
   | true=>
    have Hr:=hid (show Uu (n - (k+1)) (wrap64 (v+v))=res by rw[<-hr,In rfl,show n - k=(n - (k+1))+1 by omega];rfl);clear hr;go_wp2
    go_round
    case rel=>exact⟨k+1,_,AX,by go_num,rfl,Hr⟩
    case measure=>simp[intOf];omega
   | false=>
    have Hr:=hid (show Ut (n - (k+1)) (wrap64 ((wrap64 (v - Iv (· &&& ·) v 1)).tdiv 2))=res by rw[<-hr,I AC,show n - k=(n - (k+1))+1 by omega];rfl);clear hr;go_wp2
    go_round
    case rel=>exact⟨k+1,_,AX,by go_num,rfl,by rw[Xd];exact Hr.out⟩
    case measure=>simp[intOf];omega
  ·have DJ:¬(k:Int) < (n:Int):=Y
   have Hr:=hid (show v=res by rw[<-hr,show n - k=0 by omega];cases up <;>rfl);clear hr;go_wp2;go_ret;exact⟨au Hr,rfl⟩
def Qr (op:ByteArray) (a b:Int):Value:= .tuple #[i5 ((Co op a b).getD 0),.bool (Co op a b).isSome]
theorem Un (op:ByteArray) (h:op=Qz\/op=We) (a b:Int) (w:World):Calls prog 64 #[.string op,i5 a,i5 b] w fun e w'=>e= .returned (Qr op a b)/\w'=w:=by
 have key:∀v:Option Int,Co op a b=v->Qr op a b= .tuple #[i5 (v.getD 0),.bool v.isSome]:=fun v h=>by unfold Qr;rw[h]
 have h0:Co op a b=if b=0 then none else if b= -1 then some (if op=Qz then wrap64 (-a) else 0) else some (if op=Qz then wrap64 (a.tdiv b) else a.tmod b):=by
  unfold Co;rcases h with rfl | rfl <;>(rw[I (by decide+kernel),I (by decide+kernel),I (by decide+kernel),In (by decide+kernel)])
 by_cases hb:b=0
 ·subst hb;have Hk:=hid (key none (by rw[h0,In rfl]));clear h0 key h;go_enter func64,ntmps64;exact nad
 have zv:(b==0)=false:=by simpa using hb
 by_cases h1:b= -1
 ·subst h1;clear hb zv;rcases h with rfl | rfl
  ·have Hk:=hid (key (some (wrap64 (-a))) (by rw[h0,I AC,In rfl,In rfl]));clear h0 key;unfold Qz at*;go_enter func64,ntmps64;exact nad
  ·have Hk:=hid (key (some 0) (by rw[h0,I AC,In rfl,I (by decide+kernel)]));clear h0 key;unfold We at*;go_enter func64,ntmps64;exact nad
 have kW:(b== -1)=false:=by simpa using h1
 rcases h with rfl | rfl
 ·have Hk:=hid (key (some (wrap64 (a.tdiv b))) (by rw[h0,I hb,I h1,In rfl]));clear h0 key;unfold Qz at*;go_enter func64,ntmps64;exact nad
 ·have Hk:=hid (key (some (a.tmod b)) (by rw[h0,I hb,I h1,I (by decide+kernel)]));clear h0 key;unfold We at*;go_enter func64,ntmps64;exact nad
theorem GN {op:ByteArray} {a b x:Int} (h:Co op a b=some x):Qr op a b= .tuple #[i5 x,.bool true]:=by unfold Qr;rw[h,Qbp,Qce]
theorem ir (a b:Int):Co Qy a b=some (Uu (Iv (· &&& ·) b 63).toNat a):=by unfold Co;rw[I (by decide+kernel),I (by decide+kernel),I (by decide+kernel),I (by decide+kernel),I (by decide+kernel),I (by decide+kernel),I (by decide+kernel),In rfl]
theorem iq (a b:Int):Co Uz a b=some (Ut (Iv (· &&& ·) b 63).toNat a):=by unfold Co;rw[I (by decide+kernel),I (by decide+kernel),I (by decide+kernel),I (by decide+kernel),I (by decide+kernel),I (by decide+kernel),I (by decide+kernel),I (by decide+kernel),In rfl]
theorem iu (a b:Int):Co gU a b=some (wrap64 (a*b)):=by unfold Co;rw[I (by decide+kernel),I (by decide+kernel),In rfl]
theorem im (a b:Int):Co gT a b=some (Iv (· ^^^ ·) a b):=by unfold Co;rw[I (by decide+kernel),I (by decide+kernel),I (by decide+kernel),I (by decide+kernel),I (by decide+kernel),I (by decide+kernel),In rfl]
theorem nN (a b:Int) (w:World):Calls prog 42 #[.string Ja,i5 a,i5 b] w fun e w'=>e= .returned (Qr Ja a b)/\w'=w:=by
 have Hk:=hid (show Qr Ja a b= .tuple #[i5 (wrap64 (a+b)),.bool true] from GN (L4 a b));unfold Ja at*;go_enter func42,ntmps42;exact nad
theorem nG (a b:Int) (w:World):Calls prog 42 #[.string I9,i5 a,i5 b] w fun e w'=>e= .returned (Qr I9 a b)/\w'=w:=by
 have Hk:=hid (show Qr I9 a b= .tuple #[i5 (wrap64 (a - b)),.bool true] from GN (Y2 a b));unfold I9 at*;go_enter func42,ntmps42;exact nad
theorem nJ (a b:Int) (w:World):Calls prog 42 #[.string gU,i5 a,i5 b] w fun e w'=>e= .returned (Qr gU a b)/\w'=w:=by
 have Hk:=hid (show Qr gU a b= .tuple #[i5 (wrap64 (a*b)),.bool true] from GN (iu a b));unfold gU at*;go_enter func42,ntmps42;exact nad
theorem nL (a b:Int) (w:World):Calls prog 42 #[.string Qz,i5 a,i5 b] w fun e w'=>e= .returned (Qr Qz a b)/\w'=w:=by
 have Hd:=hid (Un Qz EQ a b w);unfold Qr at*;generalize (Co Qz a b).getD 0=x at*;generalize (Co Qz a b).isSome=y at*;unfold Qz at*;exact nas
theorem nK (a b:Int) (w:World):Calls prog 42 #[.string We,i5 a,i5 b] w fun e w'=>e= .returned (Qr We a b)/\w'=w:=by
 have Hd:=hid (Un We EQ a b w);unfold Qr at*;generalize (Co We a b).getD 0=x at*;generalize (Co We a b).isSome=y at*;unfold We at*;exact nas
theorem nM (a b:Int) (w:World):Calls prog 42 #[.string Wf,i5 a,i5 b] w fun e w'=>e= .returned (Qr Wf a b)/\w'=w:=by
 have Hk:=hid (show Qr Wf a b= .tuple #[i5 (Iv (· &&& ·) a b),.bool true] from GN (SQ a b));unfold Wf at*;go_enter func42,ntmps42;go_wp2;go_ret2;rw[Hk.out,<-Xd];exact⟨rfl,rfl⟩
theorem td (a b:Int) (w:World):Calls prog 42 #[.string sJ,i5 a,i5 b] w fun e w'=>e= .returned (Qr sJ a b)/\w'=w:=by
 have Hk:=hid (show Qr sJ a b= .tuple #[i5 (Iv (· ||| ·) a b),.bool true] from GN (dH a b));unfold sJ at*;go_enter func42,ntmps42;go_wp2;go_ret2;rw[Hk.out,<-Aab];exact⟨rfl,rfl⟩
theorem nF (a b:Int) (w:World):Calls prog 42 #[.string gT,i5 a,i5 b] w fun e w'=>e= .returned (Qr gT a b)/\w'=w:=by
 have Hk:=hid (show Qr gT a b= .tuple #[i5 (Iv (· ^^^ ·) a b),.bool true] from GN (im a b));unfold gT at*;go_enter func42,ntmps42;go_wp2;go_ret2;rw[Hk.out,<-vX];exact⟨rfl,rfl⟩
theorem nI (a b:Int) (w:World):Calls prog 42 #[.string Qy,i5 a,i5 b] w fun e w'=>e= .returned (Qr Qy a b)/\w'=w:=by
 have Hk:=hid (show Qr Qy a b= .tuple #[i5 (Uu (Iv (· &&& ·) b 63).toNat a),.bool true] from GN (ir a b));have Hd:=hid (TR a b true w);unfold Qy at*;go_enter func42,ntmps42;go_wp2_with fail;refine Hd.mono ?_;rintro e w1 ⟨rfl,rfl⟩;exact nad
theorem nH (a b:Int) (w:World):Calls prog 42 #[.string Uz,i5 a,i5 b] w fun e w'=>e= .returned (Qr Uz a b)/\w'=w:=by
 have Hk:=hid (show Qr Uz a b= .tuple #[i5 (Ut (Iv (· &&& ·) b 63).toNat a),.bool true] from GN (iq a b));have Hd:=hid (TR a b false w);unfold Uz at*;go_enter func42,ntmps42;go_wp2_with fail;refine Hd.mono ?_;rintro e w1 ⟨rfl,rfl⟩;exact nad
theorem ti (a b:Int) (w:World):Calls prog 42 #[.string XV,i5 a,i5 b] w fun e w'=>e= .returned (Qr XV a b)/\w'=w:=by
 have hk:Qr XV a b= .tuple #[i5 (if a < b then 1 else 0),.bool true]:=GN (Ok a b);by_cases hc:a < b
 ·rw[In hc] at hk;exact nau
 ·rw[I hc] at hk;exact nau
theorem tj (a b:Int) (w:World):Calls prog 42 #[.string XW,i5 a,i5 b] w fun e w'=>e= .returned (Qr XW a b)/\w'=w:=by
 have hk:Qr XW a b= .tuple #[i5 (if a=b then 1 else 0),.bool true]:=GN (L3 a b);by_cases hc:a=b
 ·rw[In hc] at hk;have Hk:=hid hk;clear hk;have UH:(a==b)=true:=by simpa using hc
  clear hc;unfold XW at*;go_enter func42,ntmps42;exact nad
 ·rw[I hc] at hk;have Hk:=hid hk;clear hk;have UH:(a==b)=false:=by simpa using hc
  clear hc;unfold XW at*;go_enter func42,ntmps42;exact nad
theorem tn (op:ByteArray) (h:op∈Cj) (a b:Int) (w:World):Calls prog 42 #[.string op,i5 a,i5 b] w fun e w'=>e= .returned (Qr op a b)/\w'=w:=by
 have h':op∈[Ja,I9,gU,Qz,We,Wf,sJ,gT,Qy,Uz,XV,XW]:=h;simp only[Pi,Qap,or_false] at h';rcases h' with rfl | rfl | rfl | rfl | rfl | rfl | rfl | rfl | rfl | rfl | rfl | rfl
 ·exact nN a b w
 ·exact nG a b w
 ·exact nJ a b w
 ·exact nL a b w
 ·exact nK a b w
 ·exact nM a b w
 ·exact td a b w
 ·exact nF a b w
 ·exact nI a b w
 ·exact nH a b w
 ·exact ti a b w
 ·exact tj a b w
structure VG where
 tb:Nat
 c:SG
 r:SG
 w:SG
 o:SG
 mb:Nat
 m:SG
 t:SG
variable {g:VG}
def VG.U1 (g:VG) (t:C9):List Ob:=
 [.Au g.tb #[.slice g.c.p t.Ab.length g.c.c,i5 t.pc,.slice g.r.p t.DA.length g.r.c,.slice g.w.p t.waits.length g.w.c,.slice g.o.p t.out.length g.o.c,i5 t.BG] 68,
  .row (.slice g.c.p t.Ab.length g.c.c) 101 9 t.Ab.length (Gy t.Ab),.row (.slice g.r.p t.DA.length g.r.c) 2 1 t.DA.length (Fy t.DA),
  .row (.slice g.w.p t.waits.length g.w.c) 83 2 t.waits.length (CW t.waits),.row (.slice g.o.p t.out.length g.o.c) 2 1 t.out.length (Fy t.out)]
def VG.QC (g:VG) (mem:List Int) (ps:List Value):List Ob:=
 [.Au g.mb #[.slice g.m.p mem.length g.m.c,.slice g.t.p ps.length g.t.c] 34,.row (.slice g.m.p mem.length g.m.c) 2 1 mem.length (Fy mem),.row (.slice g.t.p ps.length g.t.c) 69 1 ps.length ps]
def VG.Ar (g:VG) (t:C9) (mem:List Int) (ps:List Value) (E:List Ob):List Ob:=g.U1 t++(g.QC mem ps++E)
structure Nw (g:VG) (t:C9) (mem:List Int) (ps:List Value) (k:Nat):Prop where
 ml:mem.length=256
 rl:t.DA.length=8
 wl:t.waits.length<=4
 wa:∀p,p∈t.waits->0<=p.1/\p.1 < 256
 pk:ps[k]?=some (i6 g.tb)
 pl:ps.length<=3
theorem VB (v:OV) (hv:v.B0=true->0<=v.v/\v.v < 8) (w:World) (tb rb rc:Nat) (c0 c1 c3 c4 c5:Value) (DA:List Int) (hb:BM w tb #[c0,c1,.slice (some ⟨rb,0,none⟩) 8 rc,c3,c4,c5] 68) (hr:∀i,(hi:i < 8)->w.cell? ⟨rb,i,none⟩=some (i5 (DA.getD i 0))):
  Calls prog 40 #[i6 tb,v.val] w fun e w'=>e= .returned (i5 (if v.B0 then DA.getD v.v.toNat 0 else v.v))/\Av [] w w':=by
 obtain⟨rg,n⟩:=v;cases rg with
 | true=>
  obtain⟨h0,h8⟩:=hv rfl;have qp:0<=n:=h0;have h8':n < 8:=h8;obtain⟨i,rfl⟩:∃i:Nat,n=i:=⟨n.toNat,Y⟩;have hi:i < 8:=Y
  have hc:=hr i hi;have QI:=hb.cell 2;have AX:=hb.lt;have Hr:=hid hr;clear hb hv h0 h8 hr;unfold OV.val;go_enter func40,ntmps40;go_wp2;have ha:(w.alloc (Obj.cells #[Value.bool true,Value.int IntKind.i64 ↑i] 99)).cell? ⟨w.heap.size,1,none⟩=some (i5 i):=(BM.new w _ _).cell 1;have AfN:(w.alloc (Obj.cells #[Value.bool true,Value.int IntKind.i64 ↑i] 99)).cell? ⟨tb,2,none⟩=some (.slice (some ⟨rb,0,none⟩) 8 rc):=AU ((Av.refl [] w).alloc _) (QI.trans rfl);have UH:(w.alloc (Obj.cells #[Value.bool true,Value.int IntKind.i64 ↑i] 99)).cell? ⟨rb,i,none⟩=some (i5 (DA.getD i 0)):=AU ((Av.refl [] w).alloc _) hc;refine BR (l:=[(0,true),(1,true),(2,true),(3,true),(4,true),(5,true),(6,true),(7,true),(8,false)]) (fun W=>W.cell? ⟨w.heap.size,1,none⟩=some (i5 i)/\W.cell? ⟨tb,2,none⟩=some (.slice (some ⟨rb,0,none⟩) 8 rc)/\W.cell? ⟨rb,i,none⟩=some (i5 (DA.getD i 0))) 8 ⟨ha,AfN,UH⟩ ?_;refine KQ ?_;refine Ch rfl (fun K hK=> ?_);go_simp;refine hK _ _ (fun h=>UV h AC) ?_;clear hK;simp only[DP];go_wp2;go_ret;exact⟨rfl,((Av.refl _ _).alloc _).drew⟩
 | false=>
  clear hv hr;unfold OV.val;go_enter func40,ntmps40;go_wp2;go_ret;exact⟨rfl,(Av.refl _ _).alloc _⟩
structure AcL (w:World) (g:VG) (t:C9) (mem:List Int) (ps:List Value) (k tsb mmb rb:Nat):Prop where
 et:g.t.p=some ⟨tsb,0,none⟩
 em:g.m.p=some ⟨mmb,0,none⟩
 er:g.r.p=some ⟨rb,0,none⟩
 m0:w.cell? ⟨g.mb,0,none⟩=some (.slice (some ⟨mmb,0,none⟩) 256 g.m.c)
 m1:w.cell? ⟨g.mb,1,none⟩=some (.slice (some ⟨tsb,0,none⟩) ps.length g.t.c)
 tk:w.cell? ⟨tsb,k,none⟩=some (i6 g.tb)
 b:BM w g.tb #[.slice g.c.p t.Ab.length g.c.c,i5 t.pc,.slice (some ⟨rb,0,none⟩) 8 g.r.c,.slice g.w.p t.waits.length g.w.c,.slice g.o.p t.out.length g.o.c,i5 t.BG] 68
 rg:∀i,i < 8->w.cell? ⟨rb,i,none⟩=some (i5 (t.DA.getD i 0))
 mm:∀i,i < 256->w.cell? ⟨mmb,i,none⟩=some (i5 (mem.getD i 0))
 kl:k < ps.length
theorem cC {l:List Int} (h:i < l.length) (h':i < (Fy l).length):(Fy l)[i]= i5 (l.getD i 0):=by
 rw[GE,Id h];simp[Fy]
theorem B8 (h:Az w (g.Ar t mem ps E)) (ho:Nw g t mem ps k):∃tsb mmb rb,AcL w g t mem ps k tsb mmb rb:=by
 have Jc:k < ps.length:=(d9.1 ho.pk).1;obtain⟨tsb,tc,et,_,_,_,_,htc,_⟩:=AG (h.row (i:=7) rfl) Y;obtain⟨mmb,mc,em,_,_,_,_,hmc,_⟩:=AG (h.row (i:=6) rfl) (by rw[ho.ml];decide);obtain⟨rb,rc,er,_,_,_,_,Cu,_⟩:=AG (h.row (i:=2) rfl) (by rw[ho.rl];decide);have hm:=h.Au (i:=5) rfl;have hb:=h.Au (i:=0) rfl;have e1:g.t.p=some ⟨tsb,0,none⟩:=by injection et
 have e2:g.m.p=some ⟨mmb,0,none⟩:=by injection em
 have e3:g.r.p=some ⟨rb,0,none⟩:=by injection er
 rw[e1,e2,ho.ml] at hm;rw[e3,ho.rl] at hb;refine⟨tsb,mmb,rb,e1,e2,e3,hm.cell 0,hm.cell 1,?_,hb,fun i hi=> ?_,fun i hi=> ?_,Jc⟩
 ·rw[htc k Jc,<-Id Jc];exact ho.pk
 ·have hl:i < t.DA.length:=by rw[ho.rl];exact hi
  rw[Cu i (by simpa[Fy] using hl),cC hl]
 ·have hl:i < mem.length:=by rw[ho.ml];exact hi
  rw[hmc i (by simpa[Fy] using hl),cC hl]
theorem xC {l:List (Int×Int)} (h:i < l.length):(CW l)[i*2]?=some (i5 (l.getD i (0,0)).1)/\(CW l)[i*2+1]?=some (i5 (l.getD i (0,0)).2):=by
 induction l generalizing i with
 | nil=>simp at h
 | cons p r ih=>
  cases i with
  | zero=>exact⟨rfl,rfl⟩
  | succ i=>
   have:=ih (by simpa using h:i < r.length);rw[show(i+1)*2=i*2+1+1 by omega];exact this
theorem Jm (l:List (Int×Int)):(CW l).length=l.length*2:=by
 induction l with
 | nil=>rfl
 | cons p r ih=>
  show(List.flatMap _ (p::r)).length=_;rw[Qas,V];show 2+(CW r).length=_;rw[ih,IR];omega
theorem xA (l:List (Int×Int)) (v a:Int) {k:Nat} (h:k < l.length):Al.wv (l.take (k+1)) v a=if (l.getD k (0,0)).1=a then (l.getD k (0,0)).2 else Al.wv (l.take k) v a:=by
 rw[Qar h,ZW,GE,Id h];rfl
theorem Rr (w:World) (g:VG) (t:C9) (mem:List Int) (ps:List Value) (E:List Ob) (k:Nat) (h:Az w (g.Ar t mem ps E)) (ho:Nw g t mem ps k) (a:Nat) (ha:a < 256):
  Calls prog 63 #[i6 g.mb,i5 k,i5 a] w fun e w'=>e= .returned (i5 (Al.wv t.waits (mem.getD a 0) a))/\w'=w:=by
 obtain⟨tsb,mmb,rb,hc⟩:=B8 h ho;have WI:=hc.m0;have CS:=hc.m1;have PB:=hc.tk;have eH:=hc.b.cell 3;have Jc:=hc.kl;have hma:=hc.mm a ha;have p5:=ho.wl;have hw:=hid (h.row (i:=3) rfl);have PG:(0:Int)<=(k:Int):=Y
 have Iu:(k:Int) < (ps.length:Int):=Y
 have ha0:(0:Int)<=(a:Int):=Y
 have ha1:(a:Int) < (256:Int):=Y
 clear hc h ho;generalize hm:mem.getD a 0=mv at*;go_enter func63,ntmps63;go_wp2
 go_loop [7,8] (fun v i=>∃n:Nat,n<=t.waits.length/\i= i5 n/\v= i5 (Al.wv (t.waits.take n) mv a)) (fun _ i=>t.waits.length - (intOf i).toNat)
 case atStart=>exact⟨0,d6 _,rfl,rfl⟩
 case round=>
  obtain⟨n,hn,rfl,rfl⟩:=hrel;by_cases AX:n < t.waits.length
  ·obtain⟨wb,wc,ew,_,_,_,_,hwc,_⟩:=AG hw Y;have e1:g.w.p=some ⟨wb,0,none⟩:=by injection ew
   rw[e1] at eH;obtain⟨q1,q2⟩:=xC AX;have LG:=Jm t.waits;have r1:w.cell? ⟨wb,n*2,none⟩=some (i5 (t.waits.getD n (0,0)).1):=by rw[hwc (n*2) Y,<-Id];exact q1
   have r2:w.cell? ⟨wb,n*2+1,none⟩=some (i5 (t.waits.getD n (0,0)).2):=by rw[hwc (n*2+1) Y,<-Id];exact q2
   have DJ:(n:Int) < (t.waits.length:Int):=Y
   have Gu:(0:Int)<=(n:Int):=Y
   have inc:True->wrap64 ((n:Int)+1)=n+1:=fun _=>AaA n Y
   have HT:=hid (xA t.waits mv a AX);clear q1 q2 hwc LG ew e1;generalize (t.waits.getD n (0,0)).1=p1 at*;generalize (t.waits.getD n (0,0)).2=p2 at*;by_cases he:p1=(a:Int)
   ·have Ca:(p1==(a:Int))=true:=by simpa using he
    have HE:=hid he;clear he;go_wp2
    go_round
    case rel=>exact⟨n+1,AX,by go_num,by rw[HT.out,In HE.out]⟩
    case measure=>simp[intOf];omega
   ·have Ca:(p1==(a:Int))=false:=by simpa using he
    have HE:=hid he;clear he;go_wp2
    go_round
    case rel=>exact⟨n+1,AX,by go_num,by rw[HT.out,I HE.out]⟩
    case measure=>simp[intOf];omega
  ·have DJ:¬(n:Int) < (t.waits.length:Int):=Y
   have HT:=hid (show t.waits.take n=t.waits by rw[Qbo];omega);go_wp2;go_ret;rw[HT.out];exact⟨rfl,rfl⟩
def Vl (t:C9):C9:={t with waits:=t.waits.tail}
def Zp (t:C9) (mem:List Int):List Int:=match t.waits with
 | []=>mem
 | p::_=>mem.set p.1.toNat p.2
def AcK (g:VG) (t:C9) (mem:List Int) (ps:List Value) (E:List Ob) (w:World) (e:Ending) (w':World):Prop:=e= .returned (.tuple #[])/\∃c:SG,Ak w (g.Ar t mem ps E) w' (VG.Ar {g with w:=c} (Vl t) (Zp t mem) ps E)
theorem vq {w1 w2:World} {tb mb mc wb wc2 mmb a:Nat} {sc sr so st:SG} {pv:Int} {r:List (Int×Int)} (hw:t.waits=((a:Int),pv)::r) (ha:a < mem.length) (c:SG)
  (S:Ak w ((VG.mk tb sc sr ⟨some ⟨wb,0,none⟩,wc2⟩ so mb ⟨some ⟨mmb,0,none⟩,mc⟩ st).Ar t mem ps E) w1 (((VG.mk tb sc sr ⟨some ⟨wb,0,none⟩,wc2⟩ so mb ⟨some ⟨mmb,0,none⟩,mc⟩ st).Ar t mem ps E).set 6 (.row (.slice (some ⟨mmb,0,none⟩) mem.length mc) 2 1 mem.length ((Fy mem).set a (i5 pv)))))
  (k:Av [wb] w1 w2) (Ct:w2.ownsRow 0 83 2 (.slice c.p r.length c.c) r.length (CW r)) (hf:∀b,b∈(Value.slice c.p r.length c.c).ownBlock.toList->w1.heap.size<=b):
  Ak w ((VG.mk tb sc sr ⟨some ⟨wb,0,none⟩,wc2⟩ so mb ⟨some ⟨mmb,0,none⟩,mc⟩ st).Ar t mem ps E) (w2.setCell ⟨tb,3,none⟩ (.slice c.p r.length c.c)) ((VG.mk tb sc sr c so mb ⟨some ⟨mmb,0,none⟩,mc⟩ st).Ar (Vl t) (Zp t mem) ps E):=by
 have s1:=S.Am.swap (i:=3) (o:= .row (.slice (some ⟨wb,0,none⟩) t.waits.length wc2) 83 2 t.waits.length (CW t.waits)) (o':= .row (.slice c.p r.length c.c) 83 2 r.length (CW r)) rfl k Ct (by
   show((Value.slice c.p r.length c.c).ownBlock.toList).Nodup;cases (Value.slice c.p r.length c.c).ownBlock <;>simp) fun b hb=> .inr (hf b hb)
 have s2:=s1.Am.set (i:=0) (b:=tb) (c:= #[.slice sc.p t.Ab.length sc.c,i5 t.pc,.slice sr.p t.DA.length sr.c,.slice (some ⟨wb,0,none⟩) t.waits.length wc2,.slice so.p t.out.length so.c,i5 t.BG]) (T:=68) rfl 3 (.slice c.p r.length c.c);have s3:=S.trans (s1.trans s2);have e1:Vl t={t with waits:=r}:=by unfold Vl;rw[hw];rfl
 have e2:Zp t mem=mem.set a pv:=by unfold Zp;rw[hw];rfl
 have e3:Fy (mem.set a pv)=(Fy mem).set a (i5 pv):=by unfold Fy;rw[Qc6]
 have e4:(mem.set a pv).length=mem.length:=Qaa ..;have e5:(VG.mk tb sc sr c so mb ⟨some ⟨mmb,0,none⟩,mc⟩ st).Ar {t with waits:=r} (mem.set a pv) ps E=(((((VG.mk tb sc sr ⟨some ⟨wb,0,none⟩,wc2⟩ so mb ⟨some ⟨mmb,0,none⟩,mc⟩ st).Ar t mem ps E).set 6 (.row (.slice (some ⟨mmb,0,none⟩) mem.length mc) 2 1 mem.length ((Fy mem).set a (i5 pv)))).set 3 (.row (.slice c.p r.length c.c) 83 2 r.length (CW r))).set 0 (.Au tb (#[Value.slice sc.p t.Ab.length sc.c,i5 t.pc,.slice sr.p t.DA.length sr.c,.slice (some ⟨wb,0,none⟩) t.waits.length wc2,.slice so.p t.out.length so.c,i5 t.BG].setIfInBounds 3 (.slice c.p r.length c.c)) 68)):=by
  unfold VG.Ar VG.U1 VG.QC;dsimp only;rw[e3,e4];rfl
 rw[e1,e2,e5];exact s3
theorem SV:(prog.info? 83).map (fun i=>(i.zero,i.size,i.bytes))=some (some (.agg #[i5 0,i5 0]),2,16):=Fd
theorem Te (w:World) (g:VG) (t:C9) (mem:List Int) (ps:List Value) (E:List Ob) (k:Nat) (h:Az w (g.Ar t mem ps E)) (ho:Nw g t mem ps k):
  Calls prog 21 #[i6 g.mb,i5 k] w (AcK g t mem ps E w):=by
 obtain⟨tsb,mmb,rb,hc⟩:=B8 h ho;have WI:=hc.m0;have CS:=hc.m1;have PB:=hc.tk;have eH:=hc.b.cell 3;have Jc:=hc.kl;have PG:(0:Int)<=(k:Int):=Y
 have Iu:(k:Int) < (ps.length:Int):=Y
 have Ss:¬(k:Int) < 0:=Y
 cases hw:t.waits with
 | nil=>
  rw[hw] at eH;have H:=hid h;have e1:Vl t=t:=by unfold Vl;rw[hw];cases t;simp at hw;subst hw;rfl
  have e2:Zp t mem=mem:=by unfold Zp;rw[hw]
  have E1:=hid e1;have E2:=hid e2;clear hc h ho e1 e2 hw;go_enter func21,ntmps21;go_wp2
  go_end0
  exact⟨rfl,g.w,by rw[E1.out,E2.out];exact Ak.refl H⟩
 | cons p r=>
  obtain⟨fQ,cu⟩:=ho.wa p (by rw[hw];exact J ..);obtain⟨wb,wc,ew,_,_,_,_,hwc,_⟩:=AG (h.row (i:=3) rfl) (by rw[hw];simp);obtain⟨tb,sc,sr,⟨wp,wc2⟩,so,mb,⟨mp,mc⟩,st⟩:=g;have e1:wp=some ⟨wb,0,none⟩:=by injection ew
  have e2:mp=some ⟨mmb,0,none⟩:=hc.em;subst e1 e2;dsimp only at WI CS PB eH;obtain⟨pa,pv⟩:=p;obtain⟨a,rfl⟩:∃a:Nat,pa=a:=⟨pa.toNat,Y⟩;have ha:a < 256:=Y
  have LG:=Jm t.waits;have r1:w.cell? ⟨wb,0,none⟩=some (i5 a):=by rw[hwc 0 (by rw[LG,hw,IR];omega),<-Id,hw];rfl
  have r2:w.cell? ⟨wb,1,none⟩=some (i5 pv):=by rw[hwc 1 (by rw[LG,hw,IR];omega),<-Id,hw];rfl
  have qe:=ho.ml;have P2:r.length<=3:=by have:=ho.wl;rw[hw] at this;simp only[IR] at this;omega
  have hma:=hc.mm a ha;have oF:=(Bm (h.row (i:=6) rfl)).2.1 a;have S1:=hid (h.HU (i:=6) (g:=mmb) (n:=mem.length) (cap:=mc) (e:=2) (size:=1) (xs:=Fy mem) rfl a (by simp[Fy];omega) (i5 pv));have Pz:t.waits.length=r.length+1:=by rw[hw];rfl
  rw[Pz] at eH;have Hw:=hid hw;have Hml:=hid qe;clear hw hwc LG qe hc h ho Pz fQ cu ew;have qi:¬ps.length<=k:=Y
  have hr1:((r.length:Int)+1==0)=false:=by simp;omega
  have a0:(0:Int)<=(a:Int):=Y
  have a1:(a:Int) < (256:Int):=Y
  go_enter func21,ntmps21;go_upto_region 2 with fail
  refine BR (l:=[(0,true),(1,true),(2,true),(3,true),(4,true),(5,true),(6,true),(7,true),(8,true),(9,true),(10,true),(11,true),(12,true),(13,true),(14,true),(15,true),(16,true),(17,true),(18,true),(19,false)]) (fun W=>W.cell? ⟨mb,0,none⟩=some (.slice (some ⟨mmb,0,none⟩) 256 mc)/\W.cell? ⟨tb,3,none⟩=some (.slice (some ⟨wb,0,none⟩) (r.length+1) wc2)/\W.cell? ⟨wb,0,none⟩=some (i5 a)/\W.cell? ⟨wb,1,none⟩=some (i5 pv)) 19 ⟨WI,eH,r1,r2⟩ ?_;refine KQ ?_;refine Ch rfl (fun K hK=> ?_);go_simp;refine hK _ _ (fun h=>UV h AC) ?_;clear hK;simp only[DP];have s:=S1.trans (Ak.drew S1.Am);generalize (w.setCell ⟨mmb,a,none⟩ (Value.int IntKind.i64 pv)).drew=w1 at s⊢;have S:=hid s;have b3:=(s.Am.Au (i:=0) rfl).cell 3;have bf:=(s.Am.Au (i:=0) rfl).free 3;have bl:=(s.Am.Au (i:=0) rfl).lt;have hrw:=s.Am.row (i:=3) rfl;rw[Hw.out] at b3 hrw;have HR:=hid hrw;obtain⟨Pz,aX,Ot⟩:=Bm hrw;have eG:r.length+1<=wc2/\wc2<=maxLen:=by
   obtain⟨p',c',e',h1,h2⟩:=Rl hrw;cases e';exact⟨h1,h2⟩
  unfold maxLen at eG;obtain⟨Agp,AaN⟩:=eG;clear s S1 hma WI CS PB eH r1 r2 oF hrw;by_cases hr:r=[]
  ·subst hr;go_wp2;all_goals
    go_end0
    exact⟨rfl,⟨none,0⟩,vq Hw (by rw[Hml.out];exact ha) ⟨none,0⟩ S (Av.refl _ _) (Da _ _ _ _) (fun b hb=>by cases hb)⟩
  ·have yX:0 < r.length:=Qae.2 hr;have Ags:¬wc2=1:=Y
   have bq:r.length<=3:=P2;obtain⟨i0,hi,Zg⟩:=Qam.1 SV;simp only[Prod.mk.injEq] at Zg;obtain⟨Wx,dU,aW⟩:=Zg;have LG:=Jm r;have AaK:∀(j:Nat) (u:Value),(CW r)[j]?=some u->w1.cell? ⟨wb,2+j,none⟩=some u:=fun j u hj=>by
    have hjl:=(d9.1 hj).1;have iS:=Jm (((a:Int),pv)::r);rw[IR] at iS;rw[Pz (2+j) Y,<-Id];show(i5 (a:Int):: i5 pv::CW r)[2+j]?=some u;rw[show 2+j=j+1+1 by omega];exact hj
   have AdK:∀(u:Value),u∈CW r->u.oneCell'=true:=fun u hu=>by
    obtain⟨p,_,hp⟩:=Qay.1 hu;simp only[Pi,Qap,or_false] at hp;rcases hp with rfl | rfl <;>rfl
   have eA:∀w2,w1.grownBy w2 none->w2.cell? ⟨tb,3,none⟩=some (.slice (some ⟨wb,0,none⟩) (r.length+1) wc2):=fun w2 hg=>AU (Av.grown (Av.refl [] w1) hg (fun k hk=>by cases hk)) b3
   clear hr Pz;go_wp2_with (at_builtin;go_loud (refine wpList_append_lies _ rfl _ _ _ rfl 0 83 i0 _ 2 16 underlying66 hi Wx dU aW rfl Y _ 0 [] rfl (Da _ _ _ _) ⟨wb,2,none⟩ r.length (wc2 - 1) (CW r) ?_ LG ?_ ?_ yX (by unfold maxLen;omega) Y (d6 _) w1.heap.size rfl ?_))
   ·exact AaK
   ·exact AdK
   ·intro g cap w2 Ct hgr FA AX;have hg:g=w1.heap.size:=FA.resolve_left (fun h=>by cases h);subst hg;have K2:=hid (Av.grown (Av.refl [wb] w1) hgr (fun k hk=>by cases hk));have HO:=hid Ct;have b4:w2.cell? ⟨tb,3,none⟩=some (.slice (some ⟨wb,0,none⟩) (r.length+1) wc2):=eA w2 hgr;have b5:w2.frozen? ⟨tb,3,none⟩=false:=((S.Am.Au (i:=0) rfl).Bf (Av.grown (Av.refl [] w1) hgr (fun k hk=>by cases hk)) EQ).free 3;clear AaK AdK Ct hgr FA hi Wx dU aW LG eA b3;go_wp2
    go_end0
    exact⟨rfl,⟨some ⟨w1.heap.size,0,none⟩,cap⟩,vq Hw (by rw[Hml.out];exact ha) ⟨some ⟨w1.heap.size,0,none⟩,cap⟩ S K2 HO (fun b hb=>by simp[Value.ownBlock] at hb;omega)⟩
theorem Nw.fl (h:Nw g t mem ps k) (c:SG):Nw {g with w:=c} (Vl t) (Zp t mem) ps k:=by
 obtain⟨h1,h2,h3,h4,h5,h6⟩:=h;refine⟨?_,h2,?_,fun p hp=>h4 p (List.mem_of_mem_tail hp),h5,h6⟩
 ·unfold Zp;split
  ·exact h1
  ·rw[Qaa];exact h1
 ·show t.waits.tail.length<=4;rw[Qb8];omega
def Ul:Nat->C9×List Int->C9×List Int
 | 0,s=>s
 | n+1,s=>Ul n (Vl s.1,Zp s.1 s.2)
def tA (w:World) (tb:Nat):Nat:=match w.cell? ⟨tb,3,none⟩ with
 | some (.slice _ n _)=>n
 | _=>0
theorem dR (h:Az w (g.Ar t mem ps E)):tA w g.tb=t.waits.length:=by
 unfold tA;rw[(h.Au (i:=0) rfl).cell 3];rfl
theorem Tm (w:World) (g:VG) (t:C9) (mem:List Int) (ps:List Value) (E:List Ob) (k:Nat) (h:Az w (g.Ar t mem ps E)) (ho:Nw g t mem ps k):
  Calls prog 26 #[i6 g.mb,i5 k] w (fun e w'=>e= .returned (.tuple #[])/\∃c:SG,Ak w (g.Ar t mem ps E) w' (VG.Ar {g with w:=c} (Ul t.waits.length (t,mem)).1 (Ul t.waits.length (t,mem)).2 ps E)/\Nw {g with w:=c} (Ul t.waits.length (t,mem)).1 (Ul t.waits.length (t,mem)).2 ps k):=by
 generalize AF:Ul t.waits.length (t,mem)=res;have H:=hid h;have Ho:=hid ho;have AJ:=hid AF;clear h ho AF;go_enter func26,ntmps26;go_wp2;go_loopw [] (fun wr=>∃(c:SG) (t':C9) (mem':List Int),Ak w (g.Ar t mem ps E) wr (VG.Ar {g with w:=c} t' mem' ps E)/\Nw {g with w:=c} t' mem' ps k/\Ul t'.waits.length (t',mem')=res) (fun wr=>tA wr g.tb);case atStart=>exact⟨g.w,t,mem,Ak.refl H,Ho,AJ⟩
 case round=>
  obtain⟨c,t',mem',hs,ho,hr⟩:=hrel;obtain⟨tsb,mmb,rb,hc⟩:=B8 hs.Am ho;have CS:=hc.m1;have PB:=hc.tk;have eH:=hc.b.cell 3;have Jc:=hc.kl;have PG:(0:Int)<=(k:Int):=Y
  have Iu:(k:Int) < (ps.length:Int):=Y
  have HS:=hid hs;have HO:=hid ho;clear hc hs ho;by_cases h0:t'.waits.length=0
  ·rw[h0] at eH;rw[h0] at hr;have Hr:=hid hr;clear hr h0;go_wp2
   go_end0
   exact⟨rfl,c,by rw[<-Hr.out];exact HS.out,by rw[<-Hr.out];exact HO.out⟩
  ·have hgt:(0:Int) < (t'.waits.length:Int):=Y
   obtain⟨m,hm⟩:∃m,t'.waits.length=m+1:=⟨t'.waits.length - 1,Y⟩;have IK:Ul (Vl t').waits.length (Vl t',Zp t' mem')=res:=by
    rw[<-hr,hm];show Ul (List.length t'.waits.tail) _=_;rw[Qb8,hm];rfl
   have Hr:=hid IK;have Hm:=hid hm;have Hf:=hid (Te wr {g with w:=c} t' mem' ps E k HS.Am HO);clear hr h0 hm IK;go_wp2_with fail;refine Hf.mono ?_;rintro e w2 ⟨rfl,c2,Uf⟩;have HS2:=hid Uf;clear Uf;go_wp2;go_roundw;case rel=>exact⟨c2,Vl t',Zp t' mem',HS.trans HS2,HO.fl c2,Hr⟩
   case measure=>
    rw[dR (g:={g with w:=c2}) HS2.out.Am,dR (g:={g with w:=c}) HS.out.Am];show t'.waits.tail.length < _;rw[Qb8,Hm.out];omega
section
variable {w:World} {g:VG} {t:C9} {mem:List Int} {ps:List Value} {E:List Ob} {k:Nat}
theorem VG.DM (h:Az w (g.Ar t mem ps E)) {rb:Nat} (er:g.r.p=some ⟨rb,0,none⟩) {d:Nat} (hd:d < t.DA.length) (v:Int):Ak w (g.Ar t mem ps E) (w.setCell ⟨rb,d,none⟩ (i5 v)) (g.Ar (t.DM d v) mem ps E):=by
 obtain⟨tb,sc,⟨rp,rc⟩,sw,so,mb,sm,st⟩:=g;dsimp only at er;subst er;have s:=h.HU (i:=2) (g:=rb) (n:=t.DA.length) (cap:=rc) (e:=2) (size:=1) (xs:=Fy t.DA) rfl d (by simpa[Fy] using hd) (i5 v);have e1:Fy (t.DA.set d v)=(Fy t.DA).set d (i5 v):=by unfold Fy;rw[Qc6]
 have e2:(t.DA.set d v).length=t.DA.length:=Qaa ..;have e3:(VG.mk tb sc ⟨some ⟨rb,0,none⟩,rc⟩ sw so mb sm st).Ar (t.DM d v) mem ps E=((VG.mk tb sc ⟨some ⟨rb,0,none⟩,rc⟩ sw so mb sm st).Ar t mem ps E).set 2 (.row (.slice (some ⟨rb,0,none⟩) t.DA.length rc) 2 1 t.DA.length ((Fy t.DA).set d (i5 v))):=by
  unfold VG.Ar VG.U1 VG.QC C9.DM;dsimp only;rw[Qbq,e1,e2];rfl
 rw[e3];exact s
theorem VG.EL (h:Az w (g.Ar t mem ps E)) (s:Int):Ak w (g.Ar t mem ps E) (w.setCell ⟨g.tb,5,none⟩ (i5 s)) (g.Ar {t with BG:=s} mem ps E):=
 h.set (i:=0) (b:=g.tb) (T:=68) rfl 5 (i5 s)
theorem VG.Di (h:Az w (g.Ar t mem ps E)) (n:Nat):Ak w (g.Ar t mem ps E) (w.setCell ⟨g.tb,1,none⟩ (i5 n)) (g.Ar {t with pc:=n} mem ps E):=
 h.set (i:=0) (b:=g.tb) (T:=68) rfl 1 (i5 n)
theorem VG.rG (h:Az w (g.Ar t mem ps E)) {mmb:Nat} (em:g.m.p=some ⟨mmb,0,none⟩) {a:Nat} (ha:a < mem.length) (v:Int):Ak w (g.Ar t mem ps E) (w.setCell ⟨mmb,a,none⟩ (i5 v)) (g.Ar t (mem.set a v) ps E):=by
 obtain⟨tb,sc,sr,sw,so,mb,⟨mp,mc⟩,st⟩:=g;dsimp only at em;subst em;have s:=h.HU (i:=6) (g:=mmb) (n:=mem.length) (cap:=mc) (e:=2) (size:=1) (xs:=Fy mem) rfl a (by simpa[Fy] using ha) (i5 v);have e1:Fy (mem.set a v)=(Fy mem).set a (i5 v):=by unfold Fy;rw[Qc6]
 have e2:(mem.set a v).length=mem.length:=Qaa ..;have e3:(VG.mk tb sc sr sw so mb ⟨some ⟨mmb,0,none⟩,mc⟩ st).Ar t (mem.set a v) ps E=((VG.mk tb sc sr sw so mb ⟨some ⟨mmb,0,none⟩,mc⟩ st).Ar t mem ps E).set 6 (.row (.slice (some ⟨mmb,0,none⟩) mem.length mc) 2 1 mem.length ((Fy mem).set a (i5 v))):=by
  unfold VG.Ar VG.U1 VG.QC;dsimp only;rw[e1,e2];rfl
 rw[e3];exact s
theorem Nw.DM (h:Nw g t mem ps k) (d v:Int):Nw g (t.DM d v) mem ps k:=⟨h.1,by show(t.DA.set _ _).length=8;rw[Qaa];exact h.2,h.3,h.4,h.5,h.6⟩
theorem Nw.EL (h:Nw g t mem ps k) (s:Int):Nw g {t with BG:=s} mem ps k:=⟨h.1,h.2,h.3,h.4,h.5,h.6⟩
theorem Nw.Di (h:Nw g t mem ps k) (s:Nat):Nw g {t with pc:=s} mem ps k:=⟨h.1,h.2,h.3,h.4,h.5,h.6⟩
theorem Nw.rG (h:Nw g t mem ps k) (a:Nat) (v:Int):Nw g t (mem.set a v) ps k:=⟨by rw[Qaa];exact h.1,h.2,h.3,h.4,h.5,h.6⟩
theorem Lp (h:Az w (g.Ar t mem ps E)) {rb:Nat} (er:g.r.p=some ⟨rb,0,none⟩) (i:Nat):w.frozen? ⟨rb,i,none⟩=false:=by
 have:=h.row (i:=2) rfl;rw[er] at this;exact(Bm this).2.1 i
theorem eL (h:Az w (g.Ar t mem ps E)) {mmb:Nat} (em:g.m.p=some ⟨mmb,0,none⟩) (i:Nat):w.frozen? ⟨mmb,i,none⟩=false:=by
 have:=h.row (i:=6) rfl;rw[em] at this;exact(Bm this).2.1 i
end
def P8:GI->Int->Int->C9×List Int->C9×List Int
 | .load d _ _,p,_,s=>if p < 0\/256<=p then ({s.1 with BG:=9},s.2) else (s.1.DM d (Al.wv s.1.waits (s.2.getD p.toNat 0) p),s.2)
 | .store _ _ _,p,q,s=>if p < 0\/256<=p then ({s.1 with BG:=9},s.2) else
  let s:=if s.1.waits.length=4 then (Vl s.1,Zp s.1 s.2) else s
  ({s.1 with waits:=s.1.waits++[(p,q)]},s.2)
 | .JL d _ _ _ c,p,q,s=>
  let z:=Ul s.1.waits.length s
  if p < 0\/256<=p then ({z.1 with BG:=9},z.2) else
   if Al.wv z.1.waits (z.2.getD p.toNat 0) p=q then (z.1.DM d 1,z.2.set p.toNat (z.1.ev c)) else (z.1.DM d 0,z.2)
 | .DL d _ _ _,p,q,s=>
  let z:=Ul s.1.waits.length s
  if p < 0\/256<=p then ({z.1 with BG:=9},z.2) else
   (z.1.DM d (Al.wv z.1.waits (z.2.getD p.toNat 0) p),z.2.set p.toNat (wrap64 (Al.wv z.1.waits (z.2.getD p.toNat 0) p+q)))
 | _,_,_,s=>s
def Aam (g:VG) (t:C9) (mem:List Int) (s:C9×List Int) (ps:List Value) (E:List Ob) (k:Nat) (w:World) (e:Ending) (w':World):Prop:=e= .returned (.tuple #[])/\∃c:SG,Ak w (g.Ar t mem ps E) w' (VG.Ar {g with w:=c} s.1 s.2 ps E)/\Nw {g with w:=c} s.1 s.2 ps k
theorem sY (w:World) (g:VG) (t:C9) (mem:List Int) (ps:List Value) (E:List Ob) (k:Nat) (h:Az w (g.Ar t mem ps E)) (ho:Nw g t mem ps k) (d:Nat) (hd:d < 8) (a:Ag) (j p q:Int):
  Calls prog 41 #[i6 g.mb,i5 k,(GI.load d a j).DR.val,i5 p,i5 q] w (Aam g t mem (P8 (.load d a j) p q (t,mem)) ps E k w):=by
 generalize AF:P8 (.load d a j) p q (t,mem)=res;have AJ:=hid AF;have s0:=Ak.alloc h (.cells (GI.load d a j).DR.cells 101);have bx:=BM.new w (GI.load d a j).DR.cells 101;have Ho:=hid ho;unfold GI.DR Bj.of at*;unfold Bj.val Bj.cells at*;dsimp only at*;clear AF;go_enter func41,ntmps41;go_upto_region 1 with fail
 generalize FT:w.heap.size=b0 at*;generalize w.alloc _=w1 at*;obtain⟨tsb,mmb,rb,hc⟩:=B8 s0.Am ho;have CS:=hc.m1;have PB:=hc.tk;have Jc:=hc.kl;have PG:(0:Int)<=(k:Int):=Y
 have Iu:(k:Int) < (ps.length:Int):=Y
 have xe:=bx.cell 0;have GG:=bx.cell 1;have H:=hid s0;have HC:=hid hc;have HR:=hid (hc.rg d hd);have QI:=hc.b.cell 2;have kT:=hc.b.cell 5;have qj:=hc.b.free 5;have bC:(0:Int)<=(d:Int):=Y
 have X0:(d:Int) < 8:=Y
 have C6:=Lp s0.Am hc.er d;clear s0 hc ho bx h FT;by_cases hp:p < 0\/256<=p
 ·exact nab
 ·obtain⟨n,rfl⟩:∃n:Nat,p=n:=⟨p.toNat,Y⟩;have hn:n < 256:=Y
  have cu:¬(n:Int) < 0:=Y
  have Ib:¬(256:Int)<=n:=Y
  have wM:=hid (Rr w1 g t mem ps E k H.Am Ho n hn);have HS:=hid (show(t.DM d (Al.wv t.waits (mem.getD n 0) n),mem)=res by rw[<-AJ.out];unfold P8;dsimp only;rw[I hp];rfl);have P2:=hid Ho.rl;clear hp;go_wp2_with fail;refine wM.mono ?_;rintro e w2 ⟨rfl,rfl⟩;generalize Al.wv t.waits (mem.getD n 0) n=v at*;go_upto_region 10 with fail
  refine BR (l:=[(0,true),(1,true),(2,true),(3,true),(4,true),(5,true),(6,true),(7,true),(8,false)]) (fun W=>W.cell? ⟨g.tb,2,none⟩=some (.slice (some ⟨rb,0,none⟩) 8 g.r.c)/\W.cell? ⟨b0,1,none⟩=some (i5 d)) 8 ⟨QI,GG⟩ ?_;refine KQ ?_;refine Ch rfl (fun K hK=> ?_);have yX:=HR.out;go_simp;refine hK _ _ (fun h=>UV h AC) ?_;clear hK;simp only[DP];go_wp2
  go_end0
  exact⟨rfl,g.w,by rw[<-HS.out];exact H.trans ((VG.DM H.Am HC.er (by rw[P2.out];exact hd) v).trans (Ak.drew (VG.DM H.Am HC.er (by rw[P2.out];exact hd) v).Am)),by rw[<-HS.out];exact Ho.DM d v⟩
theorem Vv (l:List (Int×Int)) (p q:Int):CW (l++[(p,q)])=CW l++(#[Value.int .i64 p,i5 q]:Array Value).toList:=by
 unfold CW;rw[Qba];rfl
theorem qL {p q:Int} (S:Ak w (g.Ar t mem ps E) w6 ((g.Ar t mem ps E).set 3 (.row (.slice (some ⟨g6,0,none⟩) (t.waits.length+1) AZ) 83 2 (t.waits.length+1) (CW t.waits++(#[Value.int .i64 p,i5 q]:Array Value).toList)))):
  Ak w (g.Ar t mem ps E) (w6.setCell ⟨g.tb,3,none⟩ (.slice (some ⟨g6,0,none⟩) (t.waits.length+1) AZ)) (VG.Ar {g with w:=⟨some ⟨g6,0,none⟩,AZ⟩} {t with waits:=t.waits++[(p,q)]} mem ps E):=by
 have s:=S.trans (S.Am.set (i:=0) (b:=g.tb) (T:=68) rfl 3 (.slice (some ⟨g6,0,none⟩) (t.waits.length+1) AZ));have e:VG.Ar {g with w:=⟨some ⟨g6,0,none⟩,AZ⟩} {t with waits:=t.waits++[(p,q)]} mem ps E=(((g.Ar t mem ps E).set 3 (.row (.slice (some ⟨g6,0,none⟩) (t.waits.length+1) AZ) 83 2 (t.waits.length+1) (CW t.waits++(#[Value.int .i64 p,i5 q]:Array Value).toList))).set 0 (.Au g.tb (#[Value.slice g.c.p t.Ab.length g.c.c,i5 t.pc,.slice g.r.p t.DA.length g.r.c,.slice g.w.p t.waits.length g.w.c,.slice g.o.p t.out.length g.o.c,i5 t.BG].setIfInBounds 3 (.slice (some ⟨g6,0,none⟩) (t.waits.length+1) AZ)) 68)):=by
  unfold VG.Ar VG.U1 VG.QC;dsimp only;rw[Vv,V];rfl
 rw[e];exact s
theorem Nw.push (h:Nw g t mem ps k) (hw:t.waits.length<=3) {n:Nat} (hn:n < 256) (q:Int) (c:SG):Nw {g with w:=c} {t with waits:=t.waits++[((n:Int),q)]} mem ps k:=
 ⟨h.1,h.2,by show(t.waits++_).length<=4;rw[V];simp;omega,fun x hx=>by
   rcases Nm.1 hx with hx | hx
   · exact h.4 x hx
   · rw[Z] at hx;subst hx;dsimp only;omega,h.5,h.6⟩
theorem nC (w:World) (g:VG) (t:C9) (mem:List Int) (ps:List Value) (E:List Ob) (k:Nat) (h:Az w (g.Ar t mem ps E)) (ho:Nw g t mem ps k) (a b:Ag) (j:Int) (p q:Int):
  Calls prog 41 #[i6 g.mb,i5 k,(GI.store a j b).DR.val,i5 p,i5 q] w (Aam g t mem (P8 (GI.store a j b) p q (t,mem)) ps E k w):=by
 generalize AF:P8 (GI.store a j b) p q (t,mem)=res;have AJ:=hid AF;have s0:=Ak.alloc h (.cells (GI.store a j b).DR.cells 101);have bx:=BM.new w (GI.store a j b).DR.cells 101;have Ho:=hid ho;unfold GI.DR Bj.of at*;unfold Bj.val Bj.cells at*;dsimp only at*;clear AF;go_enter func41,ntmps41;go_upto_region 1 with fail
 generalize FT:w.heap.size=b0 at*;generalize w.alloc _=w1 at*;obtain⟨tsb,mmb,rb,hc⟩:=B8 s0.Am ho;have CS:=hc.m1;have PB:=hc.tk;have Jc:=hc.kl;have PG:(0:Int)<=(k:Int):=Y
 have Iu:(k:Int) < (ps.length:Int):=Y
 have xe:=bx.cell 0;have H:=hid s0;have eH:=hc.b.cell 3;have kT:=hc.b.cell 5;have qj:=hc.b.free 5;clear s0 bx h FT;have p5:=ho.wl;have Hwl:=hid p5;clear hc ho;by_cases hp:p < 0\/256<=p
 ·exact nab
 ·obtain⟨n,rfl⟩:∃n:Nat,p=n:=⟨p.toNat,Y⟩;have hn:n < 256:=Y
  have Hn:=hid hn;have cu:¬(n:Int) < 0:=Y
  have Ib:¬(256:Int)<=n:=Y
  have wM:=hid (Rr w1 g t mem ps E k H.Am Ho n hn);by_cases h4:t.waits.length=4
  ·have HS:=hid (show({Vl t with waits:=(Vl t).waits++[((n:Int),q)]},Zp t mem)=res by rw[<-AJ.out];unfold P8;dsimp only;rw[I hp,In h4]);have h4':((t.waits.length:Int)==4)=true:=by rw[h4];rfl
   have Hf:=hid (Te w1 g t mem ps E k H.Am Ho);have Ot:(Vl t).waits.length<=3:=by show t.waits.tail.length<=3;rw[Qb8];omega
   have Hw3:=hid Ot;clear hp hn h4 p5;go_wp2_with fail;refine wM.mono ?_;rintro e w2 ⟨rfl,rfl⟩;go_wp2_with fail;refine Hf.mono ?_;rintro e w3 ⟨rfl,c2,Uf⟩;have S:=hid (H.trans Uf);have HO:=hid (Ho.fl c2);clear Uf eH kT qj CS PB wM;obtain⟨tsb2,mmb2,rb2,JC⟩:=B8 S.Am HO.out;have kb3:=JC.b.cell 3;obtain⟨i0,hi,Zg⟩:=Qam.1 SV;simp only[Prod.mk.injEq] at Zg;obtain⟨Wx,dU,aW⟩:=Zg;have hlw:(Vl t).waits.length+1<=maxLen:=by unfold maxLen;omega
   have NH:((Vl t).waits.length+1)*16<=140737488355328:=Y
   clear JC;go_wp2_with (first | (at_builtin;refine B6 16 _ _ _ i0 _ #[i5 (n:Int),i5 q] _ S.Am (k:=3) rfl Do Do underlying66 hi Wx dU aW rfl Y Do Do rfl (by simp[Value.oneCell']) hlw NH ?_;intro g6 AZ w6 AD _;have q1:=(AD.Am.Au (i:=0) rfl).cell 3;have q2:=(AD.Am.Au (i:=0) rfl).free 3;have q3:=(AD.Am.Au (i:=0) rfl).lt;have qz:=hid AD;clear AD kb3) | fail)
   go_end0
   exact⟨rfl,⟨some ⟨g6,0,none⟩,AZ⟩,by rw[<-HS.out];exact S.trans (qL qz),by rw[<-HS.out];exact HO.push Hw3 Hn q _⟩
  ·have HS:=hid (show({t with waits:=t.waits++[((n:Int),q)]},mem)=res by rw[<-AJ.out];unfold P8;dsimp only;rw[I hp,I h4]);have h4':((t.waits.length:Int)==4)=false:=by rw[NE];omega
   have Ot:t.waits.length<=3:=Y
   have Hw3:=hid Ot;have S:=H;have HO:=Ho;clear hp hn h4;go_wp2_with fail;refine wM.mono ?_;rintro e w2 ⟨rfl,rfl⟩;obtain⟨tsb2,mmb2,rb2,JC⟩:=B8 S.Am HO.out;have kb3:=JC.b.cell 3;obtain⟨i0,hi,Zg⟩:=Qam.1 SV;simp only[Prod.mk.injEq] at Zg;obtain⟨Wx,dU,aW⟩:=Zg;have hlw:t.waits.length+1<=maxLen:=by unfold maxLen;omega
   have NH:(t.waits.length+1)*16<=140737488355328:=Y
   clear JC;go_wp2_with (first | (at_builtin;refine B6 16 _ _ _ i0 _ #[i5 (n:Int),i5 q] _ S.Am (k:=3) rfl Do Do underlying66 hi Wx dU aW rfl Y Do Do rfl (by simp[Value.oneCell']) hlw NH ?_;intro g6 AZ w6 AD _;have q1:=(AD.Am.Au (i:=0) rfl).cell 3;have q2:=(AD.Am.Au (i:=0) rfl).free 3;have q3:=(AD.Am.Au (i:=0) rfl).lt;have qz:=hid AD;clear AD kb3) | fail)
   go_end0
   exact⟨rfl,⟨some ⟨g6,0,none⟩,AZ⟩,by rw[<-HS.out];exact S.trans (qL qz),by rw[<-HS.out];exact HO.push Hw3 Hn q _⟩
theorem VG.box (h:Az w (g.Ar t mem ps E)) (o:Obj):Ak w (g.Ar t mem ps E) (w.alloc o) (g.Ar t mem ps (.SH w.heap.size o::E)):=by
 refine(Ak.new h o).trans (Ak.Ux (Ak.new h o).Am ?_);unfold VG.Ar;rw[PP,PP];exact(Qbr _ (Qbr _ Qb0))
theorem VG.Im {x:Ob} (h:Az w (g.Ar t mem ps (x::E))):Ak w (g.Ar t mem ps (x::E)) w (g.Ar t mem ps E):=by
 have e1:g.Ar t mem ps (x::E)=(g.U1 t++g.QC mem ps)++[x]++E:=by unfold VG.Ar;simp
 have e2:g.Ar t mem ps E=(g.U1 t++g.QC mem ps)++E:=by unfold VG.Ar;simp
 rw[e1] at h⊢;rw[e2];exact Ak.drop h
theorem rE (t:C9) (d v u:Int):(t.DM d v).DM d u=t.DM d u:=by unfold C9.DM;simp
theorem Aei (t:C9) (c:Ag):(if c.rv.B0 then t.DA.getD c.rv.v.toNat 0 else c.rv.v)=t.ev c:=rfl
theorem sX (w:World) (g:VG) (t:C9) (mem:List Int) (ps:List Value) (E:List Ob) (k:Nat) (h:Az w (g.Ar t mem ps E)) (ho:Nw g t mem ps k) (d:Nat) (hd:d < 8) (a b:Ag) (j:Int) (p q:Int):
  Calls prog 41 #[i6 g.mb,i5 k,(GI.DL d a j b).DR.val,i5 p,i5 q] w (Aam g t mem (P8 (GI.DL d a j b) p q (t,mem)) ps E k w):=by
 generalize AF:P8 (GI.DL d a j b) p q (t,mem)=res;have AJ:=hid AF;have s0:=VG.box h (.cells (GI.DL d a j b).DR.cells 101);have Ho:=hid ho;unfold GI.DR Bj.of at*;unfold Bj.val Bj.cells at*;dsimp only at*;clear AF;go_enter func41,ntmps41;go_upto_region 1 with fail
 generalize FT:w.heap.size=b0 at*;generalize w.alloc _=w1 at*;obtain⟨tsb,mmb,rb,hc⟩:=B8 s0.Am ho;have CS:=hc.m1;have PB:=hc.tk;have Jc:=hc.kl;have PG:(0:Int)<=(k:Int):=Y
 have Iu:(k:Int) < (ps.length:Int):=Y
 have xe:=(s0.Am.Au (i:=8) rfl).cell 0;have H:=hid s0;clear s0 h FT;have bC:(0:Int)<=(d:Int):=Y
 have X0:(d:Int) < 8:=Y
 replace hd:=hid hd;have Hd:=hid (Tm w1 g t mem ps _ k H.Am Ho);clear hc ho;go_wp2_with fail;refine Hd.mono ?_;rintro e w2 ⟨rfl,c2,Uf,SY⟩;unfold P8 at AJ;dsimp only at AJ;generalize (Ul t.waits.length (t,mem)).1=T at*;generalize (Ul t.waits.length (t,mem)).2=MM at*;have S:=hid (H.trans Uf);have HO:=hid SY;obtain⟨tsb2,mmb2,rb2,JC⟩:=B8 S.Am HO.out;have kT:=JC.b.cell 5;have qj:=JC.b.free 5;clear JC Uf SY Hd CS PB xe;by_cases hp:p < 0\/256<=p
 ·exact naa
 ·obtain⟨n,rfl⟩:∃n:Nat,p=n:=⟨p.toNat,Y⟩;have hn:n < 256:=Y
  have Hn:=hid hn;have cu:¬(n:Int) < 0:=Y
  have Ib:¬(256:Int)<=n:=Y
  have Gu:(0:Int)<=(n:Int):=Y
  have K8:(n:Int) < 256:=Y
  have wM:=hid (Rr w2 {g with w:=c2} T MM ps _ k S.Am HO n hn);replace AJ:=hid (AJ.symm.trans (I hp));rw[Qbq] at AJ;have hx9:=(S.Am.Au (i:=8) rfl).cell 0;clear hp hn;go_wp2_with fail;refine wM.mono ?_;rintro e w3 ⟨rfl,rfl⟩;generalize Al.wv T.waits (MM.getD n 0) n=v at*;clear kT qj wM;obtain⟨tsb,mmb,rb,hc⟩:=B8 S.Am HO.out;have f2:=hc.b.cell 2;have fx:=(S.Am.Au (i:=8) rfl).cell 1;have fr:=hc.rg d hd.out;have ff:=Lp S.Am hc.er d;have He:=hid hc.er;have fm:=hc.m0;have fn:=hc.mm n Hn.out;have fg:=eL S.Am hc.em n;have Hm:=hid hc.em;clear hc;go_upto_region 23 with fail
  have s1:=VG.rG S.Am Hm (a:=n) (by rw[HO.out.ml];exact Hn.out) (wrap64 (v+q));have RR:=HO.rG n (wrap64 (v+q));clear f2 fx fr ff He fm fn fg Hm;generalize XA:w3.setCell ⟨mmb,n,none⟩ _=w4 at*;clear XA;obtain⟨tsb4,mmb4,rb4,WR⟩:=B8 s1.Am RR;have f24:=WR.b.cell 2;have fx4:=(s1.Am.Au (i:=8) rfl).cell 1;have fr4:=WR.rg d hd.out;have ff4:=Lp s1.Am WR.er d;have He4:=hid WR.er;clear WR;have S1:=hid (S.trans s1);have QW:=hid RR;clear s1 RR;go_upto_region 23 with fail
  refine BR (l:=[(0,true),(1,true),(2,true),(3,true),(4,true),(5,true),(6,true),(7,true),(8,false)]) (fun W=>W.cell? ⟨g.tb,2,none⟩=some (.slice (some ⟨rb4,0,none⟩) 8 g.r.c)/\W.cell? ⟨b0,1,none⟩=some (i5 d)) 8 ⟨f24,fx4⟩ ?_;refine KQ ?_;refine Ch rfl (fun K hK=> ?_);go_simp;refine hK _ _ (fun h=>UV h AC) ?_;clear hK;simp only[DP];go_wp2
  go_end0
  have s2:=VG.DM S1.Am He4 (d:=d) (by rw[QW.out.rl];exact hd.out) v;have s3:=s2.trans (Ak.drew s2.Am);exact⟨rfl,c2,by rw[AJ.out];exact(S1.trans s3).trans (VG.Im s3.Am),by rw[AJ.out];exact QW.DM d v⟩
theorem yD (w:World) (g:VG) (t:C9) (mem:List Int) (ps:List Value) (E:List Ob) (k:Nat) (h:Az w (g.Ar t mem ps E)) (ho:Nw g t mem ps k) (d:Nat) (hd:d < 8) (a b c:Ag) (hcr:c.B0=true->0<=c.v/\c.v < 8) (j:Int) (p q:Int):
  Calls prog 41 #[i6 g.mb,i5 k,(GI.JL d a j b c).DR.val,i5 p,i5 q] w (Aam g t mem (P8 (GI.JL d a j b c) p q (t,mem)) ps E k w):=by
 generalize AF:P8 (GI.JL d a j b c) p q (t,mem)=res;have AJ:=hid AF;have s0:=VG.box h (.cells (GI.JL d a j b c).DR.cells 101);have Ho:=hid ho;unfold GI.DR Bj.of at*;unfold Bj.val Bj.cells at*;dsimp only at*;clear AF;go_enter func41,ntmps41;go_upto_region 1 with fail
 generalize FT:w.heap.size=b0 at*;generalize w.alloc _=w1 at*;obtain⟨tsb,mmb,rb,hc⟩:=B8 s0.Am ho;have CS:=hc.m1;have PB:=hc.tk;have Jc:=hc.kl;have PG:(0:Int)<=(k:Int):=Y
 have Iu:(k:Int) < (ps.length:Int):=Y
 have xe:=(s0.Am.Au (i:=8) rfl).cell 0;have H:=hid s0;clear s0 h FT;have bC:(0:Int)<=(d:Int):=Y
 have X0:(d:Int) < 8:=Y
 replace hd:=hid hd;have Hd:=hid (Tm w1 g t mem ps _ k H.Am Ho);clear hc ho;go_wp2_with fail;refine Hd.mono ?_;rintro e w2 ⟨rfl,c2,Uf,SY⟩;unfold P8 at AJ;dsimp only at AJ;generalize (Ul t.waits.length (t,mem)).1=T at*;generalize (Ul t.waits.length (t,mem)).2=MM at*;have S:=hid (H.trans Uf);have HO:=hid SY;obtain⟨tsb2,mmb2,rb2,JC⟩:=B8 S.Am HO.out;have kT:=JC.b.cell 5;have qj:=JC.b.free 5;clear JC Uf SY Hd CS PB xe;by_cases hp:p < 0\/256<=p
 ·exact naa
 ·obtain⟨n,rfl⟩:∃n:Nat,p=n:=⟨p.toNat,Y⟩;have hn:n < 256:=Y
  have Hn:=hid hn;have cu:¬(n:Int) < 0:=Y
  have Ib:¬(256:Int)<=n:=Y
  have Gu:(0:Int)<=(n:Int):=Y
  have K8:(n:Int) < 256:=Y
  have wM:=hid (Rr w2 {g with w:=c2} T MM ps _ k S.Am HO n hn);replace AJ:=hid (AJ.symm.trans (I hp));rw[Qbq] at AJ;have hx9:=(S.Am.Au (i:=8) rfl).cell 0;clear hp hn;go_wp2_with fail;refine wM.mono ?_;rintro e w3 ⟨rfl,rfl⟩;generalize Al.wv T.waits (MM.getD n 0) n=v at*;clear kT qj wM;obtain⟨tsb,mmb0,rb0,Ui⟩:=B8 S.Am HO.out;have hx4:=(S.Am.Au (i:=8) rfl).cell 6;have hx5:=(S.Am.Au (i:=8) rfl).cell 7;have Hg:=hid (VB c.rv hcr w3 g.tb rb0 g.r.c _ _ _ _ _ T.DA Ui.b Ui.rg);rw[Aei] at Hg;generalize uY:T.ev c=cv at*;clear Ui;go_wp2_with fail;refine Hg.mono ?_;rintro e w4 ⟨rfl,XE⟩;have s4:=Ak.quiet S.Am XE;clear hx4 hx5 hx9 Hg hcr uY XE;obtain⟨tsb4,mmb4,rb4,WR⟩:=B8 s4.Am HO.out;have f24:=WR.b.cell 2;have fx4:=(s4.Am.Au (i:=8) rfl).cell 1;have fr4:=WR.rg d hd.out;have ff4:=Lp s4.Am WR.er d;have He4:=hid WR.er;clear WR;have S4:=hid (S.trans s4);clear s4;go_upto_region 17 with fail
  refine BR (l:=[(0,true),(1,true),(2,true),(3,true),(4,true),(5,true),(6,true),(7,false)]) (fun W=>W.cell? ⟨g.tb,2,none⟩=some (.slice (some ⟨rb4,0,none⟩) 8 g.r.c)/\W.cell? ⟨b0,1,none⟩=some (i5 d)) 7 ⟨f24,fx4⟩ ?_;refine KQ ?_;refine Ch rfl (fun K hK=> ?_);go_simp;refine hK _ _ (fun h=>UV h AC) ?_;clear hK;simp only[DP];have s5:=S4.trans (VG.DM S4.Am He4 (d:=d) (by rw[HO.out.rl];exact hd.out) 0);replace s5:=s5.trans (Ak.drew s5.Am);have eh:=HO.DM d 0;clear f24 fx4 fr4 ff4;generalize (w4.setCell ⟨rb4,d,none⟩ (i5 0)).drew=w5 at s5⊢;obtain⟨tsb5,mmb5,rb5,iZ⟩:=B8 s5.Am eh;have f25:=iZ.b.cell 2;have fx5:=(s5.Am.Au (i:=8) rfl).cell 1;have fr5:=iZ.rg d hd.out;have ff5:=Lp s5.Am iZ.er d;have He5:=hid iZ.er;have fm5:=iZ.m0;have fn5:=iZ.mm n Hn.out;have fg5:=eL s5.Am iZ.em n;have Hm5:=hid iZ.em;clear iZ;have S5:=hid s5;have xv:=hid eh;clear s5 eh;by_cases hq:v=q
  ·rw[In hq] at AJ;have hq':(v==q)=true:=by simpa using hq
   clear hq;go_upto_region 20 with fail
   have s6:=S5.trans (VG.rG S5.Am Hm5 (a:=n) (by rw[HO.out.ml];exact Hn.out) cv);have ho6:=xv.rG n cv;clear f25 fx5 fr5 ff5 fm5 fn5 fg5;generalize hw6:w5.setCell ⟨mmb5,n,none⟩ _=w6 at*;clear hw6;obtain⟨tsb6,mmb6,rb6,fW⟩:=B8 s6.Am ho6;have f26:=fW.b.cell 2;have fx6:=(s6.Am.Au (i:=8) rfl).cell 1;have fr6:=fW.rg d hd.out;have ff6:=Lp s6.Am fW.er d;have He6:=hid fW.er;clear fW;have S6:=hid s6;have HO6:=hid ho6;clear s6 ho6;go_upto_region 20 with fail
   refine BR (l:=[(0,true),(1,true),(2,true),(3,true),(4,true),(5,true),(6,true),(7,false)]) (fun W=>W.cell? ⟨g.tb,2,none⟩=some (.slice (some ⟨rb6,0,none⟩) 8 g.r.c)/\W.cell? ⟨b0,1,none⟩=some (i5 d)) 7 ⟨f26,fx6⟩ ?_;refine KQ ?_;refine Ch rfl (fun K hK=> ?_);go_simp;refine hK _ _ (fun h=>UV h AC) ?_;clear hK;simp only[DP];go_wp2
   go_end0
   have s7:=VG.DM S6.Am He6 (d:=d) (by rw[HO6.out.rl];exact hd.out) 1;have s8:=s7.trans (Ak.drew s7.Am);rw[rE] at s8;have ho8:=HO6.DM d 1;rw[rE] at ho8;exact⟨rfl,c2,by rw[AJ.out];exact(S6.trans s8).trans (VG.Im s8.Am),by rw[AJ.out];exact ho8⟩
  ·rw[I hq] at AJ;have hq':(v==q)=false:=by rw[NE];exact hq
   clear hq;go_wp2
   go_end0
   exact⟨rfl,c2,by rw[AJ.out];exact S5.trans (VG.Im S5.Am),by rw[AJ.out];exact xv.out⟩
def ly (i:GI) (s:C9×List Int):C9×List Int:=match i with
 | .Sq d a=>(s.1.DM d (s.1.ev a),s.2)
 | .op n d a b=>match Co n (s.1.ev a) (s.1.ev b) with
  | none=>({s.1 with BG:=1},s.2)
  | some v=>(s.1.DM d v,s.2)
 | .IV=>Ul s.1.waits.length s
 | .out a=>({s.1 with out:=s.1.out++[s.1.ev a]},s.2)
 | .Gb q=>({s.1 with pc:=q.toNat},s.2)
 | .jz a q=>if s.1.ev a=0 then ({s.1 with pc:=q.toNat},s.2) else s
 | .EF k=>({s.1 with BG:=k},s.2)
 | .halt=>({s.1 with BG:=10},s.2)
 | .load d a j=>P8 (.load d a j) (wrap64 (s.1.ev a+j)) 0 s
 | .store a j b=>P8 (.store a j b) (wrap64 (s.1.ev a+j)) (s.1.ev b) s
 | .JL d a j b c=>P8 (.JL d a j b c) (wrap64 (s.1.ev a+j)) (s.1.ev b) s
 | .DL d a j b=>P8 (.DL d a j b) (wrap64 (s.1.ev a+j)) (s.1.ev b) s
def cN (Ab:List GI) (s:C9×List Int):C9×List Int:=
 if s.1.BG≠0 then s else match Ab[s.1.pc]? with
  | none=>({s.1 with BG:=10},s.2)
  | some i=>ly i ({s.1 with pc:=s.1.pc+1},s.2)
def Aes (g:VG) (t:C9) (mem:List Int) (s:C9×List Int) (ps:List Value) (E:List Ob) (k:Nat) (w:World) (e:Ending) (w':World):Prop:=e= .returned (.tuple #[])/\∃c o:SG,Ak w (g.Ar t mem ps E) w' (VG.Ar {g with w:=c,o:=o} s.1 s.2 ps E)/\Nw {g with w:=c,o:=o} s.1 s.2 ps k
theorem X8 (l:List Bj):(Gy l).length=l.length*9:=by
 induction l with
 | nil=>rfl
 | cons p r ih=>
  show(List.flatMap _ (p::r)).length=_;rw[Qas,V];show 9+(Gy r).length=_;rw[ih,IR];omega
theorem zX {l:List Bj} {n:Nat} {r:Bj} (h:l[n]?=some r) (j:Nat) (hj:j < 9):(Gy l)[n*9+j]?=r.cells.toList[j]?:=by
 induction l generalizing n with
 | nil=>simp at h
 | cons p q ih=>
  show(List.flatMap _ (p::q))[_]?=_;rw[Qas];have h9:p.cells.toList.length=9:=rfl;cases n with
  | zero=>
   have e:p=r:=by simpa using h
   subst e;rw[m9 Y,show 0*9+j=j by omega]
  | succ n=>
   rw[Qag Y,show(n+1)*9+j - p.cells.toList.length=n*9+j by omega];exact ih (by simpa using h)
theorem jt (h:Az w (g.Ar t mem ps E)) {r:Bj} (hr:t.Ab[t.pc]?=some r):∃cb,g.c.p=some ⟨cb,0,none⟩/\w.rangeAt cb (t.pc*9) r.cells.toList:=by
 have AX:=(d9.1 hr).1;obtain⟨cb,cc,ec,_,_,_,_,eF,_⟩:=AG (h.row (i:=1) rfl) Y;refine⟨cb,by injection ec,fun j v hv=> ?_⟩;have hj:=(d9.1 hv).1;have h9:r.cells.toList.length=9:=rfl;have hl:=X8 t.Ab;have:=zX hr j Y;rw[eF (t.pc*9+j) Y,<-Id,this];exact hv
theorem Abi {v:Int} (S:Ak w (g.Ar t mem ps E) w6 ((g.Ar t mem ps E).set 4 (.row (.slice (some ⟨g6,0,none⟩) (t.out.length+1) AZ) 2 1 (t.out.length+1) (Fy t.out++(#[Value.int .i64 v]:Array Value).toList)))):
  Ak w (g.Ar t mem ps E) (w6.setCell ⟨g.tb,4,none⟩ (.slice (some ⟨g6,0,none⟩) (t.out.length+1) AZ)) (VG.Ar {g with o:=⟨some ⟨g6,0,none⟩,AZ⟩} {t with out:=t.out++[v]} mem ps E):=by
 have s:=S.trans (S.Am.set (i:=0) (b:=g.tb) (T:=68) rfl 4 (.slice (some ⟨g6,0,none⟩) (t.out.length+1) AZ));have e0:Fy (t.out++[v])=Fy t.out++(#[Value.int .i64 v]:Array Value).toList:=by unfold Fy;rw[Qaz];rfl
 have e:VG.Ar {g with o:=⟨some ⟨g6,0,none⟩,AZ⟩} {t with out:=t.out++[v]} mem ps E=(((g.Ar t mem ps E).set 4 (.row (.slice (some ⟨g6,0,none⟩) (t.out.length+1) AZ) 2 1 (t.out.length+1) (Fy t.out++(#[Value.int .i64 v]:Array Value).toList))).set 0 (.Au g.tb (#[Value.slice g.c.p t.Ab.length g.c.c,i5 t.pc,.slice g.r.p t.DA.length g.r.c,.slice g.w.p t.waits.length g.w.c,.slice g.o.p t.out.length g.o.c,i5 t.BG].setIfInBounds 4 (.slice (some ⟨g6,0,none⟩) (t.out.length+1) AZ)) 68)):=by
  unfold VG.Ar VG.U1 VG.QC;dsimp only;rw[e0,V];rfl
 rw[e];exact s
theorem Nw.Abg (h:Nw g t mem ps k) (o:List Int) (c:SG):Nw {g with o:=c} {t with out:=o} mem ps k:=⟨h.1,h.2,h.3,h.4,h.5,h.6⟩
def Aaw:List (List UInt8):=[[109,111,118],[111,117,116],[102,101,110,99,101],[106,109,112],[106,122],[116,114,97,112],[104,97,108,116],[108,111,97,100],[115,116,111,114,101],[99,97,115],[120,97,100,100]]
theorem Iz {nm:ByteArray} (h:nm∈Cj) (i:Nat) (x:List UInt8) (hx:Aaw[i]?=some x):(nm.toList==x)=false:=by
 have e:∀x,x∈Aaw->∀y,y∈Cj->(y.toList==x)=false:=by decide+kernel
 exact e x (Qai hx) nm h
theorem mL (i:GI) (h:Px 4000 i):(i.DR.a.B0=true->0<=i.DR.a.v/\i.DR.a.v < 8)/\(i.DR.b.B0=true->0<=i.DR.b.v/\i.DR.b.v < 8):=by
 have ag:∀a:Ag,Ed a->a.rv.B0=true->0<=a.rv.v/\a.rv.v < 8:=fun a ha hr=>by
  unfold Ed at ha;have KX:a.B0=true:=hr;rw[In KX] at ha;unfold Jp at ha;have:a.rv.v=a.v:=rfl;omega
 have ze:OV.zero.B0=true->0<=OV.zero.v/\OV.zero.v < 8:=fun _=>AC
 cases i with
 | Sq d a=>exact⟨ag a h.2,ze⟩
 | op n d a b=>exact⟨ag a h.2.2.1,ag b h.2.2.2⟩
 | load d a k=>exact⟨ag a h.2.1,ze⟩
 | store a k b=>exact⟨ag a h.1,ag b h.2.2⟩
 | JL d a k b c=>exact⟨ag a h.2.1,ag b h.2.2.2.1⟩
 | DL d a k b=>exact⟨ag a h.2.1,ag b h.2.2.2⟩
 | IV=>exact⟨ze,ze⟩
 | out a=>exact⟨ag a h,ze⟩
 | Gb q=>exact⟨ze,ze⟩
 | jz a q=>exact⟨ag a h.1,ze⟩
 | EF k=>exact⟨ze,ze⟩
 | halt=>exact⟨ze,ze⟩
theorem cK (l:List GI) (hl:∀i,i∈l->Px 4000 i) (w:World) (g:VG) (t:C9) (mem:List Int) (ps:List Value) (E:List Ob) (k:Nat) (h:Az w (g.Ar t mem ps E)) (ho:Nw g t mem ps k) (hc:t.Ab=l.map GI.DR) (hn:l.length<=4000) (XC:t.out.length<=1000000000):
  Calls prog 25 #[i6 g.mb,i5 k] w (Aes g t mem (cN l (t,mem)) ps E k w):=by
 generalize AF:cN l (t,mem)=res;unfold cN at AF;obtain⟨tsb,mmb,rb,hf⟩:=B8 h ho;have CS:=hf.m1;have PB:=hf.tk;have Jc:=hf.kl;have PG:(0:Int)<=(k:Int):=Y
 have Iu:(k:Int) < (ps.length:Int):=Y
 have Ss:¬(k:Int) < 0:=Y
 have qi:¬ps.length<=k:=Y
 have hk4:¬(ps.length:Int)<=(k:Int):=Y
 have FT:=hf.b.cell 0;have J2:=hf.b.cell 1;have kT:=hf.b.cell 5;have zr:=hf.b.free 5;have u4:=hf.b.free 1;have H:=hid h;have HO:=hid ho;clear hf h ho;by_cases AD:t.BG=0;rotate_left
 ·have HS:=hid (show(t,mem)=res by rw[<-AF,In AD]);have RO:(t.BG==0)=false:=by rw[NE];exact AD
  clear AD AF hc;go_enter func25,ntmps25;go_wp2
  go_end0
  exact⟨rfl,g.w,g.o,by rw[<-HS.out];exact Ak.refl H,by rw[<-HS.out];exact HO.out⟩
 rw[I (by simpa using AD)] at AF;have RO:(t.BG==0)=true:=by rw[AD];rfl
 have Db:t.Ab.length=l.length:=by rw[hc,z9]
 rw[Db] at FT;cases hi:l[t.pc]? with
 | none=>
  dsimp only at AF;have HS:=hid (show({t with BG:=10},mem)=res by rw[<-AF,hi]);have bA:l.length<=t.pc:=List.getElem?_eq_none_iff.1 hi;have AgU:(l.length:Int)<=(t.pc:Int):=Y
  clear AD AF hc hi;go_enter func25,ntmps25;go_upto_region 2 with fail
  refine BR (l:=[(0,true),(1,true),(2,true),(3,true),(4,true),(5,true),(6,true),(7,true),(8,true),(9,false)]) (fun W=>W.cell? ⟨g.tb,0,none⟩=some (.slice g.c.p l.length g.c.c)/\W.cell? ⟨g.tb,1,none⟩=some (i5 t.pc)) 9 ⟨FT,J2⟩ ?_;refine KQ ?_;refine Ch rfl (fun K hK=> ?_);go_simp;refine hK _ _ (fun h=>UV h AC) ?_;clear hK;simp only[DP];go_wp2
  go_end0
  exact⟨rfl,g.w,g.o,by rw[<-HS.out];exact(Ak.drew H).trans (VG.EL (Ak.drew H).Am 10),by rw[<-HS.out];exact HO.EL 10⟩
 | some i=>
  dsimp only at AF;have AaI:ly i ({t with pc:=t.pc+1},mem)=res:=by rw[<-AF,hi]
  have xj:t.pc < l.length:=(d9.1 hi).1;have Zh:t.Ab[t.pc]?=some i.DR:=by rw[hc,Qax,hi];rfl
  obtain⟨cb,ec,hcr⟩:=jt H Zh;have iP:=hl i (Qai hi);rw[ec] at FT;have fQ:(0:Int)<=(t.pc:Int):=Y
  have cu:(t.pc:Int) < (l.length:Int):=Y
  have Ib:¬(l.length:Int)<=(t.pc:Int):=Y
  have oA:True->wrap64 ((t.pc:Int)+1)=((t.pc+1:Nat):Int):=fun _=>IntWalk.wrap64_in _ Y
  have AJ:=hid AaI;clear AD AF AaI hc hi hl Zh xj ec;generalize hr:i.DR=r at hcr;have Nj:∀j v,r.cells.toList[j]?=some v->w.cell? ⟨cb,t.pc*9+j,none⟩=some v:=hcr;go_enter func25,ntmps25;go_upto_region 2 with fail
  refine BR (l:=[(0,true),(1,true),(2,true),(3,true),(4,true),(5,true),(6,true),(7,true),(8,true),(9,false)]) (fun W=>W.cell? ⟨g.tb,0,none⟩=some (.slice (some ⟨cb,0,none⟩) l.length g.c.c)/\W.cell? ⟨g.tb,1,none⟩=some (i5 t.pc)) 9 ⟨FT,J2⟩ ?_;refine KQ ?_;refine Ch rfl (fun K hK=> ?_);go_simp;refine hK _ _ (fun h=>UV h AC) ?_;clear hK;simp only[DP];go_upto_region 4 with fail
  refine BR (l:=[(0,true),(1,true),(2,true),(3,true),(4,true),(5,true),(6,true),(7,true),(8,true),(9,true),(10,false),(11,false)]) (fun W=>W.cell? ⟨g.tb,0,none⟩=some (.slice (some ⟨cb,0,none⟩) l.length g.c.c)/\W.cell? ⟨g.tb,1,none⟩=some (i5 t.pc)/\W.cell? ⟨cb,t.pc*9,none⟩=some (.string r.Lv)/\W.cell? ⟨cb,t.pc*9+1,none⟩=some (i5 r.d)/\W.cell? ⟨cb,t.pc*9+2,none⟩=some (.bool r.a.B0)/\W.cell? ⟨cb,t.pc*9+3,none⟩=some (i5 r.a.v)/\W.cell? ⟨cb,t.pc*9+4,none⟩=some (.bool r.b.B0)/\W.cell? ⟨cb,t.pc*9+5,none⟩=some (i5 r.b.v)/\W.cell? ⟨cb,t.pc*9+6,none⟩=some (.bool r.c.B0)/\W.cell? ⟨cb,t.pc*9+7,none⟩=some (i5 r.c.v)/\W.cell? ⟨cb,t.pc*9+8,none⟩=some (i5 r.k)) 11 ⟨FT,J2,Nj 0 _ rfl,Nj 1 _ rfl,Nj 2 _ rfl,Nj 3 _ rfl,Nj 4 _ rfl,Nj 5 _ rfl,Nj 6 _ rfl,Nj 7 _ rfl,Nj 8 _ rfl⟩ ?_;refine KQ ?_;refine Ch rfl (fun K hK=> ?_);go_simp;have sb0:=VG.box H (.cells (Bj.of ⟨#[]⟩).cells 101);have m0:Av [] w (w.alloc (.cells (Bj.of ⟨#[]⟩).cells 101)).drew.drew:=(((Av.refl _ _).alloc _).drew).drew;refine hK _ _ (fun _=>⟨AU m0 FT,AU m0 J2,AU m0 (Nj 0 _ rfl),AU m0 (Nj 1 _ rfl),AU m0 (Nj 2 _ rfl),AU m0 (Nj 3 _ rfl),AU m0 (Nj 4 _ rfl),AU m0 (Nj 5 _ rfl),AU m0 (Nj 6 _ rfl),AU m0 (Nj 7 _ rfl),AU m0 (Nj 8 _ rfl)⟩) ?_;clear hK m0 sb0;refine Ch rfl (fun K hK=> ?_);go_simp;refine hK _ _ (fun h=>UV h AC) ?_;clear hK;simp only[DP];have sb:=VG.box H (.cells r.cells 101);replace sb:=(sb.trans (Ak.drew sb.Am)).trans (Ak.drew (Ak.drew sb.Am).Am);clear CS PB FT J2 kT zr u4 hcr Nj fQ cu Ib PG Iu Ss qi hk4 RO Jc;unfold Bj.cells at sb;generalize w.heap.size=b0 at*;generalize (w.alloc _).drew.drew=w1 at sb⊢;obtain⟨tsb1,mmb1,rb1,P5⟩:=B8 sb.Am HO.out;have J2:=P5.b.cell 1;have u4:=P5.b.free 1;have s5:Ak w1 (g.Ar t mem ps _) (w1.setCell ⟨g.tb,1,none⟩ (i5 ((t.pc:Int)+1))) (g.Ar {t with pc:=t.pc+1} mem ps _):=VG.Di sb.Am (t.pc+1);have HT:=hid (sb.trans s5);have QW:=hid (HO.Di (t.pc+1));have AgC:({t with pc:=t.pc+1}:C9).out.length<=1000000000:=XC;clear P5 s5 sb XC HO;go_upto_region 6 with fail
  generalize w1.setCell ⟨g.tb,1,none⟩ _=w2 at HT⊢;generalize ({t with pc:=t.pc+1}:C9)=t1 at*;obtain⟨tsb2,mmb2,rb2,WN⟩:=B8 HT.Am QW.out;have IG:=(HT.Am.Au (i:=8) rfl).cell 2;have yS:=(HT.Am.Au (i:=8) rfl).cell 3;obtain⟨hra,dZ⟩:=mL i iP;rw[hr] at hra dZ;have Hg:=hid (VB r.a hra w2 g.tb rb2 g.r.c _ _ _ _ _ t1.DA WN.b WN.rg);generalize hav:(if r.a.B0 then t1.DA.getD r.a.v.toNat 0 else r.a.v)=av at*;have qy:=hid hav;have Hrb:=hid dZ;clear WN hav hra dZ J2 u4;go_wp2_with fail;refine Hg.mono ?_;rintro e w3 ⟨rfl,Q0⟩;have HT3:=hid (HT.trans (Ak.quiet HT.Am Q0));clear Hg IG yS Q0 HT;obtain⟨tsb2,mmb2,rb2,WN⟩:=B8 HT3.Am QW.out;have hx4:=(HT3.Am.Au (i:=8) rfl).cell 4;have hx5:=(HT3.Am.Au (i:=8) rfl).cell 5;have Hg:=hid (VB r.b Hrb w3 g.tb rb2 g.r.c _ _ _ _ _ t1.DA WN.b WN.rg);generalize hbv:(if r.b.B0 then t1.DA.getD r.b.v.toNat 0 else r.b.v)=bv at*;have Hbv:=hid hbv;clear WN hbv;go_wp2_with fail;refine Hg.mono ?_;rintro e w4 ⟨rfl,XE⟩;have S:=hid (HT3.trans (Ak.quiet HT3.Am XE));clear Hg hx4 hx5 XE HT3 Hrb;have xe:=(S.Am.Au (i:=8) rfl).cell 0;have Hr:=hid hr;clear hr H oA Db hn;cases i with
  | halt=>
   have KX:=Hr.out;unfold GI.DR Bj.of at KX;subst KX;dsimp only at*;obtain⟨tsb5,mmb5,rb5,PH⟩:=B8 S.Am QW.out;have kT:=PH.b.cell 5;have zr:=PH.b.free 5;clear PH;go_wp2
   go_end0
   have s:=VG.EL S.Am 10;exact⟨rfl,g.w,g.o,by rw[<-AJ.out];exact(S.trans s).trans (VG.Im s.Am),by rw[<-AJ.out];exact QW.EL 10⟩
  | EF q=>
   have KX:=Hr.out;unfold GI.DR Bj.of at KX;subst KX;dsimp only at*;obtain⟨tsb5,mmb5,rb5,PH⟩:=B8 S.Am QW.out;have kT:=PH.b.cell 5;have zr:=PH.b.free 5;have hx8:=(S.Am.Au (i:=8) rfl).cell 8;clear PH;go_wp2
   go_end0
   have s:=VG.EL S.Am q;exact⟨rfl,g.w,g.o,by rw[<-AJ.out];exact(S.trans s).trans (VG.Im s.Am),by rw[<-AJ.out];exact QW.EL q⟩
  | Gb q=>
   have KX:=Hr.out;unfold GI.DR Bj.of at KX;subst KX;dsimp only at*;obtain⟨tsb5,mmb5,rb5,PH⟩:=B8 S.Am QW.out;have J2:=PH.b.cell 1;have u4:=PH.b.free 1;have hx8:=(S.Am.Au (i:=8) rfl).cell 8;clear PH;obtain⟨n,rfl⟩:∃n:Nat,q=n:=⟨q.toNat,by have:=iP.1;omega⟩;clear iP;go_wp2
   go_end0
   have s:=VG.Di S.Am n;exact⟨rfl,g.w,g.o,by rw[<-AJ.out];exact(S.trans s).trans (VG.Im s.Am),by rw[<-AJ.out];exact QW.Di n⟩
  | jz a q=>
   have KX:=Hr.out;unfold GI.DR Bj.of at KX;subst KX;dsimp only at*;obtain⟨tsb5,mmb5,rb5,PH⟩:=B8 S.Am QW.out;have J2:=PH.b.cell 1;have u4:=PH.b.free 1;have hx8:=(S.Am.Au (i:=8) rfl).cell 8;clear PH;obtain⟨n,rfl⟩:∃n:Nat,q=n:=⟨q.toNat,by have:=iP.2.1;omega⟩;clear iP;by_cases h0:av=0
   ·have HR:=hid (show({t1 with pc:=n},mem)=res by rw[<-AJ.out];exact(In (qy.trans h0)).symm);have qp:(av==0)=true:=by simpa using h0
    clear h0;go_wp2
    go_end0
    have s:=VG.Di S.Am n;exact⟨rfl,g.w,g.o,by rw[<-HR.out];exact(S.trans s).trans (VG.Im s.Am),by rw[<-HR.out];exact QW.Di n⟩
   ·have HR:=hid (show(t1,mem)=res by rw[<-AJ.out];exact(I (fun e=>h0 (qy.symm.trans e))).symm);have qp:(av==0)=false:=by rw[NE];exact h0
    clear h0;go_wp2
    go_end0
    exact⟨rfl,g.w,g.o,by rw[<-HR.out];exact S.trans (VG.Im S.Am),by rw[<-HR.out];exact QW.out⟩
  | IV=>exact iP.elim
  | Sq d a=>
   have KX:=Hr.out;unfold GI.DR Bj.of at KX;subst KX;dsimp only at*;obtain⟨hd,_⟩:=iP;obtain⟨n,rfl⟩:∃n:Nat,d=n:=⟨d.toNat,by have:=hd.1;omega⟩;have oK:n < 8:=by have:=hd.2;omega
   have bC:(0:Int)<=(n:Int):=Y
   have X0:(n:Int) < 8:=Y
   clear hd;have HR:=hid (show(t1.DM n av,mem)=res by rw[<-AJ.out,<-qy.out];rfl);obtain⟨tsb5,mmb5,rb5,PH⟩:=B8 S.Am QW.out;have QI:=PH.b.cell 2;have AfL:=PH.b.free 2;have GG:=(S.Am.Au (i:=8) rfl).cell 1;have yX:=PH.rg n oK;have C6:=Lp S.Am PH.er n;have He:=hid PH.er;have Hd8:=hid oK;clear PH oK;go_upto_region 14 with fail
   refine BR (l:=[(0,true),(1,true),(2,true),(3,true),(4,true),(5,true),(6,true),(7,true),(8,false)]) (fun W=>W.cell? ⟨g.tb,2,none⟩=some (.slice (some ⟨rb5,0,none⟩) 8 g.r.c)/\W.cell? ⟨b0,1,none⟩=some (i5 n)) 8 ⟨QI,GG⟩ ?_;refine KQ ?_;refine Ch rfl (fun K hK=> ?_);go_simp;refine hK _ _ (fun h=>UV h AC) ?_;clear hK;simp only[DP];go_wp2
   go_end0
   have s:=VG.DM S.Am He (d:=n) (by rw[QW.out.rl];exact Hd8.out) av;replace s:=s.trans (Ak.drew s.Am);exact⟨rfl,g.w,g.o,by rw[<-HR.out];exact(S.trans s).trans (VG.Im s.Am),by rw[<-HR.out];exact QW.DM n av⟩
  | out a=>
   have KX:=Hr.out;unfold GI.DR Bj.of at KX;subst KX;dsimp only at*;obtain⟨tsb5,mmb5,rb5,PH⟩:=B8 S.Am QW.out;have hb4:=PH.b.cell 4;have AfK:=PH.b.free 4;clear PH;have HR:=hid (show({t1 with out:=t1.out++[av]},mem)=res by rw[<-AJ.out,<-qy.out];rfl);obtain⟨i0,hi,Zg⟩:=Qam.1 tX;simp only[Prod.mk.injEq] at Zg;obtain⟨Wx,dU,aW⟩:=Zg;have hlw:t1.out.length+1<=maxLen:=by unfold maxLen;omega
   have NH:(t1.out.length+1)*8<=140737488355328:=Y
   go_wp2_with (first | (at_builtin;refine B6 8 _ _ _ i0 _ #[i5 av] _ S.Am (k:=4) rfl Do Do underlying31 hi Wx dU aW rfl Y Do Do rfl (by simp[Value.oneCell']) hlw NH ?_;intro g6 AZ w6 AD _;have q1:=(AD.Am.Au (i:=0) rfl).cell 4;have q2:=(AD.Am.Au (i:=0) rfl).free 4;have q3:=(AD.Am.Au (i:=0) rfl).lt;have qz:=hid AD;clear AD hb4 AfK) | fail)
   go_end0
   have s:=Abi qz.out;exact⟨rfl,g.w,⟨some ⟨g6,0,none⟩,AZ⟩,by rw[<-HR.out];exact(S.trans s).trans (VG.Im s.Am),by rw[<-HR.out];exact QW.Abg _ _⟩
  | load d a j=>
   have KX:=Hr.out;unfold GI.DR Bj.of at KX;subst KX;dsimp only at*;obtain⟨hd,_⟩:=iP;obtain⟨n,rfl⟩:∃n:Nat,d=n:=⟨d.toNat,by have:=hd.1;omega⟩;have oK:n < 8:=by have:=hd.2;omega
   have bC:(0:Int)<=(n:Int):=Y
   have X0:(n:Int) < 8:=Y
   clear hd;have HR:=hid (show P8 (.load n a j) (wrap64 (av+j)) bv (t1,mem)=res by rw[<-AJ.out,<-qy.out];rfl);have Hm:=hid (sY w4 g t1 mem ps _ k S.Am QW n oK a j (wrap64 (av+j)) bv);unfold GI.DR Bj.of Bj.val Bj.cells at Hm;dsimp only at Hm;have GG:=(S.Am.Au (i:=8) rfl).cell 1;have IG:=(S.Am.Au (i:=8) rfl).cell 2;have yS:=(S.Am.Au (i:=8) rfl).cell 3;have hx4:=(S.Am.Au (i:=8) rfl).cell 4;have hx5:=(S.Am.Au (i:=8) rfl).cell 5;have hx6:=(S.Am.Au (i:=8) rfl).cell 6;have hx7:=(S.Am.Au (i:=8) rfl).cell 7;have hx8:=(S.Am.Au (i:=8) rfl).cell 8;go_wp2_with fail;refine Hm.mono ?_;rintro e w5 ⟨rfl,c5,p7,eh⟩;have QV:=hid p7;have xv:=hid eh;clear p7 eh;go_wp2
   go_end0
   exact⟨rfl,c5,g.o,by rw[<-HR.out];exact(S.trans QV).trans (VG.Im QV.Am),by rw[<-HR.out];exact xv.out⟩
  | store a j b=>
   have KX:=Hr.out;unfold GI.DR Bj.of at KX;subst KX;dsimp only at*;have HR:=hid (show P8 (.store a j b) (wrap64 (av+j)) bv (t1,mem)=res by rw[<-AJ.out,<-qy.out,<-Hbv.out];rfl);have Hm:=hid (nC w4 g t1 mem ps _ k S.Am QW a b j (wrap64 (av+j)) bv);unfold GI.DR Bj.of Bj.val Bj.cells at Hm;dsimp only at Hm;have GG:=(S.Am.Au (i:=8) rfl).cell 1;have IG:=(S.Am.Au (i:=8) rfl).cell 2;have yS:=(S.Am.Au (i:=8) rfl).cell 3;have hx4:=(S.Am.Au (i:=8) rfl).cell 4;have hx5:=(S.Am.Au (i:=8) rfl).cell 5;have hx6:=(S.Am.Au (i:=8) rfl).cell 6;have hx7:=(S.Am.Au (i:=8) rfl).cell 7;have hx8:=(S.Am.Au (i:=8) rfl).cell 8;go_wp2_with fail;refine Hm.mono ?_;rintro e w5 ⟨rfl,c5,p7,eh⟩;have QV:=hid p7;have xv:=hid eh;clear p7 eh;go_wp2
   go_end0
   exact⟨rfl,c5,g.o,by rw[<-HR.out];exact(S.trans QV).trans (VG.Im QV.Am),by rw[<-HR.out];exact xv.out⟩
  | JL d a j b c=>
   have KX:=Hr.out;unfold GI.DR Bj.of at KX;subst KX;dsimp only at*;obtain⟨hd,_,_,_,hoc⟩:=iP;have Afm:c.B0=true->0<=c.v/\c.v < 8:=fun hr=>by
    unfold Ed at hoc;rw[In hr] at hoc;unfold Jp at hoc;omega
   obtain⟨n,rfl⟩:∃n:Nat,d=n:=⟨d.toNat,by have:=hd.1;omega⟩;have oK:n < 8:=by have:=hd.2;omega
   have bC:(0:Int)<=(n:Int):=Y
   have X0:(n:Int) < 8:=Y
   clear hd;have HR:=hid (show P8 (.JL n a j b c) (wrap64 (av+j)) bv (t1,mem)=res by rw[<-AJ.out,<-qy.out,<-Hbv.out];rfl);have Hm:=hid (yD w4 g t1 mem ps _ k S.Am QW n oK a b c Afm j (wrap64 (av+j)) bv);unfold GI.DR Bj.of Bj.val Bj.cells at Hm;dsimp only at Hm;have GG:=(S.Am.Au (i:=8) rfl).cell 1;have IG:=(S.Am.Au (i:=8) rfl).cell 2;have yS:=(S.Am.Au (i:=8) rfl).cell 3;have hx4:=(S.Am.Au (i:=8) rfl).cell 4;have hx5:=(S.Am.Au (i:=8) rfl).cell 5;have hx6:=(S.Am.Au (i:=8) rfl).cell 6;have hx7:=(S.Am.Au (i:=8) rfl).cell 7;have hx8:=(S.Am.Au (i:=8) rfl).cell 8;go_wp2_with fail;refine Hm.mono ?_;rintro e w5 ⟨rfl,c5,p7,eh⟩;have QV:=hid p7;have xv:=hid eh;clear p7 eh;go_wp2
   go_end0
   exact⟨rfl,c5,g.o,by rw[<-HR.out];exact(S.trans QV).trans (VG.Im QV.Am),by rw[<-HR.out];exact xv.out⟩
  | DL d a j b=>
   have KX:=Hr.out;unfold GI.DR Bj.of at KX;subst KX;dsimp only at*;obtain⟨hd,_⟩:=iP;obtain⟨n,rfl⟩:∃n:Nat,d=n:=⟨d.toNat,by have:=hd.1;omega⟩;have oK:n < 8:=by have:=hd.2;omega
   have bC:(0:Int)<=(n:Int):=Y
   have X0:(n:Int) < 8:=Y
   clear hd;have HR:=hid (show P8 (.DL n a j b) (wrap64 (av+j)) bv (t1,mem)=res by rw[<-AJ.out,<-qy.out,<-Hbv.out];rfl);have Hm:=hid (sX w4 g t1 mem ps _ k S.Am QW n oK a b j (wrap64 (av+j)) bv);unfold GI.DR Bj.of Bj.val Bj.cells at Hm;dsimp only at Hm;have GG:=(S.Am.Au (i:=8) rfl).cell 1;have IG:=(S.Am.Au (i:=8) rfl).cell 2;have yS:=(S.Am.Au (i:=8) rfl).cell 3;have hx4:=(S.Am.Au (i:=8) rfl).cell 4;have hx5:=(S.Am.Au (i:=8) rfl).cell 5;have hx6:=(S.Am.Au (i:=8) rfl).cell 6;have hx7:=(S.Am.Au (i:=8) rfl).cell 7;have hx8:=(S.Am.Au (i:=8) rfl).cell 8;go_wp2_with fail;refine Hm.mono ?_;rintro e w5 ⟨rfl,c5,p7,eh⟩;have QV:=hid p7;have xv:=hid eh;clear p7 eh;go_wp2
   go_end0
   exact⟨rfl,c5,g.o,by rw[<-HR.out];exact(S.trans QV).trans (VG.Im QV.Am),by rw[<-HR.out];exact xv.out⟩
  | op nm d a b=>
   have KX:=Hr.out;unfold GI.DR Bj.of at KX;subst KX;dsimp only at*;obtain⟨WH,hd,_⟩:=iP;have xg:(nm.toList==[109,111,118])=false:=Iz WH 0 _ rfl;have Pz:(nm.toList==[111,117,116])=false:=Iz WH 1 _ rfl;have aX:(nm.toList==[102,101,110,99,101])=false:=Iz WH 2 _ rfl;have Ot:(nm.toList==[106,109,112])=false:=Iz WH 3 _ rfl;have XA:(nm.toList==[106,122])=false:=Iz WH 4 _ rfl;have Ud:(nm.toList==[116,114,97,112])=false:=Iz WH 5 _ rfl;have hw6:(nm.toList==[104,97,108,116])=false:=Iz WH 6 _ rfl;have hw7:(nm.toList==[108,111,97,100])=false:=Iz WH 7 _ rfl;have hw8:(nm.toList==[115,116,111,114,101])=false:=Iz WH 8 _ rfl;have hw9:(nm.toList==[99,97,115])=false:=Iz WH 9 _ rfl;have Agt:(nm.toList==[120,97,100,100])=false:=Iz WH 10 _ rfl;obtain⟨n,rfl⟩:∃n:Nat,d=n:=⟨d.toNat,by have:=hd.1;omega⟩;have oK:n < 8:=by have:=hd.2;omega
   have bC:(0:Int)<=(n:Int):=Y
   have X0:(n:Int) < 8:=Y
   clear hd;have Hmd:=hid (tn nm WH av bv w4);clear WH;have zy:ly (.op nm n a b) (t1,mem)=res:=AJ.out;have Af3:=hid (show Qr nm av bv= .tuple #[i5 ((Co nm av bv).getD 0),.bool (Co nm av bv).isSome] from rfl);go_wp2_with fail;refine Hmd.mono ?_;rintro e w5 ⟨rfl,rfl⟩;rw[Af3.out];cases XD:Co nm av bv with
   | none=>
    have HR:=hid (show({t1 with BG:=1},mem)=res by
      rw[<-zy];unfold ly;dsimp only;rw[show t1.ev a=av from qy.out,show t1.ev b=bv from Hbv.out,XD])
    have kT:=(S.Am.Au (i:=0) rfl).cell 5;have zr:=(S.Am.Au (i:=0) rfl).free 5;clear XD zy;simp only[Qcm,Qb1];go_wp2
    go_end0
    have s:=VG.EL S.Am 1;exact⟨rfl,g.w,g.o,by rw[<-HR.out];exact(S.trans s).trans (VG.Im s.Am),by rw[<-HR.out];exact QW.EL 1⟩
   | some v=>
    have HR:=hid (show(t1.DM n v,mem)=res by
      rw[<-zy];unfold ly;dsimp only;rw[show t1.ev a=av from qy.out,show t1.ev b=bv from Hbv.out,XD])
    clear XD zy;simp only[Qbp,Qce];obtain⟨tsb5,mmb5,rb5,PH⟩:=B8 S.Am QW.out;have QI:=PH.b.cell 2;have AfL:=PH.b.free 2;have GG:=(S.Am.Au (i:=8) rfl).cell 1;have yX:=PH.rg n oK;have C6:=Lp S.Am PH.er n;have He:=hid PH.er;have Hd8:=hid oK;clear PH oK;go_upto_region 12 with fail
    refine BR (l:=[(0,true),(1,true),(2,true),(3,true),(4,true),(5,true),(6,true),(7,true),(8,false)]) (fun W=>W.cell? ⟨g.tb,2,none⟩=some (.slice (some ⟨rb5,0,none⟩) 8 g.r.c)/\W.cell? ⟨b0,1,none⟩=some (i5 n)) 8 ⟨QI,GG⟩ ?_;refine KQ ?_;refine Ch rfl (fun K hK=> ?_);go_simp;refine hK _ _ (fun h=>UV h AC) ?_;clear hK;simp only[DP];go_wp2
    go_end0
    have s:=VG.DM S.Am He (d:=n) (by rw[QW.out.rl];exact Hd8.out) v;replace s:=s.trans (Ak.drew s.Am);exact⟨rfl,g.w,g.o,by rw[<-HR.out];exact(S.trans s).trans (VG.Im s.Am),by rw[<-HR.out];exact QW.DM n v⟩
def IX (s:C9×List Int):C9×List Int:=Ul s.1.waits.length s
def wC (l:List GI):Nat->C9×List Int->C9×List Int
 | 0,s=>s
 | n+1,s=>if s.1.BG=0 then wC l n (IX (cN l s)) else s
theorem Tn (n:Nat) (s:C9×List Int):(Ul n s).1.Ab=s.1.Ab/\(Ul n s).1.out=s.1.out:=by
 induction n generalizing s with
 | zero=>exact⟨rfl,rfl⟩
 | succ n ih=>exact ih (Vl s.1,Zp s.1 s.2)
theorem o8 (i:GI) (p q:Int) (s:C9×List Int):(P8 i p q s).1.Ab=s.1.Ab/\(P8 i p q s).1.out=s.1.out:=by
 have d:=Tn s.1.waits.length s;unfold P8;split
 ·split <;>exact⟨rfl,rfl⟩
 ·split
  ·exact⟨rfl,rfl⟩
  ·dsimp only;split <;>exact⟨rfl,rfl⟩
 ·dsimp only;split
  ·exact d
  ·split <;>exact d
 ·dsimp only;split <;>exact d
 ·exact⟨rfl,rfl⟩
theorem pg (i:GI) (s:C9×List Int):(ly i s).1.Ab=s.1.Ab/\(ly i s).1.out.length<=s.1.out.length+1:=by
 have e:∀i p q,(P8 i p q s).1.Ab=s.1.Ab/\(P8 i p q s).1.out.length<=s.1.out.length+1:=fun i p q=>by
  obtain⟨h1,h2⟩:=o8 i p q s;exact⟨h1,by rw[h2];omega⟩
 have d:=Tn s.1.waits.length s;cases i with
 | Sq d a=>exact⟨rfl,Qan _⟩
 | op n d a b=>
  show(match Co n (s.1.ev a) (s.1.ev b) with | none=>_ | some v=>_:C9×List Int).1.Ab=_/\(match Co n (s.1.ev a) (s.1.ev b) with | none=>_ | some v=>_:C9×List Int).1.out.length<=_;cases Co n (s.1.ev a) (s.1.ev b) <;>exact⟨rfl,Qan _⟩
 | load d a k=>exact e _ _ _
 | store a k b=>exact e _ _ _
 | JL d a k b c=>exact e _ _ _
 | DL d a k b=>exact e _ _ _
 | IV=>exact⟨d.1,by show(Ul _ s).1.out.length<=_;rw[d.2];omega⟩
 | out a=>exact⟨rfl,by show(s.1.out++_).length<=_;rw[V];exact LE _⟩
 | Gb q=>exact⟨rfl,Qan _⟩
 | jz a q=>
  show(if s.1.ev a=0 then _ else s:C9×List Int).1.Ab=_/\(if s.1.ev a=0 then _ else s:C9×List Int).1.out.length<=_;split <;>exact⟨rfl,Qan _⟩
 | EF k=>exact⟨rfl,Qan _⟩
 | halt=>exact⟨rfl,Qan _⟩
theorem SA (l:List GI) (s:C9×List Int):(cN l s).1.Ab=s.1.Ab/\(cN l s).1.out.length<=s.1.out.length+1:=by
 unfold cN;split
 ·exact⟨rfl,Qan _⟩
 ·split
  ·exact⟨rfl,Qan _⟩
  ·exact pg _ _
theorem Um (s:C9×List Int):(IX s).1.Ab=s.1.Ab/\(IX s).1.out=s.1.out:=Tn _ s
def AcO (g:VG) (t:C9) (mem:List Int) (s:C9×List Int) (ps:List Value) (E:List Ob) (k:Nat) (w:World) (e:Ending) (w':World):Prop:=e= .returned (.bool (s.1.BG !=0))/\∃c o:SG,Ak w (g.Ar t mem ps E) w' (VG.Ar {g with w:=c,o:=o} s.1 s.2 ps E)/\Nw {g with w:=c,o:=o} s.1 s.2 ps k
theorem pI (l:List GI) (hl:∀i,i∈l->Px 4000 i) (w:World) (g:VG) (t:C9) (mem:List Int) (ps:List Value) (E:List Ob) (k:Nat) (h:Az w (g.Ar t mem ps E)) (ho:Nw g t mem ps k) (hc:t.Ab=l.map GI.DR) (hn:l.length<=4000) (BH:Nat) (XC:t.out.length+BH<=1000000000):
  Calls prog 12 #[i6 g.mb,i5 k,i5 BH] w (AcO g t mem (wC l BH (t,mem)) ps E k w):=by
 generalize AF:wC l BH (t,mem)=res;have H:=hid h;have Ho:=hid ho;have AJ:=hid AF;have Hc:=hid hc;have Hl:=hid hl;have Hn:=hid hn;clear h ho AF hc hl hn;go_enter func12,ntmps12;go_wp2;go_loopw [7] (fun i wr=>∃(n:Nat) (c o:SG) (t':C9) (mem':List Int),i= i5 n/\n<=BH/\Ak w (g.Ar t mem ps E) wr (VG.Ar {g with w:=c,o:=o} t' mem' ps E)/\Nw {g with w:=c,o:=o} t' mem' ps k/\wC l (BH - n) (t',mem')=res/\t'.Ab=t.Ab/\t'.out.length<=t.out.length+n) (fun i _=>BH - (intOf i).toNat);case atStart=>exact⟨0,g.w,g.o,t,mem,rfl,d6 _,Ak.refl H,Ho,AJ,rfl,LE _⟩
 case round=>
  obtain⟨n,c,o,t',mem',rfl,WH,hs,ho,hr,hcd,hou⟩:=hrel;obtain⟨tsb,mmb,rb,hf⟩:=B8 hs.Am ho;have CS:=hf.m1;have PB:=hf.tk;have Jc:=hf.kl;have PG:(0:Int)<=(k:Int):=Y
  have Iu:(k:Int) < (ps.length:Int):=Y
  have kT:=hf.b.cell 5;have HS:=hid hs;have HO:=hid ho;have Hcd:=hid hcd;clear hf hs ho hcd;dsimp only at CS PB kT;by_cases AX:n < BH
  ·have DJ:(n:Int) < (BH:Int):=Y
   by_cases h0:t'.BG=0
   ·have qp:(t'.BG==0)=true:=by simpa using h0
    obtain⟨m,hm⟩:∃m,BH - n=m+1:=⟨BH - n - 1,Y⟩;have IK:wC l m (IX (cN l (t',mem')))=res:=by
     rw[<-hr,hm];exact(In h0).symm
    have C4:m=BH - (n+1):=Y
    have inc:True->wrap64 ((n:Int)+1)=((n:Int)+1):=fun _=>IntWalk.wrap64_in _ Y
    have KT:=hid (cK l Hl wr {g with w:=c,o:=o} t' mem' ps E k HS.Am HO (Hcd.trans Hc) Hn Y);have K1:=SA l (t',mem');have Gz:=hid IK;have ZT:=hid C4;have HK1:=hid K1;have Hou:=hid hou;have NY:=hid AX;clear hr IK hm h0 C4 hou K1 AX WH XC;go_wp2_with fail;refine KT.mono ?_;rintro e w2 ⟨rfl,c2,o2,Uf,SY⟩;have K2:=hid (Um (cN l (t',mem')));unfold IX at*;generalize iL:cN l (t',mem')=s2 at*;clear iL;have HS2:=hid (HS.trans Uf);have Hdr:=hid (Tm w2 _ s2.1 s2.2 ps E k Uf.Am SY);clear Uf SY CS PB kT Jc;dsimp only at Hdr;go_wp2_with fail;refine Hdr.mono ?_;rintro e w3 ⟨rfl,c3,hs3,uE⟩;have Ke:=hid (HS2.trans hs3);have HO3:=hid uE;clear hs3 uE;go_wp2;go_roundw;case rel=>
     refine⟨n+1,c3,o2,_,_,by rw[inc trivial];rfl,NY,Ke,HO3,?_,?_,?_⟩
     ·rw[<-ZT.out];exact Gz.out
     ·rw[K2.out.1,HK1.out.1];exact Hcd.out
     ·rw[K2.out.2];have h1:=HK1.2;have h2:=Hou.out;omega
    case measure=>have:=NY.out;rw[inc trivial];simp[intOf];omega
   ·have qp:(t'.BG==0)=false:=by rw[NE];exact h0
    have IK:(t',mem')=res:=by
     rw[<-hr];obtain⟨m,hm⟩:∃m,BH - n=m+1:=⟨BH - n - 1,Y⟩;rw[hm];exact(I h0).symm
    have Gz:=hid IK;clear hr IK h0;go_wp2;go_ret;rw[<-Gz.out];exact⟨rfl,c,o,HS,HO⟩
  ·have DJ:¬(n:Int) < (BH:Int):=Y
   have IK:(t',mem')=res:=by
    rw[<-hr,show BH - n=0 by omega];rfl
   have Gz:=hid IK;clear hr IK;go_wp2;go_ret;rw[<-Gz.out];exact⟨rfl,c,o,HS,HO⟩
def Al.put (M:Al) (k:Nat) (s:C9×List Int):Al:={mem:=s.2,ts:=M.ts.set k s.1}
section
variable {M:Al} {k:Nat} (hk:k < M.ts.length)
theorem MY (s s':C9×List Int):(M.put k s).put k s'=M.put k s':=by unfold Al.put;dsimp only;rw[List.set_set]
theorem O1 (s:C9×List Int) (t:C9):(M.put k s).Dh k t=M.put k (t,s.2):=MY s (t,s.2)
theorem Rs (s:C9×List Int):(M.put k s).mem=s.2:=rfl
theorem Jo (s:C9×List Int):(M.put k s).ts.length=M.ts.length:=Qaa ..
include hk
theorem Lx (s:C9×List Int):(M.put k s).th k=s.1:=by
 show(M.ts.set k s.1).getD k C9.new=s.1;rw[EO _ _ _ _ _ hk,In rfl]
theorem KA:M.put k (M.th k,M.mem)=M:=by
 obtain⟨mem,ts⟩:=M;unfold Al.put Al.th;congr 1;apply Qc7;intro i;rw[Qb3];split
 ·rename_i h;subst h;rw[GE,Id hk];rfl
 ·rfl
theorem Pj:M.Cy k=M.put k (Vl (M.th k),Zp (M.th k) M.mem):=by
 unfold Al.Cy Vl Zp;cases hw:(M.th k).waits with
 | nil=>
  show M=M.put k _;have e:({M.th k with waits:=([]:List (Int×Int)).tail}:C9)=M.th k:=by
   cases h:M.th k;rw[h] at hw;dsimp only at hw;subst hw;rfl
  rw[e];exact(KA hk).symm
 | cons p r=>rfl
theorem W5 (n:Nat) (s:C9×List Int):Al.Dt n (M.put k s) k=M.put k (Ul n s):=by
 induction n generalizing s with
 | zero=>rfl
 | succ n ih=>
  show Al.Dt n ((M.put k s).Cy k) k=M.put k (Ul n (Vl s.1,Zp s.1 s.2));rw[Pj (by rw[Jo];exact hk),Lx hk,Rs,MY,ih]
theorem Zw:M.CG k=M.put k (IX (M.th k,M.mem)):=by
 unfold Al.CG IX
 conv=>lhs;rw[<-KA hk]
 rw[W5 hk,KA hk]
theorem vz (i:GI):M.QM k i=M.put k (ly i (M.th k,M.mem)):=by
 have hd:=Zw hk;cases i with
 | Sq d a=>rfl
 | op n d a b=>
  rw[Al.lq];unfold ly;dsimp only;cases Co n ((M.th k).ev a) ((M.th k).ev b) <;>rfl
 | load d a j=>
  rw[Al.Zu];unfold ly P8;dsimp only;split <;>rfl
 | store a j b=>
  rw[Al.W2];unfold ly P8;dsimp only;split
  ·rfl
  ·split
   ·rw[Pj hk];rw[O1,Lx hk]
   ·rfl
 | JL d a j b c=>
  rw[Al.eR,hd];unfold ly P8 Al.Pv;dsimp only;rw[Lx hk,Rs];show _=M.put k (if _ then ({(IX (M.th k,M.mem)).1 with BG:=9},(IX (M.th k,M.mem)).2) else if Al.wv (IX (M.th k,M.mem)).1.waits ((IX (M.th k,M.mem)).2.getD _ 0) _=(M.th k).ev b then _ else _);have Kk:(IX (M.th k,M.mem)).1.ev c=(M.th k).ev c:=by
   have:∀n (s:C9×List Int),(Ul n s).1.DA=s.1.DA:=fun n=>by
    induction n with
    | zero=>exact fun s=>rfl
    | succ n ih=>exact fun s=>ih (Vl s.1,Zp s.1 s.2)
   unfold C9.ev;rw[show(IX (M.th k,M.mem)).1.DA=(M.th k).DA from this _ _]
  split
  ·rw[O1]
  ·split
   ·show(M.put k _).put k (_,_)=M.put k (_,_);rw[MY,<-Kk];rfl
   ·rw[O1];rfl
 | DL d a j b=>
  rw[Al.Zt,hd];unfold ly P8 Al.Pv;dsimp only;rw[Lx hk,Rs];show _=M.put k (if _ then ({(IX (M.th k,M.mem)).1 with BG:=9},(IX (M.th k,M.mem)).2) else _);split
  ·rw[O1]
  ·show(M.put k _).put k (_,_)=M.put k (_,_);rw[MY];rfl
 | IV=>exact hd
 | out a=>rfl
 | Gb q=>rfl
 | jz a q=>
  rw[Al.lr];unfold ly;dsimp only;split
  ·rfl
  ·exact(KA hk).symm
 | EF s=>rfl
 | halt=>rfl
theorem Q9 (Ab:Nat->List GI):M.step Ab k=M.put k (cN (Ab k) (M.th k,M.mem)):=by
 unfold Al.step cN;dsimp only;by_cases h0:(M.th k).BG=0
 ·rw[I (by
     rintro(h | h); · omega
     · exact h h0),I (by simpa using h0)]
  cases (Ab k)[(M.th k).pc]? with
  | none=>rfl
  | some i=>
   show(M.put k ({M.th k with pc:=(M.th k).pc+1},M.mem)).QM k i=_;rw[vz (by rw[Jo];exact hk),Lx hk,MY];rfl
 ·rw[In (.inr h0),In h0];exact(KA hk).symm
theorem jG (Ab:Nat->List GI) (n:Nat) (s:C9×List Int):Al.Df Ab k n (M.put k s)=M.put k (wC (Ab k) n s):=by
 induction n generalizing s with
 | zero=>rfl
 | succ n ih=>
  show(if ((M.put k s).th k).BG=0 then Al.Df Ab k n ((M.put k s).Xh Ab k) else M.put k s)=M.put k (if s.1.BG=0 then wC (Ab k) n (IX (cN (Ab k) s)) else s);rw[Lx hk];split
  ·have e:(M.put k s).Xh Ab k=M.put k (IX (cN (Ab k) s)):=by
    unfold Al.Xh;rw[Q9 (by rw[Jo];exact hk),MY,Lx hk,Rs];have hl:k < (M.put k (cN (Ab k) s)).ts.length:=by rw[Jo];exact hk
    rw[Zw hl,MY,Lx hk,Rs]
   rw[e,ih]
  ·rfl
theorem Pq (Ab:Nat->List GI) (n:Nat):Al.Df Ab k n M=M.put k (wC (Ab k) n (M.th k,M.mem)):=by
 conv=>lhs;rw[<-KA hk]
 exact jG hk Ab n _
end
structure GY where
 tb:Nat
 c:SG
 r:SG
 w:SG
 o:SG
variable {gs:List GY}
def GY.on (x:GY) (F:VG):VG:=⟨x.tb,x.c,x.r,x.w,x.o,F.mb,F.m,F.t⟩
def GY.ptr (x:GY):Value:= i6 x.tb
def Pu (F:VG) (gs:List GY) (ts:List C9):List Ob:=(gs.zip ts).flatMap fun p=>(p.1.on F).U1 p.2
def MO (F:VG) (gs:List GY) (M:Al) (E:List Ob):List Ob:=F.QC M.mem (gs.map GY.ptr)++(Pu F gs M.ts++E)
structure cg (gs:List GY) (M:Al):Prop where
 gl:gs.length=M.ts.length
 tl:M.ts.length<=3
 ml:M.mem.length=256
 th:∀t,t∈M.ts->t.DA.length=8/\t.waits.length<=4/\∀p,p∈t.waits->0<=p.1/\p.1 < 256
section
variable {F:VG} {E:List Ob} {k:Nat} {x:GY} {t:C9}
theorem ma {ts:List C9} (hx:gs[k]?=some x) (ht:ts[k]?=some t):(Pu F gs ts).Perm ((x.on F).U1 t++Pu F (gs.eraseIdx k) (ts.eraseIdx k)):=by
 induction k generalizing gs ts with
 | zero=>
  cases gs with
  | nil=>cases hx
  | cons g gs=>
   cases ts with
   | nil=>cases ht
   | cons u ts=>
    injection hx with hx;injection ht with ht
    subst hx ht;exact List.Perm.refl _
 | succ k ih=>
  cases gs with
  | nil=>cases hx
  | cons g gs=>
   cases ts with
   | nil=>cases ht
   | cons u ts=>
    have h:=ih (gs:=gs) (ts:=ts) hx ht;show((g.on F).U1 u++Pu F gs ts).Perm (_++((g.on F).U1 u++Pu F (gs.eraseIdx k) (ts.eraseIdx k)));refine(Qbr _ h).trans ?_;rw[<-PP,<-PP];exact Qc8 _ Qb0
theorem RB (hx:gs[k]?=some x) (ht:M.ts[k]?=some t):(MO F gs M E).Perm ((x.on F).Ar t M.mem (gs.map GY.ptr) (Pu F (gs.eraseIdx k) (M.ts.eraseIdx k)++E)):=by
 unfold MO VG.Ar;refine(Qbr _ (Qc8 E (ma hx ht))).trans ?_;show(F.QC M.mem (gs.map GY.ptr)++((x.on F).U1 t++_++E)).Perm ((x.on F).U1 t++(F.QC M.mem (gs.map GY.ptr)++_));generalize F.QC M.mem (gs.map GY.ptr)=A;generalize (x.on F).U1 t=B;generalize Pu F (gs.eraseIdx k) (M.ts.eraseIdx k)=C;rw[PP,<-PP,<-PP B];exact Qc8 _ Qb0
theorem U5 (hx:gs[k]?=some x) {x':GY} (h:x'.tb=x.tb):(gs.set k x').map GY.ptr=gs.map GY.ptr:=by
 apply Qc7;intro i;rw[Qax,Qax,Qb3];split
 ·rename_i he;subst he;have hl:=(d9.1 hx).1;rw[In hl,hx];show some x'.ptr=some x.ptr;unfold GY.ptr;rw[h]
 ·rfl
theorem aN {w':World} (h:Az w (MO F gs M E)) (hx:gs[k]?=some x) (ht:M.ts[k]?=some t) {c o:SG} {s:C9×List Int}
  (S:Ak w ((x.on F).Ar t M.mem (gs.map GY.ptr) (Pu F (gs.eraseIdx k) (M.ts.eraseIdx k)++E)) w' (VG.Ar {x.on F with w:=c,o:=o} s.1 s.2 (gs.map GY.ptr) (Pu F (gs.eraseIdx k) (M.ts.eraseIdx k)++E))):
  Ak w (MO F gs M E) w' (MO F (gs.set k {x with w:=c,o:=o}) (M.put k s) E):=by
 have hl:=(d9.1 hx).1;have LG:=(d9.1 ht).1;refine((Ak.Ux h (RB hx ht)).trans S).trans (Ak.Ux S.Am ?_);have p:=RB (F:=F) (E:=E) (gs:=gs.set k {x with w:=c,o:=o}) (M:=M.put k s) (k:=k) (x:={x with w:=c,o:=o}) (t:=s.1) (by rw[Qb3,In rfl,In hl]) (by show(M.ts.set k s.1)[k]?=_;rw[Qb3,In rfl,In LG]);rw[U5 hx (x':={x with w:=c,o:=o}) rfl,List.eraseIdx_set_eq] at p;have e:(M.put k s).ts.eraseIdx k=M.ts.eraseIdx k:=by show(M.ts.set k s.1).eraseIdx k=_;rw[List.eraseIdx_set_eq]
 rw[e] at p;exact p.symm
theorem cg.fok (h:cg gs M) (hx:gs[k]?=some x) (ht:M.ts[k]?=some t):Nw (x.on F) t M.mem (gs.map GY.ptr) k:=by
 obtain⟨h1,h2,h3⟩:=h.th t (Qai ht);exact⟨h.ml,h1,h2,h3,by rw[Qax,hx];rfl,by rw[z9,h.gl];exact h.tl⟩
theorem cg.put (h:cg gs M) {g:VG} {s:C9×List Int} {ps:List Value} (ho:Nw g s.1 s.2 ps k) (x':GY):cg (gs.set k x') (M.put k s):=by
 refine⟨?_,?_,ho.ml,fun t ht=> ?_⟩
 ·rw[Qaa,Jo];exact h.gl
 ·rw[Jo];exact h.tl
 ·rcases List.mem_or_eq_of_mem_set ht with ht | ht
  ·exact h.th t ht
  ·subst ht;exact⟨ho.rl,ho.wl,ho.wa⟩
def Uq (F:VG) (gs:List GY) (M M':Al) (E:List Ob) (w w':World):Prop:=∃gs',Ak w (MO F gs M E) w' (MO F gs' M' E)/\cg gs' M'/\gs'.map GY.ptr=gs.map GY.ptr
theorem AcA (h:cg gs M) (hk:k < M.ts.length):∃x,gs[k]?=some x/\M.ts[k]?=some (M.th k):=by
 have hg:k < gs.length:=by rw[h.gl];exact hk
 refine⟨gs[k],Id hg,?_⟩;unfold Al.th;rw[GE,Id hk];rfl
end
section
variable (F:VG) (gs:List GY) (M:Al) (E:List Ob) (w:World) (h:Az w (MO F gs M E)) (ho:cg gs M) (k:Nat) (hk:k < M.ts.length)
include h ho hk
theorem lh:Calls prog 21 #[i6 F.mb,i5 k] w fun e w'=>e= .returned (.tuple #[])/\Uq F gs M (M.Cy k) E w w':=by
 obtain⟨x,hx,ht⟩:=AcA ho hk;refine(Te w (x.on F) (M.th k) M.mem (gs.map GY.ptr) _ k (Ak.Ux h (RB hx ht)).Am (ho.fok hx ht)).mono ?_;rintro e w' ⟨rfl,c,S⟩;rw[Pj hk];exact⟨rfl,_,aN h hx ht (c:=c) (o:=x.o) (s:=(Vl (M.th k),Zp (M.th k) M.mem)) S,ho.put ((ho.fok (F:=F) hx ht).fl c) _,U5 hx rfl⟩
theorem Abc (Ab:Nat->List GI) (hl:∀i,i∈Ab k->Px 4000 i) (hc:(M.th k).Ab=(Ab k).map GI.DR) (hn:(Ab k).length<=4000) (XC:(M.th k).out.length<=1000000000):
  Calls prog 25 #[i6 F.mb,i5 k] w fun e w'=>e= .returned (.tuple #[])/\Uq F gs M (M.step Ab k) E w w':=by
 obtain⟨x,hx,ht⟩:=AcA ho hk;refine(cK (Ab k) hl w (x.on F) (M.th k) M.mem (gs.map GY.ptr) _ k (Ak.Ux h (RB hx ht)).Am (ho.fok hx ht) hc hn XC).mono ?_;rintro e w' ⟨rfl,c,o,S,Oz⟩;rw[Q9 hk];exact⟨rfl,_,aN h hx ht (c:=c) (o:=o) S,ho.put Oz _,U5 hx rfl⟩
theorem lK (Ab:Nat->List GI) (hl:∀i,i∈Ab k->Px 4000 i) (hc:(M.th k).Ab=(Ab k).map GI.DR) (hn:(Ab k).length<=4000) (BH:Nat) (XC:(M.th k).out.length+BH<=1000000000):
  Calls prog 12 #[i6 F.mb,i5 k,i5 BH] w fun e w'=>e= .returned (.bool ((Al.Df Ab k BH M |>.th k).BG !=0))/\Uq F gs M (Al.Df Ab k BH M) E w w':=by
 obtain⟨x,hx,ht⟩:=AcA ho hk;refine(pI (Ab k) hl w (x.on F) (M.th k) M.mem (gs.map GY.ptr) _ k (Ak.Ux h (RB hx ht)).Am (ho.fok hx ht) hc hn BH XC).mono ?_;rintro e w' ⟨rfl,c,o,S,Oz⟩;rw[Pq hk,Lx hk];exact⟨rfl,_,aN h hx ht (c:=c) (o:=o) S,ho.put Oz _,U5 hx rfl⟩
end
end Go.Proofs.YtpdfifdlhpmofaaGreatDoor
