/- Part 5 of the proof. -/
import Derived.Test.YtpdfifdlhpmofaaGreatDoorA04
import Derived.Test.YtpdfifdlhpmofaaGreatDoorShelf
set_option linter.unusedVariables false
set_option linter.unusedSimpArgs false
set_option maxHeartbeats 0
set_option maxRecDepth 99999
namespace Go.Proofs.YtpdfifdlhpmofaaGreatDoor
open Go.RowKit Tryz
open Value renaming slice->qD,string->qE,bool->qF,tuple->qG,agg->qH,pointer->qI
open Ending renaming returned->qJ
open Obj renaming cells->qK
open Option renaming none->Z,some->U
open Bool renaming true->V,false->I
open Go.Lib renaming hid->D
open List renaming length->J
variable {p:Prop}
theorem mad (h:p:=by
 simp only[EN,CL,Wp,CW,II,SL,Pw,lo,st,I8,UP,Cz,Iv,Gx,Be,Bl,Bn,Js,Np,KR,Jy,JF,Jg,Jx,KL];rw[BQ _ _ _ _ rfl];try simp only[Be,Bl,Bn,Js,Jy,JF,QO,Q3,Jg,Jx,Jp]
 try rw[BQ _ _ _ _ rfl]
 try simp only[Be,Bl,Bn,Js,Jy,JF,QO,Q3,Jg,Jx,Jp]
 try rw[BQ _ _ _ _ rfl]
 rfl):p:=h
theorem ma7 (h:p:=by
 simp only[GT,Jg,Jx] at this;rw[show J pre+J done+1=J pre+(J done+(0+1)) by omega,this];simp[rz,LI.AN]):p:=h
theorem mbG (h:p:=by
 rw[GS.Be,GS.Bl] at h;grind [Gz,GS.Dg]):p:=h
variable {α:Type} {M:List Nat} {w w':World} {b a:GS} {mb:Nat} {Ao:Bool}
theorem OP (c:UInt8) (l:By) (h:Lib.indexByte l c= -1):AD c l=[l]:=by
 induction l with
 |nil=>rfl
 |cons x r ih=>
  unfold Lib.indexByte at h;by_cases hx:(x==c)=V;grind
  .rw[In hx] at h;have DT:¬x=c:=AC
   have h0:Lib.indexByte r c= -1:=by
    have:=Lib.indexByte_ge r c;grind
   show(if x=c then _ else _)=_;rw[In DT,ih h0]
theorem PX (c:UInt8) (l:By) (i:Nat) (h:Lib.indexByte l c=i):AD c l=l.take i::AD c (l.drop (i+1))/\l.take (i+1)=l.take i++[c]/\i<J l:=by
 induction l generalizing i with
 |nil=>unfold Lib.indexByte at h;omega
 |cons x r ih=>
  unfold Lib.indexByte at h;by_cases hx:(x==c)=V
  .rw[Jd hx] at h;have DT:x=c:=by simpa using hx
   have h0:i=0:=Y
   subst h0;subst DT;exact⟨by show(if x=x then _ else _)=_;rw[Jd rfl];rfl,rfl,EQ⟩
  .rw[In hx] at h;have DT:¬x=c:=by simpa using hx
   have:=Lib.indexByte_ge r c;by_cases h1:(Lib.indexByte r c== -1)=V
   .rw[Jd h1] at h;exact Jk h Y
   .rw[In h1] at h;obtain⟨j,rfl⟩:∃j,i=j+1:=⟨i-1,by have:Lib.indexByte r c≠ -1:=(λe=>h1 (by rw[e];rfl));omega⟩;obtain⟨h2,h3,h4⟩:=ih j Y;refine⟨?_,?_,AC⟩
    .show(if x=c then _ else _)=_;rw[In DT,h2];rfl
    grind
def RD (c:UInt8):List By->List By
 |[]=>[]
 |[p]=>[p]
 |p::q::r=>(p++[c])::RD c (q::r)
theorem y9 (c:UInt8) (l:List By):(RD c l).length=J l:=by
 induction l with
 |nil=>rfl
 |cons p l ih=>cases l<;>grind [RD]
theorem GU (c:UInt8):∀(n:Nat) (l:By),J l<=n->(AD c l).length=Lib.count l [c]+1:=by
 intro n;induction n with
 |zero=>
  intro l h;have:l=[]:=Jn Y;subst this;rw[Lib.count_miss Eq];rfl
 |succ n ih=>
  intro l h;rcases Classical.em (Lib.indexByte l c= -1) with h0|h0
  .rw[OP c l h0,Lib.count_miss (by rw[Lib.index_one];exact h0)];rfl
  .obtain⟨i,hi⟩:∃i:Nat,Lib.indexByte l c=i:=⟨(Lib.indexByte l c).toNat,by have:=Lib.indexByte_ge l c;omega⟩;obtain⟨h1,_,h3⟩:=PX c l i hi;rw[h1,Lib.count_hit (i:=i) EQ (by rw[Lib.index_one];exact hi),Jg,ih _ (by simp;omega)];simp;omega
theorem wD (c:UInt8):∀(k:Nat) (l:By),(AD c l).length<=k+1->Lib.splitK [c] 0 k l=AD c l/\Lib.splitK [c] 1 k l=RD c (AD c l):=by
 intro k;induction k with
 |zero=>
  intro l h;rcases Classical.em (Lib.indexByte l c= -1) with h0|h0
  .rw[OP c l h0];exact⟨rfl,rfl⟩
  .obtain⟨i,hi⟩:∃i:Nat,Lib.indexByte l c=i:=⟨(Lib.indexByte l c).toNat,by have:=Lib.indexByte_ge l c;omega⟩;obtain⟨h1,_,_⟩:=PX c l i hi;rw[h1,Jg] at h;have:=Cc c (l.drop (i+1));have:0<(AD c (l.drop (i+1))).length:=JI.2 this;omega
 |succ k ih=>
  intro l h;unfold Lib.splitK;rw[Lib.index_one];rcases Classical.em (Lib.indexByte l c= -1) with h0|h0
  .rw[OP c l h0,h0];exact⟨rfl,rfl⟩
  .obtain⟨i,hi⟩:∃i:Nat,Lib.indexByte l c=i:=⟨(Lib.indexByte l c).toNat,by have:=Lib.indexByte_ge l c;omega⟩;obtain⟨h1,h2,_⟩:=PX c l i hi;rw[h1,Jg] at h;obtain⟨i1,i2⟩:=ih (l.drop (i+1)) Y;have hne:(Lib.indexByte l c== -1)=I:=by rw[Jh];exact h0
   rw[hne,hi,h1];simp only[Qd,J7,JW,JP,J4];rw[i1,i2,h2];refine⟨rfl,?_⟩;cases hs:AD c (l.drop (i+1)) with
   |nil=>exact Jk hs (Cc _ _)
   |cons q r=>rfl
theorem cZ (c:UInt8) (s:ByteArray) (pD:Nat) (hsv:pD=0\/pD=1):Lib.splitB ⟨#[c]⟩ pD (Lib.countB s ⟨#[c]⟩) s=(if pD=0 then AD c (bs s) else RD c (AD c (bs s))).map AR:=by
 apply UI;have h:=Lib.splitB_data ⟨#[c]⟩ pD (Lib.countB s ⟨#[c]⟩) s;have hb:(λb:ByteArray=>b.data.toList)=bs:=rfl;rw[hb] at h;rw[h];have hc:(AD c (bs s)).length=Lib.countB s ⟨#[c]⟩+1:=GU c _ (bs s) (Jf _);obtain⟨i1,i2⟩:=wD c (Lib.countB s ⟨#[c]⟩) (bs s) Y;rcases hsv with rfl|rfl
 .exact i1
 .exact i2
def OX:By:=[97,98,99,100,101,102,103,104,105,106,107,108,109,110,111,112,113,114,115,116,117,118,119,120,121,122]
theorem Ts (p:α->Bool) (l:List α):l.dropWhile p=[]<->∀x,x∈l->p x=V:=by
 induction l with
 |nil=>simp
 |cons a l ih=>
  rw[QA];cases h:p a with
  |true=>simp[ih,h]
  |false=>simp[h]
theorem vW (l cs:By):Lib.trimS l cs=[]<->∀x,x∈l->cs.contains x=V:=by
 unfold Lib.trimS Lib.trimLeftS Lib.trimRightS;rw[Ts];constructor
 .intro h;rcases Classical.em (l.reverse.dropWhile (cs.contains ·)=[]) with h0|h0
  .rw[Ts] at h0;intro x hx;exact h0 x (jG.2 hx)
  .have h1:=List.head_dropWhile_not (cs.contains ·) (l:=l.reverse) h0;have h2:=h _ (jG.2 (List.head_mem h0));rw[h1] at h2;cases h2
 .intro h x hx;have h1:=(List.dropWhile_sublist _).subset (jG.1 hx);exact h x (jG.1 h1)
theorem ZB (b:UInt8):OX.contains b=low b:=by
 rw[Yk];have h:∀n,n<256->OX.contains (UInt8.ofNat n)=decide (97<=n/\n<=122):=by decide+kernel
 have:=h b.toNat b.toNat_lt;rw[UInt8.ofNat_toNat] at this;rw[this];congr 1;apply propext;omega
theorem TZ (s:By):Ci s=(decide (0<J s) && (decide (J s<=6) && decide (Lib.trimS s OX=[]))):=by
 have:s.all low=decide (Lib.trimS s OX=[]):=by
  rw[Q5,JD,vW,J3];exact⟨λh x hx=>by rw[ZB];exact h x hx,λh x hx=>by rw[<-ZB];exact h x hx⟩
 unfold Ci;rw[this];cases decide (0<J s)<;>cases decide (J s<=6)<;>simp
abbrev V0 (w:World):Prop:=Lib.TabIs prog w "internal/strconv.uint64pow10" .u64 Lib.pow10Tab
theorem V0.mod (h:V0 w) (k:Aw M w w') (hM:∀g,prog.globalNamed "internal/strconv.uint64pow10" =U g->g∉M):V0 w':=by
 unfold V0 Lib.TabIs World.var? at*;cases hg:prog.globalNamed "internal/strconv.uint64pow10" <;>grind [Aw]
theorem V0.quiet (h:V0 w) (k:Aw [] w w'):V0 w':=h.mod k EQ
theorem dQ (w:World) (k:Nat) (os:Array Obj):Aw [] w (Go.Sort.grow (w.drewN k) os):=
 ⟨rfl,rfl,rfl,by show w.heap.size<=(w.heap++os).size;simp,λj hj _=>by show(w.heap++os)[j]?=_;rw[Array.getElem?_append_left hj]⟩
theorem Yu (v:Int) (hv: -9223372036854775808<=v/\v<=9223372036854775807) (w:World) (h:V0 w):Calls prog 149 #[iI v,iI 10] w (Kv (qE (AR (Lib.itoa v))) w):=by
 refine(strconv_FormatInt_10 v hv.1 hv.2 w h).mono ?_;rintro e w' ⟨rfl,k,os,rfl⟩;exact⟨rfl,dQ _ _ _⟩
theorem Wq (v:Int) (hv: -9223372036854775808<=v/\v<=9223372036854775807) (w:World) (h:V0 w):Calls prog 196 #[iI v] w (Kv (qE (AR (Lib.itoa v))) w):=by
 refine(strconv_Itoa v hv.1 hv.2 w h).mono ?_;rintro e w' ⟨rfl,k,os,rfl⟩;exact⟨rfl,dQ _ _ _⟩
theorem Aau (s:ByteArray) (w:World) (hs:s.size<=1000000):
  Calls prog 147 #[qE s,qE ⟨#[97,98,99,100,101,102,103,104,105,106,107,108,109,110,111,112,113,114,115,116,117,118,119,120,121,122]⟩] w (Kv (qE (AR (Lib.trimS (bs s) OX))) w):=by
 refine(Any.strings_Trim_laid lays160 Fd s _ w Y Do (ascii_of_all Do)).mono ?_;rintro e w' ⟨rfl,hb⟩;exact⟨rfl,Aw.Zm hb⟩
structure Gl (mb:Nat) (w:World):Prop where
 tab:V0 w
 Cd:∃m,w.cell? ⟨2,0,Z⟩=U (iI m)
 syn:∃t p,w.cell? ⟨5,0,Z⟩=U (.iface t p)
 ran:∃t p,w.cell? ⟨6,0,Z⟩=U (.iface t p)
 Bh:w.cell? ⟨1,0,Z⟩=U (.map (U mb))
 opm:∃o,w.heap[mb]?=U o/\∀W:World,W.heap[mb]?=U o->∀s:ByteArray,(Instr.lookup 232 (.map (U mb)) (qE s) I).run prog W=.ok (qE ((xh s).getD ⟨#[]⟩)) W
def eI (mb:Nat):List Nat:=[2,5,6,1,7,mb]
theorem Af6 {b:Nat} {v:Value} (h:w.cell? ⟨b,0,Z⟩=U v):b<w.heap.size:=by
 grind [World.cell?]
theorem Sy (k:Aw M w w') {b:Nat} {v:Value} (h:w.cell? ⟨b,0,Z⟩=U v) (hb:b∉M):w'.cell? ⟨b,0,Z⟩=U v:=by
 have:=k.block b (Af6 h) hb;grind [World.cell?]
theorem Gl.mod (h:Gl mb w) (k:Aw M w w') (hM:∀b,b∈eI mb->b∉M):Gl mb w':=by
 obtain⟨h1,⟨m,h2⟩,⟨t3,p3,h3⟩,⟨t4,p4,h4⟩,h5,o,h6,h7⟩:=h;refine⟨h1.mod k λg hg=>?_,⟨m,Sy k h2 (hM _ (by simp[eI]))⟩,⟨t3,p3,Sy k h3 (hM _ (by simp[eI]))⟩,⟨t4,p4,Sy k h4 (hM _ (by simp[eI]))⟩,Sy k h5 (hM _ (by simp[eI])),o,k.heap h6 (hM _ (by simp[eI])),h7⟩;have e:prog.globalNamed "internal/strconv.uint64pow10" =U 7:=Fd
 rw[e] at hg;grind [eI,Aw]
theorem Gl.quiet (h:Gl mb w) (k:Aw [] w w'):Gl mb w':=h.mod k EQ
theorem Gl.lt (h:Gl mb w):∀b,b∈eI mb->b<w.heap.size:=by
 obtain⟨h1,⟨m,h2⟩,⟨t3,p3,h3⟩,⟨t4,p4,h4⟩,h5,o,h6,h7⟩:=h;intro b hb;have e:prog.globalNamed "internal/strconv.uint64pow10" =U 7:=Fd
 grind [eI,Lib.TabIs,World.var?]
structure GlK (mb:Nat) (w:World) (L:List Ob):Prop where
 gl:Gl mb w
 out:∀b,b∈eI mb->b∉Er L
theorem GlK.step {L L':List Ob} (h:GlK mb w L) (k:Af w L w' L'):GlK mb w' L':=
 ⟨h.gl.mod k.mod h.out,λb hb hl=>by
   grind [h.gl.lt b hb,GlK,Af]⟩
theorem p7 (h:Aw M w w') (a:Addr) (n:Nat) (ha:w.heap.size<=a.block):Aw M w (w'.freeze a n):=by
 grind [World.freeze,Aw]
theorem Zw (w:World) (e:TypeId) (s:ByteArray):Aw [] w (Lib.bytesWorld w e s):=
 p7 (((Aw.refl [] w).drew).alloc _) _ _ AC
theorem xg (mb:Nat) (s:ByteArray) (w:World) (h:Gl mb w) (hs:s.size<=1000000):
  Calls prog 148 #[qE s,iI 10,iI 64] w λe w'=>Aw [] w w'/\((∃v,Lib.parseIntB 64 (bs s)=.ok v/\e= qJ (qG #[iI v,.nilIface]))\/((∀v,Lib.parseIntB 64 (bs s)≠ .ok v)/\∃v t p,e= qJ (qG #[iI v,.iface t p]))):=by
 rcases hp:Lib.parseIntB 64 (bs s) with v|_|_
 .refine(strconv_ParseInt_10_at64_ok s Y v hp w).mono ?_;grind [Aw.refl,Zw]
 .obtain⟨t,p,h3⟩:=h.syn;refine(strconv_ParseInt_10_at64_syntax s Y hp _ w h3 AC).mono ?_;grind [Aw.Zm]
 .obtain⟨t,p,h3⟩:=h.ran;refine(strconv_ParseInt_10_at64_range s Y hp _ w h3 AC).mono ?_;grind [Aw.Zm]
def Zz (l:List (ByteArray×Value)):List MapEntry:=l.mapIdx λi p=>{key:= qE p.1,val:=p.2,born:=i}
def I9 (l:List (ByteArray×Value)):Obj:=.map (Zz l).toArray (J l)
def bP (l:List (ByteArray×Value)) (s:ByteArray):Option Value:=(l.find? λp=>decide (p.1=s)).map (·.2)
theorem ri (l:List (ByteArray×Value)) (s:ByteArray) (v:Value):Zz (l++[(s,v)])=Zz l++[{key:= qE s,val:=v,born:=J l}]:=by
 grind [Zz]
theorem Um (s:ByteArray):∀(l:List (ByteArray×Value)) (f:Nat->Nat) (i:Nat),
  Instr.findNow .string (qE s) (l.mapIdx λi p=>({key:= qE p.1,val:=p.2,born:=f i}:MapEntry)) i=U ((l.findIdx? λp=>decide (p.1=s)).bind λj=>l[j]?.map λp=>(i+j,p.2))
 |[],f,i=>by simp[Instr.findNow]
 |p::l,f,i=>by
  rw[List.mapIdx_cons];obtain⟨r,hr,AkM⟩:=MapKept.sameNow_of_keys (d:=.string) (a:= qE s) (b:= qE p.1) (by simp[MapKept.IsKey]) (by simp[MapKept.IsKey]);simp only[Instr.findNow,hr];cases r with
  |true=>
   have h:p.1=s:=by have:=AkM.1 rfl;injection this with h;exact h.symm
   simp[jW,h]
  |false=>
   have h:¬p.1=s:=λe=>by have:=AkM.2 (by rw[e]);cases this
   simp only[];rw[Um s l (λi=>f (i+1)) (i+1)];simp only[jW,h,decide_false,Qd,J7];cases hf:l.findIdx? λp=>decide (p.1=s) with
   |none=>simp
   |some j=>simp;congr 1;funext p;congr 1;omega
theorem Adj (f:α->Bool) (l:List α):l.find? f=(l.findIdx? f).bind λj=>l[j]?:=by
 induction l with
 |nil=>rfl
 |cons a l ih=>
  rw[d8,jW];cases f a with
  |true=>simp
  |false=>simp[ih];cases l.findIdx? f<;>simp
section
variable {P:Program} {t k e:TypeId} {w:World} {b:Nat} {l:List (ByteArray×Value)}
theorem PY (ht:P.underlying t=U (.map k e)) (hk:P.underlying k=U .string) {z:Value} (hz:(zeroValue e).run P w=.ok z w) (hb:w.heap[b]?=U (I9 l)) (s:ByteArray) (c:Bool):
  (Instr.lookup t (.map (U b)) (qE s) c).run P w=.ok (if c then qG #[(bP l s).getD z,qF (bP l s).isSome] else (bP l s).getD z) w:=by
 have hc:∀em,(Instr.checkKey em 10000 k (qE s)).run P w=.ok () w:=λem=>MapKept.run_checkKey (k:= qE s) hk (by simp[MapKept.IsKey]) em 9999
 have hf:=MapKept.run_findKey (w:=w) hk (Um s l id 0);unfold I9 at hb;unfold bP;rw[Adj];simp only[id] at hf;unfold Zz at hb;cases hj:l.findIdx? λp=>decide (p.1=s) with
 |none=>
  rw[hj] at hf;simp only[Option.bind_none] at hf;cases c<;>simp[Instr.lookup,run_underlying ht,MapKept.run_getObj_map hb,hc,hf,hz,Result.andThen]
 |some j=>
  rw[hj] at hf;have hlt:j<J l:=(List.findIdx?_eq_some_iff_findIdx_eq.1 hj).1;simp only[Option.bind_some,Jb hlt,jK] at hf;cases c<;>simp[Instr.lookup,run_underlying ht,MapKept.run_getObj_map hb,hc,hf,hz,Result.andThen,Jb hlt]
theorem xH {l:List (ByteArray×Value)} {s:ByteArray} (h:bP l s=Z):(l.findIdx? λp=>decide (p.1=s))=Z:=by
 grind [bP,Option.map_eq_none_iff]
theorem Nc (ht:P.underlying t=U (.map k e)) (hk:P.underlying k=U .string) (hb:w.heap[b]?=U (I9 l)) (s:ByteArray) (v:Value) (hn:bP l s=Z):
  (Instr.mapUpdate t (.map (U b)) (qE s) v).run P w=.ok () {w with heap:=w.heap.setIfInBounds b (I9 (l++[(s,v)]))}:=by
 have hc:∀em,(Instr.checkKey em 10000 k (qE s)).run P w=.ok () w:=λem=>MapKept.run_checkKey (k:= qE s) hk (by simp[MapKept.IsKey]) em 9999
 have hf:=MapKept.run_findKey (w:=w) hk (Um s l id 0);simp only[id,xH hn,Option.bind_none] at hf;unfold I9 at hb⊢;rw[ri];have Z2:(Instr.findKey k (qE s) (Zz l)).run P w=.ok Z w:=hf;simp[Instr.mapUpdate,run_underlying ht,MapKept.run_getObj_map hb,hc,Z2,MapKept.run_setObj_map _ hb,Result.andThen]
end
theorem Ft {x:ByteArray} {k:By} (h:bs x=k) (b0 b1 b2 b3 b4 b5 b6:Bool) (e:[k==Fz,k==DR,k==EF,k==IF,k==UD,k==EZ,k==A8]=[b0,b1,b2,b3,b4,b5,b6]):
  (x.toList==[115,101,116])=b0/\(x.toList==[103,101,116])=b1/\(x.toList==[112,117,116])=b2/\(x.toList==[111,117,116])=b3/\(x.toList==[105,102])=b4/\(x.toList==[108,111,111,112])=b5/\(x.toList==[97,116,111,109,105,99])=b6:=by
 have:x.toList=k:=by rw[ByteArray.toList_eq];exact h
 rw[this];simpa[Fz,DR,EF,IF,UD,EZ,A8] using e
inductive LI where
 |i (x:GI)
 |f (r:Int)
def LI.AN (ab:Int):LI->GI
 |.i x=>x
 |.f r=> .jz (.r r) ab
def rz (ab:Int) (l:List LI):List GI:=l.map (LI.AN ab)
theorem CO (ab:Int) (l:List LI):(rz ab l).length=J l:=by simp[rz]
theorem CE (ab:Int) (l m:List LI):rz ab (l++m)=rz ab l++rz ab m:=by simp[rz]
def EE:Nat->List LI->List Io
 |_,[]=>[]
 |p,.i _::l=>EE (p+1) l
 |p,.f r::l=>⟨p,U (.r r)⟩::EE (p+1) l
theorem Sn (l m:List LI):∀p,EE p (l++m)=EE p l++EE (p+J l) m:=by
 induction l with
 |nil=>intro p;rfl
 |cons x l ih=>
  intro p;cases x<;>grind [EE]
namespace GS
def ext (g:GS) (l:List LI):GS:={g with Ab:=g.Ab++rz 0 l,BN:=g.BN++EE (J g.Ab) l}
theorem ij (g:GS):g.ext []=g:=by simp[ext,rz,EE]
theorem Bl (g:GS) (l:List LI):(g.ext l).Ab.length=J g.Ab+J l:=by simp[ext,rz]
theorem Be (g:GS) (l m:List LI):(g.ext l).ext m=g.ext (l++m):=by
 simp[ext,rz,Sn]
theorem Bn (g:GS) (l:List LI):(g.ext l).Ac=g.Ac:=rfl
theorem Cz (g:GS) (i:GI):g.AP i=g.ext [.i i]:=by simp[ext,rz,EE,AP,LI.AN]
theorem Gx (g:GS) (r:Int):g.Kd r=g.ext [.f r]:=by simp[ext,rz,EE,AP,LI.AN,Kd,CL,EN]
def CN (a:Option Ag) (q:Int):GI:=match a with
 |none=> .GN q
 |some a=> .jz a q
theorem VA (g:GS) (k:Nat) (a:Option Ag):g.Bd ⟨k,a⟩={g with Ab:=g.Ab.set k (CN a (J g.Ab))}:=by
 unfold Bd CN;cases a<;>rfl
theorem xK (l:List LI):∀(p n:Nat) (x y:GI),l[n]?=U (.i x)->EE p (l.set n (.i y))=EE p l:=by
 induction l with
 |nil=>grind
 |cons z l ih=>
  intro p n x y h;cases n with
  |zero=>
   simp only[PP,Option.some.injEq] at h;subst h;rfl
  |succ n=>
   simp only[Ql] at h;cases z<;>grind [EE]
theorem Adn (g:GS) (l:List LI) (n:Nat) (a:Option Ag) (x:GI) (h:l[n]?=U (.i x)):(g.ext l).Bd ⟨J g.Ab+n,a⟩=g.ext (l.set n (.i (CN a (J g.Ab+J l:Nat)))):=by
 rw[VA,Bl];unfold ext<;>grind [xK,rz,List.map_set,LI.AN]
end GS
section
variable (Ac:Int)
def KL (r:Int):List LI:=[.i (.op bO 3 (.r r) (.n 1)),.i (.op dO 3 (.r 3) (.n 0)),.f 3,.i (.op Zs 3 (.r r) (.n 1)),.i (.load 4 (.n (Ac+38)) 0),.i (.op dN 3 (.r 4) (.r 3)),.i (.op dO 3 (.r 3) (.n 0)),.f 3]
def DJ (a:At) (r:Int):List LI:=if a.AX then [.i (.load r (.n (Ac+a.v)) 0)] else []
def VJ (p:Nat) (f s:Int) (AN:Ag):List LI:=[.i (.op dN 3 AN (.n 0)),.i (.jz (.r 3) (p+3:Nat)),.i (.CS 2),.i (.op dN 3 AN (.n s)),.i (.op dO 3 (.r 3) (.n 0)),.i (.jz (.r 3) (p+7:Nat)),.i (.CS 2),.i (.op KO 0 AN (.n f))]
def HU (p:Nat) (f s:Int) (a:At):List LI:=DJ Ac a 0++VJ (p+(DJ Ac a 0).length) f s (GS.BF a 0)
def Uk (p:Nat):List LI:=[.i (.load 1 (.r 0) (Ac+8)),.i (.jz (.r 1) (p+4:Nat)),.i (.load 1 (.r 0) (Ac+14)),.i (.GN (p+18:Nat)),.i (.load 2 (.r 0) 8)]++KL Ac 2++
 [.i (.load 1 (.r 0) 0),.i (.load 3 (.r 0) 8),.i (.op dO 3 (.r 3) (.r 2)),.f 3,.i (.store (.r 0) (Ac+20) (.n 1))]
def Nk (c p:Nat):List LI:=[.i (.load 1 (.n (Ac+(8+c))) 0),.i (.jz (.r 1) (p+16:Nat)),.i (.load 2 (.n (8+c)) 0)]++KL Ac 2++
 [.i (.op nOr 3 (.r 2) (.n 1)),.i (.La 3 (.n (8+c)) 0 (.r 2) (.r 3)),.f 3,.i (.store (.n (Ac+(26+c))) 0 (.n 1)),.i (.store (.n (Ac+(32+c))) 0 (.r 2))]
def Pk (c p:Nat):List LI:=[.i (.load 1 (.n (Ac+(20+c))) 0),.i (.jz (.r 1) (p+14:Nat)),.i (.load 1 (.n (Ac+(26+c))) 0),.i (.jz (.r 1) (p+5:Nat)),.i (.GN (p+14:Nat)),.i (.load 2 (.n (8+c)) 0)]++KL Ac 2
def Zd (c p:Nat):List LI:=[.i (.load 1 (.n (Ac+(8+c))) 0),.i (.jz (.r 1) (p+4:Nat)),.i (.load 2 (.n (Ac+(14+c))) 0),.i (.store (.n c) 0 (.r 2))]
def Rw (c p:Nat):List LI:=[.i (.load 1 (.n (Ac+(8+c))) 0),.i (.jz (.r 1) (p+3:Nat)),.i (.store (.n (8+c)) 0 (.r 5))]
def Pp (c p:Nat):List LI:=[.i (.load 1 (.n (Ac+(26+c))) 0),.i (.jz (.r 1) (p+4:Nat)),.i (.load 2 (.n (Ac+(32+c))) 0),.i (.store (.n (8+c)) 0 (.r 2))]
def Ri (c:Nat) (_:Nat):List LI:=[.i (.load 1 (.n (Ac+(4+c))) 0),.i (.store (.n (Ac+c)) 0 (.r 1))]
def Pf (c:Nat) (_:Nat):List LI:=[.i (.load 1 (.n (Ac+c)) 0),.i (.store (.n (Ac+(4+c))) 0 (.r 1))]
def Lf (c:Nat) (_:Nat):List LI:=[.i (.store (.n (Ac+(8+c))) 0 (.n 0)),.i (.store (.n (Ac+(20+c))) 0 (.n 0)),.i (.store (.n (Ac+(26+c))) 0 (.n 0))]
def L5 (p:Nat):List LI:=[.i (.Zv 1 (.n 0)),.i (.load 2 (.n (Ac+39)) 0),.i (.op dN 2 (.r 1) (.r 2)),.i (.jz (.r 2) (p+8:Nat)),.i (.load 2 (.r 1) (Ac+40)),.i (.out (.r 2)),.i (.op KO 1 (.r 1) (.n 1)),.i (.GN (p+1:Nat))]
def Fp (f:Nat->Nat->List LI):Nat->Nat->List LI
 |0,_=>[]
 |n+1,p=>Fp f n p++f n (p+(Fp f n p).length)
def ct:List LI:=[.i (.El 5 (.n 16) 0 (.n 1)),.i (.op KO 5 (.r 5) (.n 1)),.i (.op Vh 5 (.r 5) (.n 1))]
def FV (n p:Nat):List LI:=
 let l1:=Fp (Nk Ac) n p++ct
 let l2:=l1++Fp (Pk Ac) n (p+J l1)
 let l3:=l2++Fp (Zd Ac) n (p+J l2)
 l3++Fp (Rw Ac) n (p+J l3)
def bK (v:Int) (op:ByteArray) (a b:At):List LI:=
 if op.size=0 then DJ Ac a 1++[.i (.store (.n (Ac+v)) 0 (GS.BF a 1))]
 else DJ Ac a 1++DJ Ac b 2++[.i (.op op 1 (GS.BF a 1) (GS.BF b 2)),.i (.store (.n (Ac+v)) 0 (.r 1))]
def lE (Ao:Bool) (a:At):List LI:=
 DJ Ac a 1++(if Ao then [.i (.load 2 (.n (Ac+39)) 0),.i (.store (.r 2) (Ac+40) (GS.BF a 1)),.i (.op KO 2 (.r 2) (.n 1)),.i (.store (.n (Ac+39)) 0 (.r 2))] else [.i (.out (GS.BF a 1))])
def Ld (n:Nat) (p:Nat):List LI:=Fp (Lf Ac) n p++[.i (.store (.n (Ac+39)) 0 (.n 0)),.i (.load 1 (.n 16) 0),.i (.store (.n (Ac+38)) 0 (.r 1))]
def RE (n:Nat) (BX:Bool) (p:Nat):List LI:=(if BX then FV Ac n p else [])++L5 Ac (p+(if BX then FV Ac n p else []).length)
def Fv (n C4 p:Nat):List LI:=Fp (Pp Ac) n p++Fp (Ri Ac) 4 (p+(Fp (Pp Ac) n p).length)++[.i (.GN C4)]
def Gz (n:Nat):Bool->Nat->Nat->Bj->List LI
 |_,_,_,.nil=>[]
 |Ao,Ah,p,.set v op a b r=>bK Ac v op a b++Gz n Ao Ah (p+(bK Ac v op a b).length) r
 |Ao,Ah,p,.get v f s a r=>
  let c:=HU Ac p f s a
  let c:=c++Uk Ac (p+J c)++[.i (.store (.n (Ac+v)) 0 (.r 1))]
  c++Gz n Ao Ah (p+J c) r
 |Ao,Ah,p,.put f s i a r=>
  let c:=HU Ac p f s i++DJ Ac a 1++[.i (.store (.r 0) (Ac+14) (GS.BF a 1)),.i (.store (.r 0) (Ac+8) (.n 1))]
  c++Gz n Ao Ah (p+J c) r
 |Ao,Ah,p,.out a r=>lE Ac Ao a++Gz n Ao Ah (p+(lE Ac Ao a).length) r
 |Ao,Ah,p,.Ew a b r=>
  let v:=DJ Ac a 1
  let B:=Gz n Ao Ah (p+J v+1) b
  let c:=v++ .i (.jz (GS.BF a 1) (p+J v+1+J B:Nat))::B
  c++Gz n Ao Ah (p+J c) r
 |Ao,Ah,p,.loop k b r=>
  let B:=Gz n Ao (Ah+1) (p+1) b
  let c:=.i (.store (.n (Ac+(48+Ah))) 0 (.n k))::B++[.i (.load 1 (.n (Ac+(48+Ah))) 0),.i (.op KN 1 (.r 1) (.n 1)),.i (.store (.n (Ac+(48+Ah))) 0 (.r 1)),.i (.jz (.r 1) (p+1+J B+5:Nat)),.i (.GN (p+1:Nat))]
  c++Gz n Ao Ah (p+J c) r
 |Ao,Ah,p,.atomic b r=>
  let C4:=p+8
  let t:=Ld Ac n C4
  let B:=Gz n V Ah (C4+J t) b
  let m:=t++B++RE Ac n (BV b) (C4+J t+J B)
  let q:=C4+J m+1
  let k:=Fv Ac n C4 q
  let c:=Fp (Pf Ac) 4 p++(rz q m).map LI.i++ .i (.GN (q+J k:Nat))::k
  c++Gz n Ao Ah (p+J c) r
end
def isI:Option LI->Bool
 |some (.i _)=>V
 |_=>I
namespace GS
theorem BQ (g:GS) (l:List LI) (n:Nat) (a:Option Ag) (h:isI l[n]?=V):(g.ext l).Bd ⟨J g.Ab+n,a⟩=g.ext (l.set n (.i (CN a (J g.Ab+J l:Nat)))):=by
 cases hl:l[n]? with
 |none=>rw[hl] at h;cases h
 |some x=>
  cases x with
  |i x=>grind [Adn]
  |f r=>rw[hl] at h;cases h
theorem Np (g:GS) (l:Io):(g.Bd l).Ab.length=J g.Ab:=by cases l;rw[VA];simp
theorem KR (g:GS) (l:Io):(g.Bd l).Ac=g.Ac:=rfl
theorem Iv (g:GS) (r:Int):g.KJ r=g.ext (KL g.Ac r):=by
 simp only[KJ,II,lo,Cz,Gx,Be,Bn,Jy,JF,KL]
theorem NU (g:GS) (a:At) (r:Int):g.Cn a r=g.ext (DJ g.Ac a r):=by
 grind [Cn,DJ,lo,Cz,ij]
theorem fj (g:GS) (f s:Int) (a:At):g.EP f s a=g.ext (HU g.Ac (J g.Ab) f s a):=by
 unfold EP HU;simp only[NU];rw[<-Be,<-Bl];generalize g.ext (DJ g.Ac a 0)=g;generalize BF a 0=x;exact mad
theorem Ac8 (g:GS):g.SR=g.ext (Uk g.Ac (J g.Ab)):=by
 unfold SR;exact mad
theorem ya (g:GS) (c:Nat):Re c g=g.ext (Nk g.Ac c (J g.Ab)):=by
 unfold Re NY UR;exact mad
theorem x7 (g:GS) (c:Nat):Rc c g=g.ext (Pk g.Ac c (J g.Ab)):=by
 unfold Rc NY UR;exact mad
theorem Abp (g:GS) (c:Nat):Ze c g=g.ext (Zd g.Ac c (J g.Ab)):=by
 unfold Ze NY UR;exact mad
theorem yR (g:GS) (c:Nat):Rx c g=g.ext (Rw g.Ac c (J g.Ab)):=by
 unfold Rx NY UR;exact mad
theorem zB (g:GS) (c:Nat):Pq c g=g.ext (Pp g.Ac c (J g.Ab)):=by
 unfold Pq;exact mad
theorem ym (g:GS) (c:Nat):Pl c g=g.ext (Ri g.Ac c (J g.Ab)):=by
 grind [Pl,Ri,lo,st,Cz,Be,Bn]
theorem wL (g:GS) (c:Nat):Pj c g=g.ext (Pf g.Ac c (J g.Ab)):=by
 grind [Pj,Pf,lo,st,Cz,Be,Bn]
theorem sL (g:GS) (c:Nat):Kr c g=g.ext (Lf g.Ac c (J g.Ab)):=by
 unfold Kr Lf st<;>grind [Cz,Be,Bn]
theorem AaD (g:GS):g.GR=g.ext (L5 g.Ac (J g.Ab)):=by
 unfold GR;exact mad
theorem Ng (f:Nat->GS->GS) (fl:Int->Nat->Nat->List LI) (h:∀c g,f c g=g.ext (fl g.Ac c (J g.Ab))) (n:Nat) (g:GS):OF f n g=g.ext (Fp (fl g.Ac) n (J g.Ab)):=by
 induction n<;>grind [OF,Fp,ij,Bn,Bl,Be]
theorem sF (g:GS):g.Eh=g.ext (FV g.Ac g.cells.toNat (J g.Ab)):=by
 unfold Eh FV;simp only[Ng Re Nk λc g=>ya g c,II,Cz,Be,Ng Rc Pk λc g=>x7 g c,Ng Ze Zd λc g=>Abp g c,Ng Rx Rw λc g=>yR g c,Bn,Bl,ct,Jj,Jy,JF,GT,Jg,Jx,Js]
theorem AdM (g:GS) (C4:Nat):g.GB C4=g.ext (Fv g.Ac g.cells.toNat C4 (J g.Ab)):=by
 unfold GB Fv;simp only[Ng Pq Pp λc g=>zB g c,Ng Pl Ri λc g=>ym g c,Cz,Be,Bn,Bl,Jj]
theorem yz (g:GS) (pre:List GI) (l:List LI) (post:List GI) (B:Nat):∀(done:List LI) (_:g.Ab=pre++(rz B done++rz 0 l)++post) (_:B=J g.Ab),
  ((EE (J pre+J done) l).foldl Bd g).Ab=pre++(rz B done++rz B l)++post:=by
 induction l generalizing g with
 |nil=>grind [EE,rz]
 |cons x l ih=>
  intro done h hB;cases x with
  |i x=>
   simp only[EE];have:=ih g (done++[.i x]) (by rw[h];simp[rz,LI.AN]) hB;exact ma7
  |f r=>
   simp only[EE,QG];have e:g.Bd ⟨J pre+J done,U (.r r)⟩={g with Ab:=pre++(rz B (done++[.f r])++rz 0 l)++post}:=by
    rw[VA];grind [List.set_append_right,rz,CO,LI.AN,CN]
   rw[e];have:=ih {g with Ab:=pre++(rz B (done++[.f r])++rz 0 l)++post} (done++[.f r]) rfl (by
     rw[hB,h];simp[rz])
   exact ma7
theorem rX (l:List Io) (g:GS):(l.foldl Bd g).Ac=g.Ac/\(l.foldl Bd g).cells=g.cells/\(l.foldl Bd g).block=g.block/\(l.foldl Bd g).Ah=g.Ah:=by
 induction l generalizing g with
 |nil=>grind
 |cons a r ih=>rw[QG];exact ih _
end GS
def SW:Bj->Bool->Prop
 |.nil,_=>True
 |.set _ _ _ _ r,i=>SW r i
 |.get _ _ _ _ r,i=>SW r i
 |.put _ _ _ _ r,i=>SW r i
 |.out _ r,i=>SW r i
 |.atomic b r,i=>i=I/\SW b V/\SW r i
 |.Ew _ b r,i=>SW b i/\SW r i
 |.loop _ b r,i=>SW b i/\SW r i
structure Sm (Ao:Bool) (a b:GS):Prop where
 Ab:a.Ab=b.Ab
 Ac:a.Ac=b.Ac
 cells:a.cells=b.cells
 block:a.block=b.block
 Ah:a.Ah=b.Ah
 BN:Ao=V->a.BN=b.BN
theorem Sm.refl (Ao:Bool) (a:GS):Sm Ao a a:=⟨rfl,rfl,rfl,rfl,rfl,AC⟩
theorem Sm.trans {c:GS} (h:Sm Ao a b) (k:Sm Ao b c):Sm Ao a c:=
 ⟨h.1.trans k.1,h.2.trans k.2,h.3.trans k.3,h.4.trans k.4,h.5.trans k.5,λe=>(h.6 e).trans (k.6 e)⟩
theorem Sm.ext (h:Sm Ao a b) (l:List LI):Sm Ao (a.ext l) (b.ext l):=
 ⟨by simp[GS.ext,h.Ab],h.Ac,h.cells,h.block,h.Ah,λe=>by grind [GS.ext,Sm]⟩
theorem Sm.Bd (h:Sm Ao a b) (l:Io):Sm Ao (a.Bd l) (b.Bd l):=by
 cases l<;>grind [GS.VA,Sm]
theorem Sm.of_eq (h:a=b):Sm Ao a b:=h▸Sm.refl Ao a
theorem Afa (v B:List LI) (x:GI):isI (v++ .i x::B)[J v]?=V:=by simp[isI]
theorem Ab3 (v B:List LI) (x y:LI):(v++x::B).set (J v) y=v++y::B:=EQ
theorem Aa5 (ab:Int) (l:List GI):rz ab (l.map LI.i)=l:=by
 induction l<;>grind [rz,LI.AN]
theorem Abk (f:Nat->Nat->List LI) (hf:∀c p q,EE q (f c p)=[]) (n:Nat):∀p q,EE q (Fp f n p)=[]:=by
 induction n with
 |zero=>intro p q;rfl
 |succ n ih=>grind [Fp,Sn]
theorem Aaw (Ac:Int) (n p q:Nat):EE q (Ld Ac n p)=[]:=by
 unfold Ld;rw[Sn,Abk _ (λ_ _ _=>rfl)];rfl
theorem Ad2 (g:GS):g.Us=({g with block:=V,BN:=[]}:GS).ext (Ld g.Ac g.cells.toNat (J g.Ab)):=by
 unfold GS.Us;simp only[GS.Ng GS.Kr Lf λc g=>GS.sL g c,GS.st,GS.Pw,GS.Cz,GS.Be,GS.Bn];grind [GS.ext,Aaw,Ld]
theorem Aa3 (g:GS) (v:Int) (op:ByteArray) (a b:At):(if op.size=0 then (g.Cn a 1).st v (GS.BF a 1) else ((((g.Cn a 1).Cn b 2).II op 1 (GS.BF a 1) (GS.BF b 2)).st v (.r 1)))=g.ext (bK g.Ac v op a b):=by
 grind [bK,GS.NU,GS.st,GS.Cz,GS.Be,GS.Bn,GS.II]
theorem Aby (g:GS) (a:At):(if g.block then ((((g.Cn a 1).lo 2 39).I8 40 2 (GS.BF a 1)).II KO 2 (.r 2) (.n 1)).st 39 (.r 2) else (g.Cn a 1).AP (.out (GS.BF a 1)))=g.ext (lE g.Ac g.block a):=by
 grind [lE,GS.NU,GS.II,GS.st,GS.lo,GS.I8,GS.Cz,GS.Be,GS.Bn]
theorem Adv (g:GS) (p:Bool):(if p then g.Eh else g).GR=g.ext (RE g.Ac g.cells.toNat p (J g.Ab)):=by
 grind [RE,GS.sF,GS.AaD,GS.Be,GS.Bn,GS.Bl]
theorem zQ (g:GS) (pre:List GI) (m0:List LI) (C4:Nat) (BX:Bool) (hc:g.Ab=pre++rz 0 m0) (ha:g.BN=EE (J pre) m0):
  let m:=m0++RE g.Ac g.cells.toNat BX (J pre+J m0)
  let q:=J pre+J m+1
  let k:=Fv g.Ac g.cells.toNat C4 q
  (g.PG C4 BX).Ab=pre++rz q m++ .GN (q+J k:Nat)::rz 0 k/\(g.PG C4 BX).Ac=g.Ac/\(g.PG C4 BX).cells=g.cells/\(g.PG C4 BX).block=I/\(g.PG C4 BX).Ah=g.Ah:=by
 intro m q k;have e0:(if BX then ({g with block:=I}:GS).Eh else {g with block:=I}).GR={({g with block:=I}:GS) with Ab:=pre++rz 0 m,BN:=EE (J pre) m}:=by
  rw[Adv];grind [GS.ext,rz,Sn]
 have e1:g.PG C4 BX=((((EE (J pre) m).foldl GS.Bd ({({g with block:=I}:GS) with Ab:=pre++rz 0 m++[.GN 0],BN:=EE (J pre) m})).GB C4).Bd ⟨J pre+J m,Z⟩):=by
  grind [GS.PG,rz,GS.CW,GS.AP,GS.Wp]
 rw[e1];have h1:=GS.yz ({({g with block:=I}:GS) with Ab:=pre++rz 0 m++[.GN 0],BN:=EE (J pre) m}) pre m [.GN 0] q [] (by simp[rz]) (by simp[rz,q];omega);have h2:=GS.rX (EE (J pre) m) ({({g with block:=I}:GS) with Ab:=pre++rz 0 m++[.GN 0],BN:=EE (J pre) m});simp only[Jx,J4] at h1;obtain⟨b1,b2,b3,b4⟩:=h2;generalize (EE (J pre) m).foldl GS.Bd ({({g with block:=I}:GS) with Ab:=pre++rz 0 m++[.GN 0],BN:=EE (J pre) m})=g1 at h1 b1 b2 b3 b4⊢;have hl:J g1.Ab=q:=by rw[h1];simp[rz,q];omega
 rw[GS.AdM,GS.VA];refine⟨?_,b1,b2,b3,b4⟩;show(g1.ext _).Ab.set _ (GS.CN Z _)=_;rw[GS.Bl];unfold GS.ext;simp only[hl];rw[b1,b2];show(g1.Ab++rz 0 k).set _ (GS.CN Z _)=_;rw[h1];have e3:rz (↑q) []=([]:List GI):=rfl;rw[e3,JF,Jj,Jj,Qg _ _ Y,Nat.add_sub_cancel_left,Qg _ _ (by simp[rz]),CO,Qy];grind [GS.CN]
theorem Aer (Ac:Int) (n:Nat) (t:Bj):∀(Ao:Bool) (Ah:Nat) (G:GS),SW t Ao->G.block=Ao->G.cells.toNat=n->G.Ac=Ac->G.Ah=Ah->
  Sm Ao (GS.Dg t G) (G.ext (Gz Ac n Ao Ah (J G.Ab) t)):=by
 induction t with
 |nil=>grind [GS.Dg,Gz,GS.ij,Sm.refl]
 |set v op a b r ih=>
  intro Ao Ah G hn hb hc XP hd;have e:=Aa3 G v op a b;have h:=ih Ao Ah (G.ext (bK G.Ac v op a b)) hn hb hc XP hd;exact mbG
 |get v f s a r ih=>
  intro Ao Ah G hn hb hc XP hd;subst XP;have e:((G.EP f s a).SR).st v (.r 1)=G.ext (HU G.Ac (J G.Ab) f s a++Uk G.Ac (J G.Ab+(HU G.Ac (J G.Ab) f s a).length)++[.i (.store (.n (G.Ac+v)) 0 (.r 1))]):=by
   simp only[GS.fj,GS.Ac8,GS.st,GS.Cz,GS.Be,GS.Bn,GS.Bl]
  have h:=ih Ao Ah _ hn (show(G.ext (HU G.Ac (J G.Ab) f s a++Uk G.Ac (J G.Ab+(HU G.Ac (J G.Ab) f s a).length)++[.i (.store (.n (G.Ac+v)) 0 (.r 1))])).block=Ao from hb) hc rfl hd;exact mbG
 |put f s i a r ih=>
  intro Ao Ah G hn hb hc XP hd;subst XP;have e:(((G.EP f s i).Cn a 1).I8 14 0 (GS.BF a 1)).I8 8 0 (.n 1)=G.ext (HU G.Ac (J G.Ab) f s i++DJ G.Ac a 1++[.i (.store (.r 0) (G.Ac+14) (GS.BF a 1)),.i (.store (.r 0) (G.Ac+8) (.n 1))]):=by
   grind [GS.fj,GS.NU,GS.I8,GS.Cz,GS.Be,GS.Bn]
  have h:=ih Ao Ah _ hn (show(G.ext (HU G.Ac (J G.Ab) f s i++DJ G.Ac a 1++[.i (.store (.r 0) (G.Ac+14) (GS.BF a 1)),.i (.store (.r 0) (G.Ac+8) (.n 1))])).block=Ao from hb) hc rfl hd;exact mbG
 |out a r ih=>
  intro Ao Ah G hn hb hc XP hd;subst XP;subst hb;have e:=Aby G a;have h:=ih G.block Ah (G.ext (lE G.Ac G.block a)) hn rfl hc rfl hd;exact mbG
 |Ew a b r ib ih=>
  intro Ao Ah G hn hb hc XP hd;subst XP;have e:(G.Cn a 1).CL (GS.BF a 1)=G.ext (DJ G.Ac a 1++[.i (.jz (GS.BF a 1) 0)]):=by
   simp only[GS.NU,GS.CL,GS.Cz,GS.Be]
  have e':(G.Cn a 1).EN (GS.BF a 1)=⟨J G.Ab+(DJ G.Ac a 1).length,U (GS.BF a 1)⟩:=by
   simp only[GS.NU,GS.EN,GS.Bl]
  have h:=ib Ao Ah (G.ext (DJ G.Ac a 1++[.i (.jz (GS.BF a 1) 0)])) hn.1 hb hc rfl hd;rw[GS.Be,GS.Bl] at h;simp only[GT,Jg,Jx,JU,<-Js] at h;generalize hB:Gz G.Ac n Ao Ah (J G.Ab+(DJ G.Ac a 1).length+1) b=B at h;have h2:=h.Bd ⟨J G.Ab+(DJ G.Ac a 1).length,U (GS.BF a 1)⟩;rw[Jj,Jy,JF,GS.BQ _ _ _ _ (Afa _ _ _),Ab3] at h2;have e3:GS.Dg (.Ew a b r) G=GS.Dg r ((GS.Dg b (G.ext (DJ G.Ac a 1++[.i (.jz (GS.BF a 1) 0)]))).Bd ⟨J G.Ab+(DJ G.Ac a 1).length,U (GS.BF a 1)⟩):=by
   rw[<-e,<-e'];rfl
  rw[e3];generalize (GS.Dg b (G.ext (DJ G.Ac a 1++[.i (.jz (GS.BF a 1) 0)]))).Bd ⟨J G.Ab+(DJ G.Ac a 1).length,U (GS.BF a 1)⟩=g3 at h2;have h3:=ih Ao Ah g3 hn.2 (h2.block.trans hb) (by rw[h2.cells];exact hc) h2.Ac (h2.Ah.trans hd);refine h3.trans ?_;have h4:=h2.ext (Gz G.Ac n Ao Ah (J g3.Ab) r);refine h4.trans (Sm.of_eq ?_);rw[GS.Be,h2.Ab,GS.Bl];simp only[Gz,hB];congr 1;simp only[GS.CN,GT,Jg,Jj,Jy];rw[show J G.Ab+((DJ G.Ac a 1).length+(J B+1))=J G.Ab+(DJ G.Ac a 1).length+1+J B by omega]
 |loop k b r ib ih=>
  intro Ao Ah G hn hb hc XP hd;subst XP;have e:G.st (48+G.Ah) (.n k)=G.ext [.i (.store (.n (G.Ac+(48+Ah))) 0 (.n k))]:=by grind [GS.st,GS.Cz]
  have h:=ib Ao (Ah+1) {(G.ext [.i (.store (.n (G.Ac+(48+Ah))) 0 (.n k))]) with Ah:=G.Ah+1} hn.1 hb hc rfl (by rw[hd];simp);have Le:({(G.ext [.i (.store (.n (G.Ac+(48+Ah))) 0 (.n k))]) with Ah:=G.Ah+1}:GS).Ab.length=J G.Ab+1:=GS.Bl G [.i (.store (.n (G.Ac+(48+Ah))) 0 (.n k))];rw[Le] at h;generalize hB:Gz G.Ac n Ao (Ah+1) (J G.Ab+1) b=B at h;generalize hg:GS.Dg b {(G.ext [.i (.store (.n (G.Ac+(48+Ah))) 0 (.n k))]) with Ah:=G.Ah+1}=g2 at h;have h1:Sm Ao {g2 with Ah:=g2.Ah-1} ((G.ext [.i (.store (.n (G.Ac+(48+Ah))) 0 (.n k))]).ext B):=
   ⟨h.Ab,h.Ac,h.cells,h.block,by show g2.Ah-1=G.Ah;rw[h.Ah];show G.Ah+1-1=G.Ah;omega,h.BN⟩
  rw[GS.Be,Jy,JF] at h1;have e3:GS.Dg (.loop k b r) G=GS.Dg r ((((((({g2 with Ah:=g2.Ah-1}:GS).lo 1 (48+Ah)).II KN 1 (.r 1) (.n 1)).st (48+Ah) (.r 1)).CL (.r 1)).AP (.GN (J G.Ab+1:Nat))).Bd ((((({g2 with Ah:=g2.Ah-1}:GS).lo 1 (48+Ah)).II KN 1 (.r 1) (.n 1)).st (48+Ah) (.r 1)).EN (.r 1))):=by
   rw[<-hg,<-Le,<-e,<-hd];rfl
  rw[e3];generalize ({g2 with Ah:=g2.Ah-1}:GS)=g3 at h1;have h2:=(h1.ext [.i (.load 1 (.n (G.Ac+(48+Ah))) 0),.i (.op KN 1 (.r 1) (.n 1)),.i (.store (.n (G.Ac+(48+Ah))) 0 (.r 1)),.i (.jz (.r 1) 0),.i (.GN (J G.Ab+1:Nat))]).Bd ⟨J G.Ab+(J B+4),U (.r 1)⟩;rw[GS.Be,GS.BQ _ _ _ _ (by
    rw[Jy,Ql,JL Y,show J B+3-J B=3 by omega];rfl)] at h2
  have e4:((((((g3.lo 1 (48+Ah)).II KN 1 (.r 1) (.n 1)).st (48+Ah) (.r 1)).CL (.r 1)).AP (.GN (J G.Ab+1:Nat))).Bd ((((g3.lo 1 (48+Ah)).II KN 1 (.r 1) (.n 1)).st (48+Ah) (.r 1)).EN (.r 1)))=
    (g3.ext [.i (.load 1 (.n (G.Ac+(48+Ah))) 0),.i (.op KN 1 (.r 1) (.n 1)),.i (.store (.n (G.Ac+(48+Ah))) 0 (.r 1)),.i (.jz (.r 1) 0),.i (.GN (J G.Ab+1:Nat))]).Bd ⟨J G.Ab+(J B+4),U (.r 1)⟩:=by
   have iZ:J g3.Ab=J G.Ab+(J B+1):=by rw[h1.Ab,GS.Bl,Jg]
   have XQ:g3.Ac=G.Ac:=h1.Ac;simp only[GS.lo,GS.II,GS.st,GS.CL,GS.EN,GS.Cz,GS.Be,GS.Bn,GS.Bl,XQ,iZ,Jy,JF,Jg,Jx,Js]
  rw[e4];generalize (g3.ext [.i (.load 1 (.n (G.Ac+(48+Ah))) 0),.i (.op KN 1 (.r 1) (.n 1)),.i (.store (.n (G.Ac+(48+Ah))) 0 (.r 1)),.i (.jz (.r 1) 0),.i (.GN (J G.Ab+1:Nat))]).Bd ⟨J G.Ab+(J B+4),U (.r 1)⟩=g4 at h2;have h5:=ih Ao Ah g4 hn.2 (h2.block.trans hb) (by rw[h2.cells];exact hc) h2.Ac (h2.Ah.trans hd);refine h5.trans ?_;refine(h2.ext (Gz G.Ac n Ao Ah (J g4.Ab) r)).trans (Sm.of_eq ?_);rw[GS.Be,h2.Ab,GS.Bl];simp only[Gz,hB];congr 1;rw[Jy,QO,Qg _ _ Y,show J B+3-J B=3 by omega];simp only[GS.CN,QO,Q3,GT,Jg,Jx,Jj,Jy,JF];rw[show J G.Ab+(J B+(0+1+1+1+1+1)+1)=J G.Ab+1+J B+5 by omega]
 |atomic b r ib ih=>
  intro Ao Ah G hn hb hc XP hd;subst XP;obtain⟨ES,Px,hnr⟩:=hn;have s1:G.BU=G.ext (Fp (Pf G.Ac) 4 (J G.Ab)):=by
   unfold GS.BU;exact GS.Ng GS.Pj Pf (λc g=>GS.wL g c) 4 G
  have l1:J G.BU.Ab=J G.Ab+8:=by rw[s1,GS.Bl];rfl
  have s2:=Ad2 G.BU;have Ix:G.BU.Ac=G.Ac:=by rw[s1];rfl
  have Ys:G.BU.cells=G.cells:=by rw[s1];rfl
  have eD:G.BU.Ah=G.Ah:=by rw[s1];rfl
  have et:Ld G.BU.Ac G.BU.cells.toNat (J G.BU.Ab)=Ld G.Ac n (J G.Ab+8):=by rw[Ix,Ys,l1,hc]
  rw[et] at s2;generalize ht:Ld G.Ac n (J G.Ab+8)=tl at s2;have h:=ib V Ah G.BU.Us Px (by rw[s2];rfl) (by rw[s2];show G.BU.cells.toNat=n;rw[Ys,hc]) (by rw[s2];exact Ix) (by rw[s2];exact eD.trans hd);have l2:J G.BU.Us.Ab=J G.Ab+8+J tl:=by rw[s2,GS.Bl];show J G.BU.Ab+_=_;rw[l1]
  rw[l2] at h;generalize hB:Gz G.Ac n V Ah (J G.Ab+8+J tl) b=B at h;rw[s2,GS.Be] at h;have e3:GS.Dg (.atomic b r) G=GS.Dg r ((GS.Dg b (({G.BU with block:=V,BN:=[]}:GS).ext tl)).PG (J G.BU.Ab) (BV b)):=by rw[<-s2];rfl
  rw[e3,l1];generalize GS.Dg b (({G.BU with block:=V,BN:=[]}:GS).ext tl)=g2 at h;have uK:g2.Ac=G.Ac:=h.Ac.trans Ix;have AiD:g2.cells=G.cells:=h.cells.trans Ys;have key:=zQ g2 G.BU.Ab (tl++B) (J G.Ab+8) (BV b) h.Ab (by rw[h.BN rfl];simp[GS.ext]);rw[uK,AiD,hc,l1] at key;simp only[GT] at key;obtain⟨k1,k2,k3,k4,k5⟩:=key;have Wu:Sm Ao (g2.PG (J G.Ab+8) (BV b)) (G.ext (Gz G.Ac n Ao Ah (J G.Ab) (.atomic b .nil))):=by
   refine⟨?_,k2,k3,?_,k5.trans (h.Ah.trans eD),AC⟩
   .rw[k1];have:=JM GS.Ab s1;rw[this];simp only[GS.ext,Gz,ht,hB,Jr,CE,Aa5,Jj,GT];have ez:∀(x:GI) (l:List LI),rz 0 (.i x::l)=x::rz 0 l:=λ_ _=>rfl
    grind
   .rw[k4];show I=G.block;rw[hb,ES]
  generalize g2.PG (J G.Ab+8) (BV b)=g4 at Wu;have h5:=ih Ao Ah g4 hnr (Wu.block.trans hb) (by rw[Wu.cells];exact hc) Wu.Ac (Wu.Ah.trans hd);refine h5.trans ((Wu.ext _).trans (Sm.of_eq ?_));rw[GS.Be,Wu.Ab,GS.Bl];grind [Gz]
theorem aG (cells:Int) (k:Nat) (t:Bj) (h:SW t I):Gi cells k t=rz 0 (Gz (32+64*k) cells.toNat I 0 0 t)++[.halt]:=by
 have:=Aer (32+64*k) cells.toNat t I 0 (.start k cells) h rfl rfl rfl rfl;unfold Gi;show(GS.Dg t (GS.start k cells)).Ab++[GI.halt]=_;rw[this.Ab];simp[GS.ext,GS.start]
def CG (cells:Int) (ts:List Bj) (k:Nat):List (List GI):=(List.range k).map λi=>Gi cells i (ts.getD i .nil)
theorem iu (cells:Int) (ts:List Bj) (k:Nat):CG cells ts (k+1)=CG cells ts k++[Gi cells k (ts.getD k .nil)]:=by
 simp[CG,m7]
theorem KV (cells:Int) (ts:List Bj) (k:Nat):(CG cells ts k).length=k:=by simp[CG]
