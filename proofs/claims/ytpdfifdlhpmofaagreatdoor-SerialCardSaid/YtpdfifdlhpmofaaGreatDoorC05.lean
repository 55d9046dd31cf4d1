/- Part 5 of the proof. -/
import Derived.Test.YtpdfifdlhpmofaaGreatDoorC04
import Derived.Test.YtpdfifdlhpmofaaGreatDoorShelf
set_option linter.unusedVariables false
set_option linter.unusedSimpArgs false
set_option maxHeartbeats 0
set_option maxRecDepth 99999
namespace Go.Proofs.YtpdfifdlhpmofaaGreatDoor
open Go.RowKit Tryz
open Value renaming slice->m9,string->qA,bool->qB,tuple->qC,agg->qD,pointer->qE
open Ending renaming returned->qF
open Obj renaming cells->qG
open Option renaming none->Z,some->U
open Bool renaming true->V,false->I
open Go.Lib renaming hid->D
open List renaming length->J
variable {p:Prop}
theorem mad (h:p:=by
 simp only[EL,CG,V5,CW,IB,SE,Pq,lo,st,IW,Ut,Cy,Iq,Gr,Bb,Bl,Bn,Jq,M0,KH,Jx,JF,Jg,Jw,KD];rw[BP _ _ _ _ rfl];try simp only[Bb,Bl,Bn,Jq,Jx,JF,QI,QY,Jg,Jw,Ju]
 try rw[BP _ _ _ _ rfl]
 try simp only[Bb,Bl,Bn,Jq,Jx,JF,QI,QY,Jg,Jw,Ju]
 try rw[BP _ _ _ _ rfl]
 rfl):p:=h
theorem ma3 (h:p:=by
 simp only[GT,Jg,Jw] at this;rw[show J pre+J done+1=J pre+(J done+(0+1)) by omega,this];simp[rz,LI.AN]):p:=h
theorem mbC (h:p:=by
 rw[GS.Bb,GS.Bl] at h;grind [Gu,GS.Dh]):p:=h
variable {α:Type} {M:List Nat} {w w':World} {b a:GS} {mb:Nat} {Ao:Bool}
theorem OC (c:UInt8) (l:By) (h:Lib.indexByte l c= -1):AD c l=[l]:=by
 induction l with
 |nil=>rfl
 |cons x r ih=>
  unfold Lib.indexByte at h;by_cases hx:(x==c)=V;grind
  .rw[In hx] at h;have DS:¬x=c:=AC
   have h0:Lib.indexByte r c= -1:=by
    have:=Lib.indexByte_ge r c;grind
   show(if x=c then _ else _)=_;rw[In DS,ih h0]
theorem PL (c:UInt8) (l:By) (i:Nat) (h:Lib.indexByte l c=i):AD c l=l.take i::AD c (l.drop (i+1))/\l.take (i+1)=l.take i++[c]/\i<J l:=by
 induction l generalizing i with
 |nil=>unfold Lib.indexByte at h;omega
 |cons x r ih=>
  unfold Lib.indexByte at h;by_cases hx:(x==c)=V
  .rw[Jb hx] at h;have DS:x=c:=by simpa using hx
   have h0:i=0:=Y
   subst h0;subst DS;exact⟨by show(if x=x then _ else _)=_;rw[Jb rfl];rfl,rfl,EQ⟩
  .rw[In hx] at h;have DS:¬x=c:=by simpa using hx
   have:=Lib.indexByte_ge r c;by_cases h1:(Lib.indexByte r c== -1)=V
   .rw[Jb h1] at h;exact Jk h Y
   .rw[In h1] at h;obtain⟨j,rfl⟩:∃j,i=j+1:=⟨i-1,by have:Lib.indexByte r c≠ -1:=(λe=>h1 (by rw[e];rfl));omega⟩;obtain⟨h2,h3,h4⟩:=ih j Y;refine⟨?_,?_,AC⟩
    .show(if x=c then _ else _)=_;rw[In DS,h2];rfl
    grind
def RC (c:UInt8):List By->List By
 |[]=>[]
 |[p]=>[p]
 |p::q::r=>(p++[c])::RC c (q::r)
theorem xW (c:UInt8) (l:List By):(RC c l).length=J l:=by
 induction l with
 |nil=>rfl
 |cons p l ih=>cases l<;>grind [RC]
theorem GO (c:UInt8):∀(n:Nat) (l:By),J l<=n->(AD c l).length=Lib.count l [c]+1:=by
 intro n;induction n with
 |zero=>
  intro l h;have:l=[]:=Jm Y;subst this;rw[Lib.count_miss Eq];rfl
 |succ n ih=>
  intro l h;rcases Classical.em (Lib.indexByte l c= -1) with h0|h0
  .rw[OC c l h0,Lib.count_miss (by rw[Lib.index_one];exact h0)];rfl
  .obtain⟨i,hi⟩:∃i:Nat,Lib.indexByte l c=i:=⟨(Lib.indexByte l c).toNat,by have:=Lib.indexByte_ge l c;omega⟩;obtain⟨h1,_,h3⟩:=PL c l i hi;rw[h1,Lib.count_hit (i:=i) EQ (by rw[Lib.index_one];exact hi),Jg,ih _ (by simp;omega)];simp;omega
theorem u7 (c:UInt8):∀(k:Nat) (l:By),(AD c l).length<=k+1->Lib.splitK [c] 0 k l=AD c l/\Lib.splitK [c] 1 k l=RC c (AD c l):=by
 intro k;induction k with
 |zero=>
  intro l h;rcases Classical.em (Lib.indexByte l c= -1) with h0|h0
  .rw[OC c l h0];exact⟨rfl,rfl⟩
  .obtain⟨i,hi⟩:∃i:Nat,Lib.indexByte l c=i:=⟨(Lib.indexByte l c).toNat,by have:=Lib.indexByte_ge l c;omega⟩;obtain⟨h1,_,_⟩:=PL c l i hi;rw[h1,Jg] at h;have:=Cc c (l.drop (i+1));have:0<(AD c (l.drop (i+1))).length:=JE.2 this;omega
 |succ k ih=>
  intro l h;unfold Lib.splitK;rw[Lib.index_one];rcases Classical.em (Lib.indexByte l c= -1) with h0|h0
  .rw[OC c l h0,h0];exact⟨rfl,rfl⟩
  .obtain⟨i,hi⟩:∃i:Nat,Lib.indexByte l c=i:=⟨(Lib.indexByte l c).toNat,by have:=Lib.indexByte_ge l c;omega⟩;obtain⟨h1,h2,_⟩:=PL c l i hi;rw[h1,Jg] at h;obtain⟨i1,i2⟩:=ih (l.drop (i+1)) Y;have hne:(Lib.indexByte l c== -1)=I:=by rw[Jh];exact h0
   rw[hne,hi,h1];simp only[Qb,J1,JW,JN,JX];rw[i1,i2,h2];refine⟨rfl,?_⟩;cases hs:AD c (l.drop (i+1)) with
   |nil=>exact Jk hs (Cc _ _)
   |cons q r=>rfl
theorem cd (c:UInt8) (s:ByteArray) (og:Nat) (hsv:og=0\/og=1):Lib.splitB ⟨#[c]⟩ og (Lib.countB s ⟨#[c]⟩) s=(if og=0 then AD c (bs s) else RC c (AD c (bs s))).map AU:=by
 apply Uo;have h:=Lib.splitB_data ⟨#[c]⟩ og (Lib.countB s ⟨#[c]⟩) s;have hb:(λb:ByteArray=>b.data.toList)=bs:=rfl;rw[hb] at h;rw[h];have hc:(AD c (bs s)).length=Lib.countB s ⟨#[c]⟩+1:=GO c _ (bs s) (Jf _);obtain⟨i1,i2⟩:=u7 c (Lib.countB s ⟨#[c]⟩) (bs s) Y;rcases hsv with rfl|rfl
 .exact i1
 .exact i2
def ON:By:=[97,98,99,100,101,102,103,104,105,106,107,108,109,110,111,112,113,114,115,116,117,118,119,120,121,122]
theorem Th (p:α->Bool) (l:List α):l.dropWhile p=[]<->∀x,x∈l->p x=V:=by
 induction l with
 |nil=>simp
 |cons a l ih=>
  rw[List.dropWhile_cons];cases h:p a with
  |true=>simp[ih,h]
  |false=>simp[h]
theorem uQ (l cs:By):Lib.trimS l cs=[]<->∀x,x∈l->cs.contains x=V:=by
 unfold Lib.trimS Lib.trimLeftS Lib.trimRightS;rw[Th];constructor
 .intro h;rcases Classical.em (l.reverse.dropWhile (cs.contains ·)=[]) with h0|h0
  .rw[Th] at h0;intro x hx;exact h0 x (jB.2 hx)
  .have h1:=List.head_dropWhile_not (cs.contains ·) (l:=l.reverse) h0;have h2:=h _ (jB.2 (List.head_mem h0));rw[h1] at h2;cases h2
 .intro h x hx;have h1:=(List.dropWhile_sublist _).subset (jB.1 hx);exact h x (jB.1 h1)
theorem Za (b:UInt8):ON.contains b=low b:=by
 rw[XU];have h:∀n,n<256->ON.contains (UInt8.ofNat n)=decide (97<=n/\n<=122):=by decide+kernel
 have:=h b.toNat b.toNat_lt;rw[UInt8.ofNat_toNat] at this;rw[this];congr 1;apply propext;omega
theorem TA (s:By):Cg s=(decide (0<J s) && (decide (J s<=6) && decide (Lib.trimS s ON=[]))):=by
 have:s.all low=decide (Lib.trimS s ON=[]):=by
  rw[Q1,JB,uQ,Nm];exact⟨λh x hx=>by rw[Za];exact h x hx,λh x hx=>by rw[<-Za];exact h x hx⟩
 unfold Cg;rw[this];cases decide (0<J s)<;>cases decide (J s<=6)<;>simp
abbrev VJ (w:World):Prop:=Lib.TabIs prog w "internal/strconv.uint64pow10" .u64 Lib.pow10Tab
theorem VJ.mod (h:VJ w) (k:Az M w w') (hM:∀g,prog.globalNamed "internal/strconv.uint64pow10" =U g->g∉M):VJ w':=by
 unfold VJ Lib.TabIs World.var? at*;cases hg:prog.globalNamed "internal/strconv.uint64pow10" <;>grind [Az]
theorem VJ.quiet (h:VJ w) (k:Az [] w w'):VJ w':=h.mod k EQ
theorem cU (w:World) (k:Nat) (os:Array Obj):Az [] w (Go.Sort.grow (w.drewN k) os):=
 ⟨rfl,rfl,rfl,by show w.heap.size<=(w.heap++os).size;simp,λj hj _=>by show(w.heap++os)[j]?=_;rw[Array.getElem?_append_left hj]⟩
theorem X6 (v:Int) (hv: -9223372036854775808<=v/\v<=9223372036854775807) (w:World) (h:VJ w):Calls prog 149 #[iI v,iI 10] w (Kn (qA (AU (Lib.itoa v))) w):=by
 refine(strconv_FormatInt_10 v hv.1 hv.2 w h).mono ?_;rintro e w' ⟨rfl,k,os,rfl⟩;exact⟨rfl,cU _ _ _⟩
theorem V6 (v:Int) (hv: -9223372036854775808<=v/\v<=9223372036854775807) (w:World) (h:VJ w):Calls prog 196 #[iI v] w (Kn (qA (AU (Lib.itoa v))) w):=by
 refine(strconv_Itoa v hv.1 hv.2 w h).mono ?_;rintro e w' ⟨rfl,k,os,rfl⟩;exact⟨rfl,cU _ _ _⟩
theorem zF (s:ByteArray) (w:World) (hs:s.size<=1000000):
  Calls prog 147 #[qA s,qA ⟨#[97,98,99,100,101,102,103,104,105,106,107,108,109,110,111,112,113,114,115,116,117,118,119,120,121,122]⟩] w (Kn (qA (AU (Lib.trimS (bs s) ON))) w):=by
 refine(Any.strings_Trim_laid lays160 Fd s _ w Y Do (ascii_of_all Do)).mono ?_;rintro e w' ⟨rfl,hb⟩;exact⟨rfl,Az.YV hb⟩
structure Gl (mb:Nat) (w:World):Prop where
 tab:VJ w
 BE:∃m,w.cell? ⟨2,0,Z⟩=U (iI m)
 syn:∃t p,w.cell? ⟨5,0,Z⟩=U (.iface t p)
 ran:∃t p,w.cell? ⟨6,0,Z⟩=U (.iface t p)
 Bf:w.cell? ⟨1,0,Z⟩=U (.map (U mb))
 opm:∃o,w.heap[mb]?=U o/\∀W:World,W.heap[mb]?=U o->∀s:ByteArray,(Instr.lookup 232 (.map (U mb)) (qA s) I).run prog W=.ok (qA ((vF s).getD ⟨#[]⟩)) W
def dz (mb:Nat):List Nat:=[2,5,6,1,7,mb]
theorem AfJ {b:Nat} {v:Value} (h:w.cell? ⟨b,0,Z⟩=U v):b<w.heap.size:=by
 grind [World.cell?]
theorem St (k:Az M w w') {b:Nat} {v:Value} (h:w.cell? ⟨b,0,Z⟩=U v) (hb:b∉M):w'.cell? ⟨b,0,Z⟩=U v:=by
 have:=k.block b (AfJ h) hb;grind [World.cell?]
theorem Gl.mod (h:Gl mb w) (k:Az M w w') (hM:∀b,b∈dz mb->b∉M):Gl mb w':=by
 obtain⟨h1,⟨m,h2⟩,⟨t3,p3,h3⟩,⟨t4,p4,h4⟩,h5,o,h6,h7⟩:=h;refine⟨h1.mod k λg hg=>?_,⟨m,St k h2 (hM _ (by simp[dz]))⟩,⟨t3,p3,St k h3 (hM _ (by simp[dz]))⟩,⟨t4,p4,St k h4 (hM _ (by simp[dz]))⟩,St k h5 (hM _ (by simp[dz])),o,k.heap h6 (hM _ (by simp[dz])),h7⟩;have e:prog.globalNamed "internal/strconv.uint64pow10" =U 7:=Fd
 rw[e] at hg;grind [dz,Az]
theorem Gl.quiet (h:Gl mb w) (k:Az [] w w'):Gl mb w':=h.mod k EQ
theorem Gl.lt (h:Gl mb w):∀b,b∈dz mb->b<w.heap.size:=by
 obtain⟨h1,⟨m,h2⟩,⟨t3,p3,h3⟩,⟨t4,p4,h4⟩,h5,o,h6,h7⟩:=h;intro b hb;have e:prog.globalNamed "internal/strconv.uint64pow10" =U 7:=Fd
 grind [dz,Lib.TabIs,World.var?]
structure GlK (mb:Nat) (w:World) (L:List Ob):Prop where
 gl:Gl mb w
 out:∀b,b∈dz mb->b∉Et L
theorem GlK.step {L L':List Ob} (h:GlK mb w L) (k:Ai w L w' L'):GlK mb w' L':=
 ⟨h.gl.mod k.mod h.out,λb hb hl=>by
   grind [h.gl.lt b hb,GlK,Ai]⟩
theorem oL (h:Az M w w') (a:Addr) (n:Nat) (ha:w.heap.size<=a.block):Az M w (w'.freeze a n):=by
 grind [World.freeze,Az]
theorem Y5 (w:World) (e:TypeId) (s:ByteArray):Az [] w (Lib.bytesWorld w e s):=
 oL (((Az.refl [] w).drew).alloc _) _ _ AC
theorem vC (mb:Nat) (s:ByteArray) (w:World) (h:Gl mb w) (hs:s.size<=1000000):
  Calls prog 148 #[qA s,iI 10,iI 64] w λe w'=>Az [] w w'/\((∃v,Lib.parseIntB 64 (bs s)=.ok v/\e= qF (qC #[iI v,.nilIface]))\/((∀v,Lib.parseIntB 64 (bs s)≠ .ok v)/\∃v t p,e= qF (qC #[iI v,.iface t p]))):=by
 rcases hp:Lib.parseIntB 64 (bs s) with v|_|_
 .refine(strconv_ParseInt_10_at64_ok s Y v hp w).mono ?_;grind [Az.refl,Y5]
 .obtain⟨t,p,h3⟩:=h.syn;refine(strconv_ParseInt_10_at64_syntax s Y hp _ w h3 AC).mono ?_;grind [Az.YV]
 .obtain⟨t,p,h3⟩:=h.ran;refine(strconv_ParseInt_10_at64_range s Y hp _ w h3 AC).mono ?_;grind [Az.YV]
def Y8 (l:List (ByteArray×Value)):List MapEntry:=l.mapIdx λi p=>{key:= qA p.1,val:=p.2,born:=i}
def IZ (l:List (ByteArray×Value)):Obj:=.map (Y8 l).toArray (J l)
def aT (l:List (ByteArray×Value)) (s:ByteArray):Option Value:=(l.find? λp=>decide (p.1=s)).map (·.2)
theorem oS (l:List (ByteArray×Value)) (s:ByteArray) (v:Value):Y8 (l++[(s,v)])=Y8 l++[{key:= qA s,val:=v,born:=J l}]:=by
 grind [Y8]
theorem TX (s:ByteArray):∀(l:List (ByteArray×Value)) (f:Nat->Nat) (i:Nat),
  Instr.findNow .string (qA s) (l.mapIdx λi p=>({key:= qA p.1,val:=p.2,born:=f i}:MapEntry)) i=U ((l.findIdx? λp=>decide (p.1=s)).bind λj=>l[j]?.map λp=>(i+j,p.2))
 |[],f,i=>by simp[Instr.findNow]
 |p::l,f,i=>by
  rw[List.mapIdx_cons];obtain⟨r,hr,Akn⟩:=MapKept.sameNow_of_keys (d:=.string) (a:= qA s) (b:= qA p.1) (by simp[MapKept.IsKey]) (by simp[MapKept.IsKey]);simp only[Instr.findNow,hr];cases r with
  |true=>
   have h:p.1=s:=by have:=Akn.1 rfl;injection this with h;exact h.symm
   simp[jO,h]
  |false=>
   have h:¬p.1=s:=λe=>by have:=Akn.2 (by rw[e]);cases this
   simp only[];rw[TX s l (λi=>f (i+1)) (i+1)];simp only[jO,h,decide_false,Qb,J1];cases hf:l.findIdx? λp=>decide (p.1=s) with
   |none=>simp
   |some j=>simp;congr 1;funext p;congr 1;omega
theorem AcO (f:α->Bool) (l:List α):l.find? f=(l.findIdx? f).bind λj=>l[j]?:=by
 induction l with
 |nil=>rfl
 |cons a l ih=>
  rw[UV,jO];cases f a with
  |true=>simp
  |false=>simp[ih];cases l.findIdx? f<;>simp
section
variable {P:Program} {t k e:TypeId} {w:World} {b:Nat} {l:List (ByteArray×Value)}
theorem PN (ht:P.underlying t=U (.map k e)) (hk:P.underlying k=U .string) {z:Value} (hz:(zeroValue e).run P w=.ok z w) (hb:w.heap[b]?=U (IZ l)) (s:ByteArray) (c:Bool):
  (Instr.lookup t (.map (U b)) (qA s) c).run P w=.ok (if c then qC #[(aT l s).getD z,qB (aT l s).isSome] else (aT l s).getD z) w:=by
 have hc:∀em,(Instr.checkKey em 10000 k (qA s)).run P w=.ok () w:=λem=>MapKept.run_checkKey (k:= qA s) hk (by simp[MapKept.IsKey]) em 9999
 have hf:=MapKept.run_findKey (w:=w) hk (TX s l id 0);unfold IZ at hb;unfold aT;rw[AcO];simp only[id] at hf;unfold Y8 at hb;cases hj:l.findIdx? λp=>decide (p.1=s) with
 |none=>
  rw[hj] at hf;simp only[Option.bind_none] at hf;cases c<;>simp[Instr.lookup,run_underlying ht,MapKept.run_getObj_map hb,hc,hf,hz,Result.andThen]
 |some j=>
  rw[hj] at hf;have hlt:j<J l:=(List.findIdx?_eq_some_iff_findIdx_eq.1 hj).1;simp only[Option.bind_some,Ja hlt,jF] at hf;cases c<;>simp[Instr.lookup,run_underlying ht,MapKept.run_getObj_map hb,hc,hf,hz,Result.andThen,Ja hlt]
theorem vY {l:List (ByteArray×Value)} {s:ByteArray} (h:aT l s=Z):(l.findIdx? λp=>decide (p.1=s))=Z:=by
 grind [aT,Option.map_eq_none_iff]
theorem My (ht:P.underlying t=U (.map k e)) (hk:P.underlying k=U .string) (hb:w.heap[b]?=U (IZ l)) (s:ByteArray) (v:Value) (hn:aT l s=Z):
  (Instr.mapUpdate t (.map (U b)) (qA s) v).run P w=.ok () {w with heap:=w.heap.setIfInBounds b (IZ (l++[(s,v)]))}:=by
 have hc:∀em,(Instr.checkKey em 10000 k (qA s)).run P w=.ok () w:=λem=>MapKept.run_checkKey (k:= qA s) hk (by simp[MapKept.IsKey]) em 9999
 have hf:=MapKept.run_findKey (w:=w) hk (TX s l id 0);simp only[id,vY hn,Option.bind_none] at hf;unfold IZ at hb⊢;rw[oS];have Zx:(Instr.findKey k (qA s) (Y8 l)).run P w=.ok Z w:=hf;simp[Instr.mapUpdate,run_underlying ht,MapKept.run_getObj_map hb,hc,Zx,MapKept.run_setObj_map _ hb,Result.andThen]
end
theorem Fm {x:ByteArray} {k:By} (h:bs x=k) (b0 b1 b2 b3 b4 b5 b6:Bool) (e:[k==Fw,k==DQ,k==EF,k==Iz,k==Uj,k==EW,k==A8]=[b0,b1,b2,b3,b4,b5,b6]):
  (x.toList==[115,101,116])=b0/\(x.toList==[103,101,116])=b1/\(x.toList==[112,117,116])=b2/\(x.toList==[111,117,116])=b3/\(x.toList==[105,102])=b4/\(x.toList==[108,111,111,112])=b5/\(x.toList==[97,116,111,109,105,99])=b6:=by
 have:x.toList=k:=by rw[ByteArray.toList_eq];exact h
 rw[this];simpa[Fw,DQ,EF,Iz,Uj,EW,A8] using e
inductive LI where
 |i (x:GI)
 |f (r:Int)
def LI.AN (ab:Int):LI->GI
 |.i x=>x
 |.f r=> .jz (.r r) ab
def rz (ab:Int) (l:List LI):List GI:=l.map (LI.AN ab)
theorem CM (ab:Int) (l:List LI):(rz ab l).length=J l:=by simp[rz]
theorem CC (ab:Int) (l m:List LI):rz ab (l++m)=rz ab l++rz ab m:=by simp[rz]
def EE:Nat->List LI->List Ii
 |_,[]=>[]
 |p,.i _::l=>EE (p+1) l
 |p,.f r::l=>⟨p,U (.r r)⟩::EE (p+1) l
theorem Si (l m:List LI):∀p,EE p (l++m)=EE p l++EE (p+J l) m:=by
 induction l with
 |nil=>intro p;rfl
 |cons x l ih=>
  intro p;cases x<;>grind [EE]
namespace GS
def ext (g:GS) (l:List LI):GS:={g with Ab:=g.Ab++rz 0 l,BM:=g.BM++EE (J g.Ab) l}
theorem gr (g:GS):g.ext []=g:=by simp[ext,rz,EE]
theorem Bl (g:GS) (l:List LI):(g.ext l).Ab.length=J g.Ab+J l:=by simp[ext,rz]
theorem Bb (g:GS) (l m:List LI):(g.ext l).ext m=g.ext (l++m):=by
 simp[ext,rz,Si]
theorem Bn (g:GS) (l:List LI):(g.ext l).Ac=g.Ac:=rfl
theorem Cy (g:GS) (i:GI):g.AQ i=g.ext [.i i]:=by simp[ext,rz,EE,AQ,LI.AN]
theorem Gr (g:GS) (r:Int):g.I1 r=g.ext [.f r]:=by simp[ext,rz,EE,AQ,LI.AN,I1,CG,EL]
def CL (a:Option Ag) (q:Int):GI:=match a with
 |none=> .GF q
 |some a=> .jz a q
theorem Vi (g:GS) (k:Nat) (a:Option Ag):g.Ba ⟨k,a⟩={g with Ab:=g.Ab.set k (CL a (J g.Ab))}:=by
 unfold Ba CL;cases a<;>rfl
theorem wg (l:List LI):∀(p n:Nat) (x y:GI),l[n]?=U (.i x)->EE p (l.set n (.i y))=EE p l:=by
 induction l with
 |nil=>grind
 |cons z l ih=>
  intro p n x y h;cases n with
  |zero=>
   simp only[Pi,Option.some.injEq] at h;subst h;rfl
  |succ n=>
   simp only[Qi] at h;cases z<;>grind [EE]
theorem AcU (g:GS) (l:List LI) (n:Nat) (a:Option Ag) (x:GI) (h:l[n]?=U (.i x)):(g.ext l).Ba ⟨J g.Ab+n,a⟩=g.ext (l.set n (.i (CL a (J g.Ab+J l:Nat)))):=by
 rw[Vi,Bl];unfold ext<;>grind [wg,rz,List.map_set,LI.AN]
end GS
section
variable (Ac:Int)
def KD (r:Int):List LI:=[.i (.op aS 3 (.r r) (.n 1)),.i (.op cS 3 (.r 3) (.n 0)),.f 3,.i (.op Y1 3 (.r r) (.n 1)),.i (.load 4 (.n (Ac+38)) 0),.i (.op cR 3 (.r 4) (.r 3)),.i (.op cS 3 (.r 3) (.n 0)),.f 3]
def DL (a:At) (r:Int):List LI:=if a.AX then [.i (.load r (.n (Ac+a.v)) 0)] else []
def Vp (p:Nat) (f s:Int) (AN:Ag):List LI:=[.i (.op cR 3 AN (.n 0)),.i (.jz (.r 3) (p+3:Nat)),.i (.CR 2),.i (.op cR 3 AN (.n s)),.i (.op cS 3 (.r 3) (.n 0)),.i (.jz (.r 3) (p+7:Nat)),.i (.CR 2),.i (.op KG 0 AN (.n f))]
def GY (p:Nat) (f s:Int) (a:At):List LI:=DL Ac a 0++Vp (p+(DL Ac a 0).length) f s (GS.BD a 0)
def TW (p:Nat):List LI:=[.i (.load 1 (.r 0) (Ac+8)),.i (.jz (.r 1) (p+4:Nat)),.i (.load 1 (.r 0) (Ac+14)),.i (.GF (p+18:Nat)),.i (.load 2 (.r 0) 8)]++KD Ac 2++
 [.i (.load 1 (.r 0) 0),.i (.load 3 (.r 0) 8),.i (.op cS 3 (.r 3) (.r 2)),.f 3,.i (.store (.r 0) (Ac+20) (.n 1))]
def MP (c p:Nat):List LI:=[.i (.load 1 (.n (Ac+(8+c))) 0),.i (.jz (.r 1) (p+16:Nat)),.i (.load 2 (.n (8+c)) 0)]++KD Ac 2++
 [.i (.op nOr 3 (.r 2) (.n 1)),.i (.KL 3 (.n (8+c)) 0 (.r 2) (.r 3)),.f 3,.i (.store (.n (Ac+(26+c))) 0 (.n 1)),.i (.store (.n (Ac+(32+c))) 0 (.r 2))]
def O7 (c p:Nat):List LI:=[.i (.load 1 (.n (Ac+(20+c))) 0),.i (.jz (.r 1) (p+14:Nat)),.i (.load 1 (.n (Ac+(26+c))) 0),.i (.jz (.r 1) (p+5:Nat)),.i (.GF (p+14:Nat)),.i (.load 2 (.n (8+c)) 0)]++KD Ac 2
def YL (c p:Nat):List LI:=[.i (.load 1 (.n (Ac+(8+c))) 0),.i (.jz (.r 1) (p+4:Nat)),.i (.load 2 (.n (Ac+(14+c))) 0),.i (.store (.n c) 0 (.r 2))]
def Rw (c p:Nat):List LI:=[.i (.load 1 (.n (Ac+(8+c))) 0),.i (.jz (.r 1) (p+3:Nat)),.i (.store (.n (8+c)) 0 (.r 5))]
def Pd (c p:Nat):List LI:=[.i (.load 1 (.n (Ac+(26+c))) 0),.i (.jz (.r 1) (p+4:Nat)),.i (.load 2 (.n (Ac+(32+c))) 0),.i (.store (.n (8+c)) 0 (.r 2))]
def P8 (c:Nat) (_:Nat):List LI:=[.i (.load 1 (.n (Ac+(4+c))) 0),.i (.store (.n (Ac+c)) 0 (.r 1))]
def O5 (c:Nat) (_:Nat):List LI:=[.i (.load 1 (.n (Ac+c)) 0),.i (.store (.n (Ac+(4+c))) 0 (.r 1))]
def KY (c:Nat) (_:Nat):List LI:=[.i (.store (.n (Ac+(8+c))) 0 (.n 0)),.i (.store (.n (Ac+(20+c))) 0 (.n 0)),.i (.store (.n (Ac+(26+c))) 0 (.n 0))]
def LM (p:Nat):List LI:=[.i (.Y4 1 (.n 0)),.i (.load 2 (.n (Ac+39)) 0),.i (.op cR 2 (.r 1) (.r 2)),.i (.jz (.r 2) (p+8:Nat)),.i (.load 2 (.r 1) (Ac+40)),.i (.out (.r 2)),.i (.op KG 1 (.r 1) (.n 1)),.i (.GF (p+1:Nat))]
def Fj (f:Nat->Nat->List LI):Nat->Nat->List LI
 |0,_=>[]
 |n+1,p=>Fj f n p++f n (p+(Fj f n p).length)
def bz:List LI:=[.i (.Em 5 (.n 16) 0 (.n 1)),.i (.op KG 5 (.r 5) (.n 1)),.i (.op US 5 (.r 5) (.n 1))]
def FO (n p:Nat):List LI:=
 let l1:=Fj (MP Ac) n p++bz
 let l2:=l1++Fj (O7 Ac) n (p+J l1)
 let l3:=l2++Fj (YL Ac) n (p+J l2)
 l3++Fj (Rw Ac) n (p+J l3)
def aM (v:Int) (op:ByteArray) (a b:At):List LI:=
 if op.size=0 then DL Ac a 1++[.i (.store (.n (Ac+v)) 0 (GS.BD a 1))]
 else DL Ac a 1++DL Ac b 2++[.i (.op op 1 (GS.BD a 1) (GS.BD b 2)),.i (.store (.n (Ac+v)) 0 (.r 1))]
def kr (Ao:Bool) (a:At):List LI:=
 DL Ac a 1++(if Ao then [.i (.load 2 (.n (Ac+39)) 0),.i (.store (.r 2) (Ac+40) (GS.BD a 1)),.i (.op KG 2 (.r 2) (.n 1)),.i (.store (.n (Ac+39)) 0 (.r 2))] else [.i (.out (GS.BD a 1))])
def KW (n:Nat) (p:Nat):List LI:=Fj (KY Ac) n p++[.i (.store (.n (Ac+39)) 0 (.n 0)),.i (.load 1 (.n 16) 0),.i (.store (.n (Ac+38)) 0 (.r 1))]
def RD (n:Nat) (BX:Bool) (p:Nat):List LI:=(if BX then FO Ac n p else [])++LM Ac (p+(if BX then FO Ac n p else []).length)
def Fq (n C5 p:Nat):List LI:=Fj (Pd Ac) n p++Fj (P8 Ac) 4 (p+(Fj (Pd Ac) n p).length)++[.i (.GF C5)]
def Gu (n:Nat):Bool->Nat->Nat->Bj->List LI
 |_,_,_,.nil=>[]
 |Ao,Af,p,.set v op a b r=>aM Ac v op a b++Gu n Ao Af (p+(aM Ac v op a b).length) r
 |Ao,Af,p,.get v f s a r=>
  let c:=GY Ac p f s a
  let c:=c++TW Ac (p+J c)++[.i (.store (.n (Ac+v)) 0 (.r 1))]
  c++Gu n Ao Af (p+J c) r
 |Ao,Af,p,.put f s i a r=>
  let c:=GY Ac p f s i++DL Ac a 1++[.i (.store (.r 0) (Ac+14) (GS.BD a 1)),.i (.store (.r 0) (Ac+8) (.n 1))]
  c++Gu n Ao Af (p+J c) r
 |Ao,Af,p,.out a r=>kr Ac Ao a++Gu n Ao Af (p+(kr Ac Ao a).length) r
 |Ao,Af,p,.Es a b r=>
  let v:=DL Ac a 1
  let B:=Gu n Ao Af (p+J v+1) b
  let c:=v++ .i (.jz (GS.BD a 1) (p+J v+1+J B:Nat))::B
  c++Gu n Ao Af (p+J c) r
 |Ao,Af,p,.loop k b r=>
  let B:=Gu n Ao (Af+1) (p+1) b
  let c:=.i (.store (.n (Ac+(48+Af))) 0 (.n k))::B++[.i (.load 1 (.n (Ac+(48+Af))) 0),.i (.op KF 1 (.r 1) (.n 1)),.i (.store (.n (Ac+(48+Af))) 0 (.r 1)),.i (.jz (.r 1) (p+1+J B+5:Nat)),.i (.GF (p+1:Nat))]
  c++Gu n Ao Af (p+J c) r
 |Ao,Af,p,.atomic b r=>
  let C5:=p+8
  let t:=KW Ac n C5
  let B:=Gu n V Af (C5+J t) b
  let m:=t++B++RD Ac n (BU b) (C5+J t+J B)
  let q:=C5+J m+1
  let k:=Fq Ac n C5 q
  let c:=Fj (O5 Ac) 4 p++(rz q m).map LI.i++ .i (.GF (q+J k:Nat))::k
  c++Gu n Ao Af (p+J c) r
end
def isI:Option LI->Bool
 |some (.i _)=>V
 |_=>I
namespace GS
theorem BP (g:GS) (l:List LI) (n:Nat) (a:Option Ag) (h:isI l[n]?=V):(g.ext l).Ba ⟨J g.Ab+n,a⟩=g.ext (l.set n (.i (CL a (J g.Ab+J l:Nat)))):=by
 cases hl:l[n]? with
 |none=>rw[hl] at h;cases h
 |some x=>
  cases x with
  |i x=>grind [AcU]
  |f r=>rw[hl] at h;cases h
theorem M0 (g:GS) (l:Ii):(g.Ba l).Ab.length=J g.Ab:=by cases l;rw[Vi];simp
theorem KH (g:GS) (l:Ii):(g.Ba l).Ac=g.Ac:=rfl
theorem Iq (g:GS) (r:Int):g.KC r=g.ext (KD g.Ac r):=by
 simp only[KC,IB,lo,Cy,Gr,Bb,Bn,Jx,JF,KD]
theorem Ny (g:GS) (a:At) (r:Int):g.Co a r=g.ext (DL g.Ac a r):=by
 grind [Co,DL,lo,Cy,gr]
theorem dZ (g:GS) (f s:Int) (a:At):g.EN f s a=g.ext (GY g.Ac (J g.Ab) f s a):=by
 unfold EN GY;simp only[Ny];rw[<-Bb,<-Bl];generalize g.ext (DL g.Ac a 0)=g;generalize BD a 0=x;exact mad
theorem AcF (g:GS):g.SL=g.ext (TW g.Ac (J g.Ab)):=by
 unfold SL;exact mad
theorem wM (g:GS) (c:Nat):P5 c g=g.ext (MP g.Ac c (J g.Ab)):=by
 unfold P5 NC Uv;exact mad
theorem wJ (g:GS) (c:Nat):P4 c g=g.ext (O7 g.Ac c (J g.Ab)):=by
 unfold P4 NC Uv;exact mad
theorem AaX (g:GS) (c:Nat):YM c g=g.ext (YL g.Ac c (J g.Ab)):=by
 unfold YM NC Uv;exact mad
theorem xL (g:GS) (c:Nat):Rx c g=g.ext (Rw g.Ac c (J g.Ab)):=by
 unfold Rx NC Uv;exact mad
theorem yg (g:GS) (c:Nat):Pe c g=g.ext (Pd g.Ac c (J g.Ab)):=by
 unfold Pe;exact mad
theorem wX (g:GS) (c:Nat):O8 c g=g.ext (P8 g.Ac c (J g.Ab)):=by
 grind [O8,P8,lo,st,Cy,Bb,Bn]
theorem vi (g:GS) (c:Nat):O6 c g=g.ext (O5 g.Ac c (J g.Ab)):=by
 grind [O6,O5,lo,st,Cy,Bb,Bn]
theorem rB (g:GS) (c:Nat):Kj c g=g.ext (KY g.Ac c (J g.Ab)):=by
 unfold Kj KY st<;>grind [Cy,Bb,Bn]
theorem zT (g:GS):g.Gf=g.ext (LM g.Ac (J g.Ab)):=by
 unfold Gf;exact mad
theorem MF (f:Nat->GS->GS) (fl:Int->Nat->Nat->List LI) (h:∀c g,f c g=g.ext (fl g.Ac c (J g.Ab))) (n:Nat) (g:GS):Oo f n g=g.ext (Fj (fl g.Ac) n (J g.Ab)):=by
 induction n<;>grind [Oo,Fj,gr,Bn,Bl,Bb]
theorem rm (g:GS):g.Ei=g.ext (FO g.Ac g.cells.toNat (J g.Ab)):=by
 unfold Ei FO;simp only[MF P5 MP λc g=>wM g c,IB,Cy,Bb,MF P4 O7 λc g=>wJ g c,MF YM YL λc g=>AaX g c,MF Rx Rw λc g=>xL g c,Bn,Bl,bz,Ji,Jx,JF,GT,Jg,Jw,Jq]
theorem Adl (g:GS) (C5:Nat):g.Gb C5=g.ext (Fq g.Ac g.cells.toNat C5 (J g.Ab)):=by
 unfold Gb Fq;simp only[MF Pe Pd λc g=>yg g c,MF O8 P8 λc g=>wX g c,Cy,Bb,Bn,Bl,Ji]
theorem xt (g:GS) (pre:List GI) (l:List LI) (post:List GI) (B:Nat):∀(done:List LI) (_:g.Ab=pre++(rz B done++rz 0 l)++post) (_:B=J g.Ab),
  ((EE (J pre+J done) l).foldl Ba g).Ab=pre++(rz B done++rz B l)++post:=by
 induction l generalizing g with
 |nil=>grind [EE,rz]
 |cons x l ih=>
  intro done h hB;cases x with
  |i x=>
   simp only[EE];have:=ih g (done++[.i x]) (by rw[h];simp[rz,LI.AN]) hB;exact ma3
  |f r=>
   simp only[EE,Qy];have e:g.Ba ⟨J pre+J done,U (.r r)⟩={g with Ab:=pre++(rz B (done++[.f r])++rz 0 l)++post}:=by
    rw[Vi];grind [List.set_append_right,rz,CM,LI.AN,CL]
   rw[e];have:=ih {g with Ab:=pre++(rz B (done++[.f r])++rz 0 l)++post} (done++[.f r]) rfl (by
     rw[hB,h];simp[rz])
   exact ma3
theorem pK (l:List Ii) (g:GS):(l.foldl Ba g).Ac=g.Ac/\(l.foldl Ba g).cells=g.cells/\(l.foldl Ba g).block=g.block/\(l.foldl Ba g).Af=g.Af:=by
 induction l generalizing g with
 |nil=>grind
 |cons a r ih=>rw[Qy];exact ih _
end GS
def SP:Bj->Bool->Prop
 |.nil,_=>True
 |.set _ _ _ _ r,i=>SP r i
 |.get _ _ _ _ r,i=>SP r i
 |.put _ _ _ _ r,i=>SP r i
 |.out _ r,i=>SP r i
 |.atomic b r,i=>i=I/\SP b V/\SP r i
 |.Es _ b r,i=>SP b i/\SP r i
 |.loop _ b r,i=>SP b i/\SP r i
structure Sm (Ao:Bool) (a b:GS):Prop where
 Ab:a.Ab=b.Ab
 Ac:a.Ac=b.Ac
 cells:a.cells=b.cells
 block:a.block=b.block
 Af:a.Af=b.Af
 BM:Ao=V->a.BM=b.BM
theorem Sm.refl (Ao:Bool) (a:GS):Sm Ao a a:=⟨rfl,rfl,rfl,rfl,rfl,AC⟩
theorem Sm.trans {c:GS} (h:Sm Ao a b) (k:Sm Ao b c):Sm Ao a c:=
 ⟨h.1.trans k.1,h.2.trans k.2,h.3.trans k.3,h.4.trans k.4,h.5.trans k.5,λe=>(h.6 e).trans (k.6 e)⟩
theorem Sm.ext (h:Sm Ao a b) (l:List LI):Sm Ao (a.ext l) (b.ext l):=
 ⟨by simp[GS.ext,h.Ab],h.Ac,h.cells,h.block,h.Af,λe=>by grind [GS.ext,Sm]⟩
theorem Sm.Ba (h:Sm Ao a b) (l:Ii):Sm Ao (a.Ba l) (b.Ba l):=by
 cases l<;>grind [GS.Vi,Sm]
theorem Sm.of_eq (h:a=b):Sm Ao a b:=h▸Sm.refl Ao a
theorem AeP (v B:List LI) (x:GI):isI (v++ .i x::B)[J v]?=V:=by simp[isI]
theorem Aby (v B:List LI) (x y:LI):(v++x::B).set (J v) y=v++y::B:=EQ
theorem AaC (ab:Int) (l:List GI):rz ab (l.map LI.i)=l:=by
 induction l<;>grind [rz,LI.AN]
theorem AaS (f:Nat->Nat->List LI) (hf:∀c p q,EE q (f c p)=[]) (n:Nat):∀p q,EE q (Fj f n p)=[]:=by
 induction n with
 |zero=>intro p q;rfl
 |succ n ih=>grind [Fj,Si]
theorem zH (Ac:Int) (n p q:Nat):EE q (KW Ac n p)=[]:=by
 unfold KW;rw[Si,AaS _ (λ_ _ _=>rfl)];rfl
theorem AdB (g:GS):g.T7=({g with block:=V,BM:=[]}:GS).ext (KW g.Ac g.cells.toNat (J g.Ab)):=by
 unfold GS.T7;simp only[GS.MF GS.Kj KY λc g=>GS.rB g c,GS.st,GS.Pq,GS.Cy,GS.Bb,GS.Bn];grind [GS.ext,zH,KW]
theorem Aav (g:GS) (v:Int) (op:ByteArray) (a b:At):(if op.size=0 then (g.Co a 1).st v (GS.BD a 1) else ((((g.Co a 1).Co b 2).IB op 1 (GS.BD a 1) (GS.BD b 2)).st v (.r 1)))=g.ext (aM g.Ac v op a b):=by
 grind [aM,GS.Ny,GS.st,GS.Cy,GS.Bb,GS.Bn,GS.IB]
theorem Aa4 (g:GS) (a:At):(if g.block then ((((g.Co a 1).lo 2 39).IW 40 2 (GS.BD a 1)).IB KG 2 (.r 2) (.n 1)).st 39 (.r 2) else (g.Co a 1).AQ (.out (GS.BD a 1)))=g.ext (kr g.Ac g.block a):=by
 grind [kr,GS.Ny,GS.IB,GS.st,GS.lo,GS.IW,GS.Cy,GS.Bb,GS.Bn]
theorem Ac2 (g:GS) (p:Bool):(if p then g.Ei else g).Gf=g.ext (RD g.Ac g.cells.toNat p (J g.Ab)):=by
 grind [RD,GS.rm,GS.zT,GS.Bb,GS.Bn,GS.Bl]
theorem yx (g:GS) (pre:List GI) (m0:List LI) (C5:Nat) (BX:Bool) (hc:g.Ab=pre++rz 0 m0) (ha:g.BM=EE (J pre) m0):
  let m:=m0++RD g.Ac g.cells.toNat BX (J pre+J m0)
  let q:=J pre+J m+1
  let k:=Fq g.Ac g.cells.toNat C5 q
  (g.Pz C5 BX).Ab=pre++rz q m++ .GF (q+J k:Nat)::rz 0 k/\(g.Pz C5 BX).Ac=g.Ac/\(g.Pz C5 BX).cells=g.cells/\(g.Pz C5 BX).block=I/\(g.Pz C5 BX).Af=g.Af:=by
 intro m q k;have e0:(if BX then ({g with block:=I}:GS).Ei else {g with block:=I}).Gf={({g with block:=I}:GS) with Ab:=pre++rz 0 m,BM:=EE (J pre) m}:=by
  rw[Ac2];grind [GS.ext,rz,Si]
 have e1:g.Pz C5 BX=((((EE (J pre) m).foldl GS.Ba ({({g with block:=I}:GS) with Ab:=pre++rz 0 m++[.GF 0],BM:=EE (J pre) m})).Gb C5).Ba ⟨J pre+J m,Z⟩):=by
  grind [GS.Pz,rz,GS.CW,GS.AQ,GS.V5]
 rw[e1];have h1:=GS.xt ({({g with block:=I}:GS) with Ab:=pre++rz 0 m++[.GF 0],BM:=EE (J pre) m}) pre m [.GF 0] q [] (by simp[rz]) (by simp[rz,q];omega);have h2:=GS.pK (EE (J pre) m) ({({g with block:=I}:GS) with Ab:=pre++rz 0 m++[.GF 0],BM:=EE (J pre) m});simp only[Jw,JX] at h1;obtain⟨b1,b2,b3,b4⟩:=h2;generalize (EE (J pre) m).foldl GS.Ba ({({g with block:=I}:GS) with Ab:=pre++rz 0 m++[.GF 0],BM:=EE (J pre) m})=g1 at h1 b1 b2 b3 b4⊢;have hl:J g1.Ab=q:=by rw[h1];simp[rz,q];omega
 rw[GS.Adl,GS.Vi];refine⟨?_,b1,b2,b3,b4⟩;show(g1.ext _).Ab.set _ (GS.CL Z _)=_;rw[GS.Bl];unfold GS.ext;simp only[hl];rw[b1,b2];show(g1.Ab++rz 0 k).set _ (GS.CL Z _)=_;rw[h1];have e3:rz (↑q) []=([]:List GI):=rfl;rw[e3,JF,Ji,Ji,Qd _ _ Y,Nat.add_sub_cancel_left,Qd _ _ (by simp[rz]),CM,QQ];grind [GS.CL]
theorem Ad1 (Ac:Int) (n:Nat) (t:Bj):∀(Ao:Bool) (Af:Nat) (G:GS),SP t Ao->G.block=Ao->G.cells.toNat=n->G.Ac=Ac->G.Af=Af->
  Sm Ao (GS.Dh t G) (G.ext (Gu Ac n Ao Af (J G.Ab) t)):=by
 induction t with
 |nil=>grind [GS.Dh,Gu,GS.gr,Sm.refl]
 |set v op a b r ih=>
  intro Ao Af G hn hb hc Xy hd;have e:=Aav G v op a b;have h:=ih Ao Af (G.ext (aM G.Ac v op a b)) hn hb hc Xy hd;exact mbC
 |get v f s a r ih=>
  intro Ao Af G hn hb hc Xy hd;subst Xy;have e:((G.EN f s a).SL).st v (.r 1)=G.ext (GY G.Ac (J G.Ab) f s a++TW G.Ac (J G.Ab+(GY G.Ac (J G.Ab) f s a).length)++[.i (.store (.n (G.Ac+v)) 0 (.r 1))]):=by
   simp only[GS.dZ,GS.AcF,GS.st,GS.Cy,GS.Bb,GS.Bn,GS.Bl]
  have h:=ih Ao Af _ hn (show(G.ext (GY G.Ac (J G.Ab) f s a++TW G.Ac (J G.Ab+(GY G.Ac (J G.Ab) f s a).length)++[.i (.store (.n (G.Ac+v)) 0 (.r 1))])).block=Ao from hb) hc rfl hd;exact mbC
 |put f s i a r ih=>
  intro Ao Af G hn hb hc Xy hd;subst Xy;have e:(((G.EN f s i).Co a 1).IW 14 0 (GS.BD a 1)).IW 8 0 (.n 1)=G.ext (GY G.Ac (J G.Ab) f s i++DL G.Ac a 1++[.i (.store (.r 0) (G.Ac+14) (GS.BD a 1)),.i (.store (.r 0) (G.Ac+8) (.n 1))]):=by
   grind [GS.dZ,GS.Ny,GS.IW,GS.Cy,GS.Bb,GS.Bn]
  have h:=ih Ao Af _ hn (show(G.ext (GY G.Ac (J G.Ab) f s i++DL G.Ac a 1++[.i (.store (.r 0) (G.Ac+14) (GS.BD a 1)),.i (.store (.r 0) (G.Ac+8) (.n 1))])).block=Ao from hb) hc rfl hd;exact mbC
 |out a r ih=>
  intro Ao Af G hn hb hc Xy hd;subst Xy;subst hb;have e:=Aa4 G a;have h:=ih G.block Af (G.ext (kr G.Ac G.block a)) hn rfl hc rfl hd;exact mbC
 |Es a b r ib ih=>
  intro Ao Af G hn hb hc Xy hd;subst Xy;have e:(G.Co a 1).CG (GS.BD a 1)=G.ext (DL G.Ac a 1++[.i (.jz (GS.BD a 1) 0)]):=by
   simp only[GS.Ny,GS.CG,GS.Cy,GS.Bb]
  have e':(G.Co a 1).EL (GS.BD a 1)=⟨J G.Ab+(DL G.Ac a 1).length,U (GS.BD a 1)⟩:=by
   simp only[GS.Ny,GS.EL,GS.Bl]
  have h:=ib Ao Af (G.ext (DL G.Ac a 1++[.i (.jz (GS.BD a 1) 0)])) hn.1 hb hc rfl hd;rw[GS.Bb,GS.Bl] at h;simp only[GT,Jg,Jw,JH,<-Jq] at h;generalize hB:Gu G.Ac n Ao Af (J G.Ab+(DL G.Ac a 1).length+1) b=B at h;have h2:=h.Ba ⟨J G.Ab+(DL G.Ac a 1).length,U (GS.BD a 1)⟩;rw[Ji,Jx,JF,GS.BP _ _ _ _ (AeP _ _ _),Aby] at h2;have e3:GS.Dh (.Es a b r) G=GS.Dh r ((GS.Dh b (G.ext (DL G.Ac a 1++[.i (.jz (GS.BD a 1) 0)]))).Ba ⟨J G.Ab+(DL G.Ac a 1).length,U (GS.BD a 1)⟩):=by
   rw[<-e,<-e'];rfl
  rw[e3];generalize (GS.Dh b (G.ext (DL G.Ac a 1++[.i (.jz (GS.BD a 1) 0)]))).Ba ⟨J G.Ab+(DL G.Ac a 1).length,U (GS.BD a 1)⟩=g3 at h2;have h3:=ih Ao Af g3 hn.2 (h2.block.trans hb) (by rw[h2.cells];exact hc) h2.Ac (h2.Af.trans hd);refine h3.trans ?_;have h4:=h2.ext (Gu G.Ac n Ao Af (J g3.Ab) r);refine h4.trans (Sm.of_eq ?_);rw[GS.Bb,h2.Ab,GS.Bl];simp only[Gu,hB];congr 1;simp only[GS.CL,GT,Jg,Ji,Jx];rw[show J G.Ab+((DL G.Ac a 1).length+(J B+1))=J G.Ab+(DL G.Ac a 1).length+1+J B by omega]
 |loop k b r ib ih=>
  intro Ao Af G hn hb hc Xy hd;subst Xy;have e:G.st (48+G.Af) (.n k)=G.ext [.i (.store (.n (G.Ac+(48+Af))) 0 (.n k))]:=by grind [GS.st,GS.Cy]
  have h:=ib Ao (Af+1) {(G.ext [.i (.store (.n (G.Ac+(48+Af))) 0 (.n k))]) with Af:=G.Af+1} hn.1 hb hc rfl (by rw[hd];simp);have KX:({(G.ext [.i (.store (.n (G.Ac+(48+Af))) 0 (.n k))]) with Af:=G.Af+1}:GS).Ab.length=J G.Ab+1:=GS.Bl G [.i (.store (.n (G.Ac+(48+Af))) 0 (.n k))];rw[KX] at h;generalize hB:Gu G.Ac n Ao (Af+1) (J G.Ab+1) b=B at h;generalize hg:GS.Dh b {(G.ext [.i (.store (.n (G.Ac+(48+Af))) 0 (.n k))]) with Af:=G.Af+1}=g2 at h;have h1:Sm Ao {g2 with Af:=g2.Af-1} ((G.ext [.i (.store (.n (G.Ac+(48+Af))) 0 (.n k))]).ext B):=
   ⟨h.Ab,h.Ac,h.cells,h.block,by show g2.Af-1=G.Af;rw[h.Af];show G.Af+1-1=G.Af;omega,h.BM⟩
  rw[GS.Bb,Jx,JF] at h1;have e3:GS.Dh (.loop k b r) G=GS.Dh r ((((((({g2 with Af:=g2.Af-1}:GS).lo 1 (48+Af)).IB KF 1 (.r 1) (.n 1)).st (48+Af) (.r 1)).CG (.r 1)).AQ (.GF (J G.Ab+1:Nat))).Ba ((((({g2 with Af:=g2.Af-1}:GS).lo 1 (48+Af)).IB KF 1 (.r 1) (.n 1)).st (48+Af) (.r 1)).EL (.r 1))):=by
   rw[<-hg,<-KX,<-e,<-hd];rfl
  rw[e3];generalize ({g2 with Af:=g2.Af-1}:GS)=g3 at h1;have h2:=(h1.ext [.i (.load 1 (.n (G.Ac+(48+Af))) 0),.i (.op KF 1 (.r 1) (.n 1)),.i (.store (.n (G.Ac+(48+Af))) 0 (.r 1)),.i (.jz (.r 1) 0),.i (.GF (J G.Ab+1:Nat))]).Ba ⟨J G.Ab+(J B+4),U (.r 1)⟩;rw[GS.Bb,GS.BP _ _ _ _ (by
    rw[Jx,Qi,JY Y,show J B+3-J B=3 by omega];rfl)] at h2
  have e4:((((((g3.lo 1 (48+Af)).IB KF 1 (.r 1) (.n 1)).st (48+Af) (.r 1)).CG (.r 1)).AQ (.GF (J G.Ab+1:Nat))).Ba ((((g3.lo 1 (48+Af)).IB KF 1 (.r 1) (.n 1)).st (48+Af) (.r 1)).EL (.r 1)))=
    (g3.ext [.i (.load 1 (.n (G.Ac+(48+Af))) 0),.i (.op KF 1 (.r 1) (.n 1)),.i (.store (.n (G.Ac+(48+Af))) 0 (.r 1)),.i (.jz (.r 1) 0),.i (.GF (J G.Ab+1:Nat))]).Ba ⟨J G.Ab+(J B+4),U (.r 1)⟩:=by
   have gX:J g3.Ab=J G.Ab+(J B+1):=by rw[h1.Ab,GS.Bl,Jg]
   have gY:g3.Ac=G.Ac:=h1.Ac;simp only[GS.lo,GS.IB,GS.st,GS.CG,GS.EL,GS.Cy,GS.Bb,GS.Bn,GS.Bl,gY,gX,Jx,JF,Jg,Jw,Jq]
  rw[e4];generalize (g3.ext [.i (.load 1 (.n (G.Ac+(48+Af))) 0),.i (.op KF 1 (.r 1) (.n 1)),.i (.store (.n (G.Ac+(48+Af))) 0 (.r 1)),.i (.jz (.r 1) 0),.i (.GF (J G.Ab+1:Nat))]).Ba ⟨J G.Ab+(J B+4),U (.r 1)⟩=g4 at h2;have h5:=ih Ao Af g4 hn.2 (h2.block.trans hb) (by rw[h2.cells];exact hc) h2.Ac (h2.Af.trans hd);refine h5.trans ?_;refine(h2.ext (Gu G.Ac n Ao Af (J g4.Ab) r)).trans (Sm.of_eq ?_);rw[GS.Bb,h2.Ab,GS.Bl];simp only[Gu,hB];congr 1;rw[Jx,QI,Qd _ _ Y,show J B+3-J B=3 by omega];simp only[GS.CL,QI,QY,GT,Jg,Jw,Ji,Jx,JF];rw[show J G.Ab+(J B+(0+1+1+1+1+1)+1)=J G.Ab+1+J B+5 by omega]
 |atomic b r ib ih=>
  intro Ao Af G hn hb hc Xy hd;subst Xy;obtain⟨Fb,Pr,hnr⟩:=hn;have s1:G.BT=G.ext (Fj (O5 G.Ac) 4 (J G.Ab)):=by
   unfold GS.BT;exact GS.MF GS.O6 O5 (λc g=>GS.vi g c) 4 G
  have l1:J G.BT.Ab=J G.Ab+8:=by rw[s1,GS.Bl];rfl
  have s2:=AdB G.BT;have Is:G.BT.Ac=G.Ac:=by rw[s1];rfl
  have ay:G.BT.cells=G.cells:=by rw[s1];rfl
  have du:G.BT.Af=G.Af:=by rw[s1];rfl
  have et:KW G.BT.Ac G.BT.cells.toNat (J G.BT.Ab)=KW G.Ac n (J G.Ab+8):=by rw[Is,ay,l1,hc]
  rw[et] at s2;generalize ht:KW G.Ac n (J G.Ab+8)=tl at s2;have h:=ib V Af G.BT.T7 Pr (by rw[s2];rfl) (by rw[s2];show G.BT.cells.toNat=n;rw[ay,hc]) (by rw[s2];exact Is) (by rw[s2];exact du.trans hd);have l2:J G.BT.T7.Ab=J G.Ab+8+J tl:=by rw[s2,GS.Bl];show J G.BT.Ab+_=_;rw[l1]
  rw[l2] at h;generalize hB:Gu G.Ac n V Af (J G.Ab+8+J tl) b=B at h;rw[s2,GS.Bb] at h;have e3:GS.Dh (.atomic b r) G=GS.Dh r ((GS.Dh b (({G.BT with block:=V,BM:=[]}:GS).ext tl)).Pz (J G.BT.Ab) (BU b)):=by rw[<-s2];rfl
  rw[e3,l1];generalize GS.Dh b (({G.BT with block:=V,BM:=[]}:GS).ext tl)=g2 at h;have tJ:g2.Ac=G.Ac:=h.Ac.trans Is;have Aii:g2.cells=G.cells:=h.cells.trans ay;have key:=yx g2 G.BT.Ab (tl++B) (J G.Ab+8) (BU b) h.Ab (by rw[h.BM rfl];simp[GS.ext]);rw[tJ,Aii,hc,l1] at key;simp only[GT] at key;obtain⟨k1,k2,k3,k4,k5⟩:=key;have Rk:Sm Ao (g2.Pz (J G.Ab+8) (BU b)) (G.ext (Gu G.Ac n Ao Af (J G.Ab) (.atomic b .nil))):=by
   refine⟨?_,k2,k3,?_,k5.trans (h.Af.trans du),AC⟩
   .rw[k1];have:=JM GS.Ab s1;rw[this];simp only[GS.ext,Gu,ht,hB,Jo,CC,AaC,Ji,GT];have ez:∀(x:GI) (l:List LI),rz 0 (.i x::l)=x::rz 0 l:=λ_ _=>rfl
    grind
   .rw[k4];show I=G.block;rw[hb,Fb]
  generalize g2.Pz (J G.Ab+8) (BU b)=g4 at Rk;have h5:=ih Ao Af g4 hnr (Rk.block.trans hb) (by rw[Rk.cells];exact hc) Rk.Ac (Rk.Af.trans hd);refine h5.trans ((Rk.ext _).trans (Sm.of_eq ?_));rw[GS.Bb,Rk.Ab,GS.Bl];grind [Gu]
theorem ZT (cells:Int) (k:Nat) (t:Bj) (h:SP t I):Ga cells k t=rz 0 (Gu (32+64*k) cells.toNat I 0 0 t)++[.halt]:=by
 have:=Ad1 (32+64*k) cells.toNat t I 0 (.start k cells) h rfl rfl rfl rfl;unfold Ga;show(GS.Dh t (GS.start k cells)).Ab++[GI.halt]=_;rw[this.Ab];simp[GS.ext,GS.start]
def CE (cells:Int) (ts:List Bj) (k:Nat):List (List GI):=(List.range k).map λi=>Ga cells i (ts.getD i .nil)
theorem gy (cells:Int) (ts:List Bj) (k:Nat):CE cells ts (k+1)=CE cells ts k++[Ga cells k (ts.getD k .nil)]:=by
 simp[CE,j5]
theorem KJ (cells:Int) (ts:List Bj) (k:Nat):(CE cells ts k).length=k:=by simp[CE]
