/-
  Part 8 of the proof.
-/
import Derived.Test.YtpdfifdlhpmofaaGreatDoorZ04
set_option linter.unusedVariables false
set_option linter.unusedSimpArgs false
set_option maxHeartbeats 3200000
set_option maxRecDepth 100000
namespace Go.Proofs.YtpdfifdlhpmofaaGreatDoor
open Go.RowKit Tryz
open Go.Lib (hid)
theorem maV {p:Prop} (h:p:=by
 go_wp2_with (go_at_call 93;refine(wT _).mono ?_;rintro e w' ⟨rfl,rfl⟩)
 go_meet
 exact⟨_,_,rfl,HZ,((jR).Em (Qbf (Qa1 _)) _).alloc _,((lT).set 8 _).alloc _,((Ik).setCell (.inr (Qan _)) _).alloc _⟩):p:=h
variable {w:World} {b:Nat} {T:TypeId}
def Ax (c:UInt8):By->List By
 | []=>[[]]
 | x::r=>if x=c then []::Ax c r else match Ax c r with
  | []=>[[x]]
  | p::ps=>(x::p)::ps
theorem Cb (c:UInt8) (s:By):Ax c s≠[]:=by
 cases s with
 | nil=>simp[Ax]
 | cons x r=>
  unfold Ax;split
  ·simp
  ·split <;>simp
def PJ (a:By):List By->List By
 | []=>[a]
 | p::ps=>(a++p)::ps
theorem Mc (s:List By) (h:s≠[]):PJ [] s=s:=by cases s with | nil=>exact UV rfl h | cons p ps=>rfl
theorem Vi (c:UInt8) (a r:By):PJ a (Ax c (c::r))=a::Ax c r:=by
 simp[Ax,PJ]
theorem Hy (c x:UInt8) (r:By) (h:¬x=c):Ax c (x::r)=PJ [x] (Ax c r):=by
 simp only[Ax,I h];generalize Ax c r=q;cases q <;>rfl
theorem kX (c x:UInt8) (a r:By) (h:¬x=c):PJ a (Ax c (x::r))=PJ (a++[x]) (Ax c r):=by
 rw[Hy c x r h];have:=Cb c r;generalize Ax c r=q at*;cases q with
 | nil=>exact UV rfl this
 | cons p ps=>simp[PJ]
theorem tT:(prog.info? 9).map (fun i=>(i.zero,i.size,i.bytes))=some (some (.string ByteArray.empty),1,16):=Fd
theorem ft (s:ByteArray) (k:Nat) (h:k < s.size):bs (s.extract k (k+1))=[s[k]]:=by
 show(s.extract k (k+1)).data.toList=_;rw[Lib.extract_data];show((bs s).drop k).take _=_;rw[Qa6 (by rw[Bw];exact h),show k+1 - k=0+1 by omega,List.take_succ_cons,List.take_zero];rfl
theorem pr (a b:ByteArray):bs (a++b)=bs a++bs b:=by
 show(a++b).data.toList=_;rw[ByteArray.data_append,Array.toList_append]
def Agg (c:UInt8) (s:ByteArray) (w:World) (e:Ending) (w':World):Prop:=
 ∃v l,e= .returned v/\Av [] w w'/\w'.ownsRow w.heap.size 9 1 v l.length (A3 l)/\l.map bs=Ax c (bs s)
theorem Sa (s:ByteArray) (c:UInt8) (w:World) (hs:s.size<=1000000):
  Calls prog 35 #[.string s,.int .u8 c.toNat] w (Agg c s w):=by
 obtain⟨i0,hi,KW,Fo,K7⟩:=info_parts tT;go_enter func35,ntmps35;go_wp2;go_loopw [5,6] (fun v i wr=>∃(k:Nat) (l:List ByteArray) (cur:ByteArray),k<=s.size/\cur.size<=k/\i= i5 k/\l.length<=k/\wr.ownsRow w.heap.size 9 1 v (l.length+1) (A3 (l++[cur]))/\Av [] w wr/\
     Ax c (bs s)=l.map bs++PJ (bs cur) (Ax c ((bs s).drop k))) (fun _ i _=>s.size - (intOf i).toNat)
 case atStart=>
  refine⟨0,[],⟨#[]⟩,d6 _,d6 _,rfl,LE _,?_,(Av.refl _ _).alloc _,?_⟩
  ·exact⟨rfl,.inr ⟨w.heap.size,1,#[.string ⟨#[]⟩],rfl,LE _,BM.new w _ _,LE _,by unfold maxLen;omega,rfl,rfl⟩⟩
  ·exact(Mc _ (Cb _ _)).symm
 case round=>
  obtain⟨k,l,cur,hk,xn,rfl,hl,Ct,LB,xh⟩:=hrel;obtain⟨g,cap,rfl,hg1,zh,hg3,hg4,hc,hf⟩:=AG Ct Y;have Aao:=hid Ct;have cj:=hid LB;clear Ct LB;by_cases AX:k < s.size
  ·have OE:(bs s).drop k=s[k]::(bs s).drop (k+1):=Qa6 (by rw[Bw];exact AX);rw[OE] at xh;by_cases he:s[k]=c
   ·have hb:(((s[k]).toNat:Int)==(c.toNat:Int))=true:=by rw[he];simp
    rw[he,Vi] at xh;have Hsp:=hid xh;clear xh he OE hc hf;go_wp2_with (at_builtin;go_loud (refine wpList_append_lies _ rfl _ _ _ rfl w.heap.size 9 i0 _ 1 16 underlying90 hi KW Fo K7 rfl Y _ (l.length+1) (A3 (l++[cur])) rfl (D7 Aao _) ⟨wr.heap.size,0,none⟩ 1 1 [.string ⟨#[]⟩] rfl rfl (Qb5 (BM.new wr #[.string ⟨#[]⟩] 9)) (by simp[Value.oneCell']) Y (by unfold maxLen;omega) Y ?_ _ rfl ?_))
    ·have:=cj.size;simp;omega
    ·intro g' cap' w1 uB EC FA _;have AaL:Av [] w w1:=(cj.alloc _).grown EC fun j hj=>by cases hj;exact .inr hg1
     have AeC:=hid uB;have AeD:=hid AaL;clear uB EC FA AaL;go_wp2;go_roundw;case rel=>
      refine⟨k+1,l++[cur],⟨#[]⟩,Y,d6 _,by go_num,by simp;omega,?_,AeD,?_⟩
      ·have:=AeC.out;simpa[A3] using this
      ·rw[Hsp.out,Qaz,PP];show _=_++([bs cur]++PJ [] _);rw[Mc _ (Cb _ _)];rfl
     case measure=>simp[intOf];omega
   ·have hb:(((s[k]).toNat:Int)==(c.toNat:Int))=false:=by
     rw[NE];intro h;exact he (UInt8.toNat_inj.1 Y)
    rw[kX c _ _ _ he,<-ft s k AX,<-pr] at xh;have Hsp:=hid xh;have Lm:wr.cell? ⟨g,l.length,none⟩=some (.string cur):=by
     rw[hc l.length (by simp[A3])];simp[A3]
    have NI:=hf l.length;have hL0:(0:Int)<=(l.length:Int):=Qa2 _;have hL1:(l.length:Int) < ((l.length:Int)+1):=Y
    have Ug:(s.extract k (k+1)).size=1:=by rw[<-Bw,ft s k AX];rfl
    have Adx:cur.size+(s.extract k (k+1)).size<=9223372036854775807:=Y
    have AfI:=fun (w:World)=>run_string_add_sum (P:=prog) (w:=w) cur (s.extract k (k+1)) Adx
    have XG:=hid Ug;have kJ:IntKind.i64.wrap ((k:Int)+1)=(k:Int)+1:=IntWalk.i64_in _ Y;have PG:(0:Int)<=(k:Int)+1:=Y
    have Iu:(k:Int)+1<=(s.size:Int):=Y
    have Sr:((k:Int)+1).toNat=k+1:=Y
    clear xh he OE hc hf Adx Ug;go_wp2
    go_region
    all_goals clear kJ Sr AfI
    all_goals go_wp2
    go_roundw;case rel=>
     refine⟨k+1,l,cur++s.extract k (k+1),Y,?_,by go_num,Y,?_,(cj.setCell (.inr hg1) _).drew,Hsp⟩
     ·rw[ByteArray.size_append,XG.out];omega
     ·have:=J9 (TY Aao l.length (by simp[A3]) (.string (cur++s.extract k (k+1))));simpa[A3] using this
    case measure=>simp[intOf];omega
  ·rw[Qbc (by rw[Bw];omega)] at xh;have Hsp:=hid xh;clear xh hc hf;go_wp2;go_ret;refine⟨_,l++[cur],rfl,cj,?_,?_⟩
   ·have:=Aao.out;simpa[A3] using this
   ·rw[Hsp.out,Qaz];simp[Ax,PJ]
def LX (l:By):Option Nat:=
 if l.length=2/\(l.getD 0 0).toNat=114/\48<=(l.getD 1 0).toNat/\(l.getD 1 0).toNat<=55 then some ((l.getD 1 0).toNat - 48) else none
def Qo (l:By):Value:= .tuple #[i5 ((LX l).getD 0:Nat),.bool (LX l).isSome]
theorem TU {l:By} (h:¬(l.length=2/\(l.getD 0 0).toNat=114/\48<=(l.getD 1 0).toNat/\(l.getD 1 0).toNat<=55)):Qo l= .tuple #[i5 0,.bool false]:=by
 unfold Qo LX;rw[I h];rfl
theorem de {l:By} (h:l.length=2/\(l.getD 0 0).toNat=114/\48<=(l.getD 1 0).toNat/\(l.getD 1 0).toNat<=55):Qo l= .tuple #[i5 (((l.getD 1 0).toNat - 48:Nat):Int),.bool true]:=by
 unfold Qo LX;rw[In h];rfl
theorem lE (s:ByteArray) (k:Nat) (h:k < s.size):(bs s).getD k 0=s[k]:=by
 rw[GE,Id (by rw[Bw];exact h)];rfl
theorem Ro (s:ByteArray) (w:World):
  Calls prog 93 #[.string s] w fun e w'=>e= .returned (Qo (bs s))/\w'=w:=by
 by_cases h2:s.size=2
 ·have hq:((s.size:Int) !=2)=false:=by rw[h2];rfl
  have h0:0 < s.size:=Y
  have h3:1 < s.size:=Y
  have hn:=fun h=> @TU (bs s) h
  have hp:=fun h=> @de (bs s) h
  rw[Bw,lE s 0 h0,lE s 1 h3] at hn hp;have Hn:=hid hn;have Hp:=hid hp;have H2:=hid h2;clear hn hp h2;go_enter func93,ntmps93;go_wp2;all_goals go_ret2
  all_goals refine⟨MU ?_,rfl⟩
  all_goals first
   | (rw[Hn.out Y];rfl)
   | (rw[Hp.out (by have:=H2.out;omega)];exact AeU (int_eq Y) rfl)
 ·have hq:((s.size:Int) !=2)=true:=by rw[bne_iff_ne];omega
  have Hn:=hid (@TU (bs s) (by rw[Bw];exact fun h=>h2 h.1));clear h2;go_enter func93,ntmps93;go_wp2;go_ret2;exact⟨MU Hn.symm,rfl⟩
structure OV where
 B0:Bool
 v:Int
def OV.val (a:OV):Value:= .agg #[.bool a.B0,i5 a.v]
def LM (l:By):Option OV:=match LX l with
 | some r=>some ⟨true,r⟩
 | none=>match number l with
  | some v=>some ⟨false,v⟩
  | none=>none
def OV.zero:OV:=⟨false,0⟩
def AcE (l:By) (w:World) (e:Ending) (w':World):Prop:=e= .returned (.tuple #[((LM l).getD .zero).val,.bool (LM l).isSome])/\Av [] w w'
theorem xE (s:ByteArray) (w:World) (hs:s.size<=maxLen):
  Calls prog 92 #[.string s] w (AcE (bs s) w):=by
 have h1:=fun w=>Ro s w
 have h2:=fun w=>KD s w hs
 unfold Qo at h1;unfold Lz at h2;unfold AcE LM;generalize LX (bs s)=r at*;generalize number (bs s)=n at*;have H1:=hid h1;have H2:=hid h2;clear h1 h2;cases r with
 | some k=>
  go_enter func92,ntmps92;go_wp2_with (first | (go_at_call 93;refine(H1 _).mono ?_;rintro e w' ⟨rfl,rfl⟩) | (go_at_call 86;refine(H2 _).mono ?_;rintro e w' ⟨rfl,rfl⟩));exact bodyPost_ret (v:= .tuple #[.agg #[.bool true,i5 k],.bool true]) (by simp[results,results92,go_sem]) rfl ⟨rfl,(Av.refl _ _).alloc _⟩
 | none=>
  rcases n with _ | v
  ·skip
   go_enter func92,ntmps92;go_wp2_with (first | (go_at_call 93;refine(H1 _).mono ?_;rintro e w' ⟨rfl,rfl⟩) | (go_at_call 86;refine(H2 _).mono ?_;rintro e w' ⟨rfl,rfl⟩));exact bodyPost_ret (v:= .tuple #[.agg #[.bool false,i5 0],.bool false]) (by simp[results,results92,go_sem]) rfl ⟨rfl,(Av.refl _ _).alloc _⟩
  ·go_enter func92,ntmps92;go_wp2_with (first | (go_at_call 93;refine(H1 _).mono ?_;rintro e w' ⟨rfl,rfl⟩) | (go_at_call 86;refine(H2 _).mono ?_;rintro e w' ⟨rfl,rfl⟩));exact bodyPost_ret (v:= .tuple #[.agg #[.bool false,i5 v],.bool true]) (by simp[results,results92,go_sem]) rfl ⟨rfl,(Av.refl _ _).alloc _⟩
def XT:List ByteArray:=[⟨#[109,111,118]⟩,⟨#[108,111,97,100]⟩,⟨#[115,116,111,114,101]⟩,⟨#[99,97,115]⟩,⟨#[120,97,100,100]⟩,⟨#[102,101,110,99,101]⟩,⟨#[111,117,116]⟩,⟨#[106,109,112]⟩,⟨#[106,122]⟩,⟨#[116,114,97,112]⟩,⟨#[104,97,108,116]⟩]
def OI:List ByteArray:=[⟨#[100,97]⟩,⟨#[100,97,107]⟩,⟨#[97,107,98]⟩,⟨#[100,97,107,98,99]⟩,⟨#[100,97,107,98]⟩,⟨#[]⟩,⟨#[97]⟩,⟨#[116]⟩,⟨#[97,116]⟩,⟨#[110]⟩,⟨#[]⟩]
def GH (x:ByteArray):ByteArray:=
 if 0<=A6 Cj x then ⟨#[100,97,98]⟩ else if A6 XT x < 0 then ⟨#[63]⟩ else wd OI (A6 XT x).toNat
def AaZ (x:ByteArray) (w:World) (e:Ending) (w':World):Prop:=e= .returned (.string (GH x))/\Av [] w w'
theorem mV (l:List ByteArray) (x:ByteArray) (k:Nat):DZ l x k= -1\/((k:Int)<=DZ l x k/\DZ l x k < k+l.length):=by
 induction l generalizing k with
 | nil=>exact .inl rfl
 | cons a r ih=>
  unfold DZ;split
  ·exact .inr ⟨Y,by simp only[IR];omega⟩
  ·rcases ih (k+1) with h | ⟨h1,h2⟩
   ·exact .inl h
   ·exact .inr ⟨Y,by simp only[IR];omega⟩
theorem Of (l:List ByteArray) (x:ByteArray):A6 l x= -1\/(0<=A6 l x/\A6 l x < l.length):=by
 rcases mV l x 0 with h | ⟨h1,h2⟩
 ·exact .inl h
 ·exact .inr ⟨h1,by unfold A6;omega⟩
theorem vo (x:ByteArray) (w:World):Calls prog 91 #[.string x] w (AaZ x w):=by
 have hP:=Of Cj x;have hQ:=Of XT x;have hF:GH x=if 0<=A6 Cj x then ⟨#[100,97,98]⟩ else if A6 XT x < 0 then ⟨#[63]⟩ else wd OI (A6 XT x).toNat:=rfl
 go_enter func91,ntmps91;go_wp2_with fail;refine(Ym _).mono ?_;rintro e w1 ⟨v1,rfl,CS,Lk⟩;have HP:=hid (Gm Cj x v1 w1 _ Lk);have HM:=hid CS;clear Lk CS;generalize A6 Cj x=p at*;generalize hq:A6 XT x=q at*;have HF:=hid hF;have HhQ:=hid hQ;have Hq:=hid hq;clear hP hQ hF hq;go_wp2_with fail;refine HP.mono ?_;rintro e w2 ⟨rfl,rfl⟩;by_cases hp:0<=p
 ·go_wp2;go_ret;refine⟨MU ?_,HM⟩;rw[HF.out,In hp];rfl
 ·have hpn:p < 0:=Y
  go_wp2_with fail;refine(Gm XT x _ _ (fun _=>True) ((Sl.new (w:=w2) (A3 XT) 9 11 rfl Y _ trivial).Bf ((Av.refl [] _).alloc _) EQ)).mono ?_;rintro e w3 ⟨rfl,rfl⟩;rw[Hq.out];by_cases hq:q < 0
  ·go_wp2;go_ret;refine⟨MU ?_,(HM.alloc _).alloc _⟩;rw[HF.out,I (Int.not_le.2 hpn),In hq];rfl
  ·obtain⟨n,rfl⟩:∃n:Nat,q=n:=⟨q.toNat,Y⟩;have hn:n < 11:=by
    rcases HhQ.out with h | ⟨h1,h2⟩
    ·omega
    ·have:(XT.length:Int)=11:=rfl;omega
   have HF':=hid (show GH x=wd OI n by rw[HF.out,I (Int.not_le.2 hpn),I hq];simp);have hW:(A3 OI)[n]'hn= .string (wd OI n):=by
    simp only[A3,List.getElem_map];simp[wd,Id (show n < OI.length from hn)]
   have HW:=hid hW;clear hq hpn hW;go_wp2;go_ret;refine⟨MU ?_,(HM.alloc _).alloc _⟩;rw[HF'.out];exact HW.out
structure Bj where
 Lv:ByteArray
 d:Int
 a:OV
 b:OV
 c:OV
 k:Int
def Bj.cells (i:Bj):Array Value:= #[.string i.Lv,i5 i.d,.bool i.a.B0,i5 i.a.v,.bool i.b.B0,i5 i.b.v,.bool i.c.B0,i5 i.c.v,i5 i.k]
def Bj.val (i:Bj):Value:= .agg i.cells
def Bj.of (x:ByteArray):Bj:=⟨x,0,.zero,.zero,.zero,0⟩
def Gs (f:UInt8) (x:By) (i:Bj):Bj×Bool:=
 if f.toNat=100 then ({i with d:=((LX x).getD 0:Nat)},(LX x).isSome)
 else if f.toNat=97 then ({i with a:=(LM x).getD .zero},(LM x).isSome)
 else if f.toNat=98 then ({i with b:=(LM x).getD .zero},(LM x).isSome)
 else if f.toNat=99 then ({i with c:=(LM x).getD .zero},(LM x).isSome)
 else if f.toNat=107 then ({i with k:=(number x).getD 0},(number x).isSome)
 else if f.toNat=116 then ({i with k:=(number x).getD 0},(number x).isSome && decide (0<=(number x).getD 0) && decide ((number x).getD 0<=4000))
 else if f.toNat=110 then ({i with k:=(number x).getD 0},(number x).isSome && decide (1<=(number x).getD 0) && decide ((number x).getD 0<=9))
 else (i,(LM x).isSome)
def PZ:By->List ByteArray->Bj->Option Bj
 | [],_,i=>some i
 | f::fs,l,i=>if (Gs f (bs (wd l 0)) i).2 then PZ fs l.tail (Gs f (bs (wd l 0)) i).1 else none
def Ez (l:List ByteArray):Option Bj:=
 if bs (GH (wd l 0))=[63]\/l.length≠1+(GH (wd l 0)).size then none else PZ (bs (GH (wd l 0))) l.tail (.of (wd l 0))
def wL (l:List ByteArray) (w:World) (e:Ending) (w':World):Prop:=
 ∃i:Bj,e= .returned (.tuple #[i.val,.bool (Ez l).isSome])/\(∀j,Ez l=some j->i=j)/\Av [] w w'
theorem oY (x:ByteArray):(GH x).size<=5:=by
 unfold GH;split
 ·exact Nat.le_of_ble_eq_true rfl
 ·split
  ·exact Nat.le_of_ble_eq_true rfl
  ·unfold wd;have:∀a,a∈OI->a.size<=5:=AC
   rcases Qbs (A6 XT x).toNat OI.length with h | h
   ·rw[GE,Id h];exact this _ (Qab h)
   ·rw[GE,Qcr h];exact d6 _
theorem U7 {w1:World} (h:Av [] w w1) {v0 v1 v2 v3 v4 v5 v6 v7 v8:Value}:Av [] w
  (((((((((w1.setCell ⟨w.heap.size,0,none⟩ v0).setCell ⟨w.heap.size,1,none⟩ v1).setCell ⟨w.heap.size,2,none⟩ v2).setCell ⟨w.heap.size,3,none⟩ v3).setCell ⟨w.heap.size,4,none⟩ v4).setCell
    ⟨w.heap.size,5,none⟩ v5).setCell ⟨w.heap.size,6,none⟩ v6).setCell ⟨w.heap.size,7,none⟩ v7).setCell ⟨w.heap.size,8,none⟩ v8):=by
 have l:∀o,(⟨w.heap.size,o,none⟩:Addr).block∈([]:List Nat)\/w.heap.size<=(⟨w.heap.size,o,none⟩:Addr).block:=fun _=> .inr (LE _)
 exact((((((((h.setCell (l 0) _).setCell (l 1) _).setCell (l 2) _).setCell (l 3) _).setCell (l 4) _).setCell (l 5) _).setCell (l 6) _).setCell (l 7) _).setCell (l 8) _
theorem kr {α β:Type} {a c:α} {b d:β} (h:a=c) (k:b=d):(a,b)=(c,d):=by rw[h,k]
theorem BM.af {c:Array Value} (h:BM w b c T) (i:Nat) (v:Value) {c':Array Value} (e:c.setIfInBounds i v=c'):BM (w.setCell ⟨b,i,none⟩ v) b c' T:=e▸h.set i v
theorem Aaa {a0 a1 a2 a3 a4 a5 a6 a7 a8:Value} (h:BM w b #[a0,a1,a2,a3,a4,a5,a6,a7,a8] T) {v0 v1 v2 v3 v4 v5 v6 v7 v8:Value}:
  BM (((((((((w.setCell ⟨b,0,none⟩ v0).setCell ⟨b,1,none⟩ v1).setCell ⟨b,2,none⟩ v2).setCell ⟨b,3,none⟩ v3).setCell ⟨b,4,none⟩ v4).setCell ⟨b,5,none⟩ v5).setCell ⟨b,6,none⟩ v6).setCell
    ⟨b,7,none⟩ v7).setCell ⟨b,8,none⟩ v8) b #[v0,v1,v2,v3,v4,v5,v6,v7,v8] T:=by
 have h0:=h.af 0 v0 (c':= #[v0,a1,a2,a3,a4,a5,a6,a7,a8]) rfl;have h1:=h0.af 1 v1 (c':= #[v0,v1,a2,a3,a4,a5,a6,a7,a8]) rfl;have h2:=h1.af 2 v2 (c':= #[v0,v1,v2,a3,a4,a5,a6,a7,a8]) rfl;have h3:=h2.af 3 v3 (c':= #[v0,v1,v2,v3,a4,a5,a6,a7,a8]) rfl;have h4:=h3.af 4 v4 (c':= #[v0,v1,v2,v3,v4,a5,a6,a7,a8]) rfl;have h5:=h4.af 5 v5 (c':= #[v0,v1,v2,v3,v4,v5,a6,a7,a8]) rfl;have h6:=h5.af 6 v6 (c':= #[v0,v1,v2,v3,v4,v5,v6,a7,a8]) rfl;have h7:=h6.af 7 v7 (c':= #[v0,v1,v2,v3,v4,v5,v6,v7,a8]) rfl;exact h7.af 8 v8 (c':= #[v0,v1,v2,v3,v4,v5,v6,v7,v8]) rfl
theorem dS (a:Act) (w:World) (rb:Nat) (i:Bj) (c:Bool) (h:BM w rb i.cells 101) (h2:a.tmps.getD 2 undef= i6 rb) (h3:a.tmps.getD 3 undef= .bool c):
  (results f62 a.tmps).run prog w= .ok (.tuple #[i.val,.bool c]) w:=by
 have hc:=h.cell;unfold Bj.cells at hc;simp[Qb7] at h2 h3;simp[results,results62,go_sem,hc,Bj.val,Bj.cells,h2,h3]
theorem Vc (l:List ByteArray) (v:Value) (w:World) (ok:Nat->Prop) (hv:Sl w ok v (A3 l)) (Bi:l≠[]) (hs:∀s,s∈l->s.size<=maxLen):
  Calls prog 62 #[v] w (wL l w):=by
 have hlen:0 < l.length:=by cases l with | nil=>exact UV rfl Bi | cons a r=>simp
 obtain⟨hm,⟨rfl,hn⟩ | ⟨b,off,cap,rfl,h1,h2,h3,h4,h5⟩⟩:=hv
 ·exact UV (by cases l with | nil=>rfl | cons a r=>simp[A3] at hn) Bi
 rw[CK] at hm h1⊢;unfold maxLen at hm h2;have c0:=Sl.Lv h5 0 hlen;simp only[Qaj] at c0;have H5:=hid (Sl.Lv h5);have HS:=hid (fun i=>Iy hs i);have hfs:=oY (wd l 0);have hD:Ez l=(if bs (GH (wd l 0))=[63]\/l.length≠1+(GH (wd l 0)).size then none else PZ (bs (GH (wd l 0))) l.tail (.of (wd l 0))):=rfl;clear h5 h3 hs Bi;generalize hX:wd l 0=x at*;have hF:=fun w=>vo x w
 unfold AaZ at hF;generalize hFo:GH x=f at*;have HF:=hid hF;have HD:=hid hD;clear hF hFo hX hD;go_enter func62,ntmps62;go_wp2_with fail;refine(HF _).mono ?_;rintro e w1 ⟨rfl,CS⟩;have hR:BM w1 w.heap.size (Bj.of ByteArray.empty).cells 101:=((BM.new w (Bj.of ByteArray.empty).cells _).alloc _).Bf CS EQ;have hI:BM w1 (w.heap.size+1) (Bj.of x).cells 101:=by
  have:=(BM.new (w.alloc (.cells (Bj.of ByteArray.empty).cells 101)) (Bj.of x).cells 101).Bf CS EQ;rw[show(w.alloc (.cells (Bj.of ByteArray.empty).cells 101)).heap.size=w.heap.size+1 from Qcg _] at this;exact this
 have C4:Av [] w w1:=(((Av.refl [] w).alloc _).alloc _).trans CS EQ;have AX:w.heap.size+1 < w1.heap.size:=hI.lt;have H5':Hid (∀i,i < l.length->w1.cell? ⟨b,off+i,none⟩=some (.string (wd l i))):=fun i hi=>AU C4 (H5 i hi)
 have HM:=hid C4;have oO:=hR.cell;have hRf:=hR.free;have zA:=hI.cell;have u7:=hI.free;clear CS C4 HF;by_cases hq:bs f=[63]
 ·have hq':=BO hq;have HN:Hid (Ez l=none):=by rw[HD.out,In (.inl hq)];rfl
  clear hq hR hI;unfold Bj.cells at oO zA;go_wp2;refine bodyPost_ret (v:= .tuple #[(Bj.of x).val,.bool false]) (by simp[results,results62,go_sem,oO,Bj.val,Bj.cells]) rfl ⟨Bj.of x,by rw[HN.out];rfl,(fun j hj=>by rw[HN.out] at hj;cases hj),?_⟩;exact U7 HM.out
 ·have hq':=An hq;by_cases hlf:l.length=1+f.size
  ·have hD2:Ez l=PZ (bs f) l.tail (.of x):=by rw[HD.out,I (by rintro(h | h);exact hq h;exact h hlf)]
   have HD2:=hid hD2;have Hlf:=hid hlf;have J2:((l.length:Int) !=1+(f.size:Int))=false:=by rw[Qc3];intro h;rw[bne_iff_ne] at h;omega
   have hR':=hid hR;have hI':=hid hI;have iS:f.size+1<=l.length:=Y
   clear hq hD2 hlf hR hI oO hRf zA u7 HD c0;go_wp2;go_loopw [6] (fun j wr=>∃(k:Nat) (i:Bj),k<=f.size/\j= i5 k/\BM wr w.heap.size (Bj.of ByteArray.empty).cells 101/\BM wr (w.heap.size+1) i.cells 101/\Av [] w wr/\
     Ez l=PZ ((bs f).drop k) (l.tail.drop k) i) (fun j _=>f.size - (intOf j).toNat)
   case atStart=>exact⟨0,_,d6 _,rfl,hR',hI',HM,HD2⟩
   case round=>
    clear hq' J2 hR' hI' HD2 HM AX H5';obtain⟨k,i,hk,rfl,hR,hI,LB,iT⟩:=hrel;by_cases hkf:k < f.size
    ·have hcf:(bs f).drop k=f[k]::(bs f).drop (k+1):=Qa6 (by rw[Bw];exact hkf);have Db:(l.tail.drop k).tail=l.tail.drop (k+1):=by rw[Qc4]
     have hcw:wd (l.tail.drop k) 0=wd l (k+1):=by
      unfold wd;rw[GE,GE,List.getElem?_drop,List.getElem?_tail]
     rw[hcf] at iT;unfold PZ at iT;rw[Db,hcw] at iT;have c1:wr.cell? ⟨b,off+(1+k),none⟩=some (.string (wd l (k+1))):=by rw[Nat.add_comm 1 k];exact AU LB (H5 (k+1) Y)
     have hX:=HS.out (k+1);generalize wd l (k+1)=X at*;have hV:=fun w=>xE X w hX
     have hN:=fun w=>KD X w hX
     have hRg:=fun w=>Ro X w
     unfold AcE at hV;unfold Lz at hN;unfold Qo at hRg;simp only[OV.val] at hV;generalize hva:LM (bs X)=va at*;generalize hnu:number (bs X)=nu at*;generalize hre:LX (bs X)=re at*;have Hva:=hid hva;have Hnu:=hid hnu;have Hre:=hid hre;clear hva hnu hre;have Hgo:=hid iT;have HV:=hid hV;have HNu:=hid hN;have wT:=hid hRg;have HR:=hid hR;have HI:=hid hI;have cj:=hid LB;have Fs:=H9 c1;clear hcf Db hcw iT hX hV hN hRg hR hI LB;go_wp2_with fail;refine(HV _).mono ?_;rintro e w2 ⟨rfl,C4⟩;have Ik:=hid (cj.Ad C4);have jR:=hid (HR.Bf C4 EQ);have lT:=hid (HI.Bf C4 EQ);have zA:=lT.cell;have u7:=lT.free;have oO:=jR.cell;have hRf:=jR.free;have hIl:=lT.lt;have zx:=jR.lt;unfold Bj.cells at zA oO;clear C4 HR HI cj HV;go_wp2_with fail;refine(HNu _).mono ?_;rintro e w' ⟨rfl,rfl⟩
     go_upto_block 2 with(fail)
     go_cut [9,12,13] (fun o _ _ wz=>∃(j:Bj) (c:Bool),o= .bool c/\Gs f[k] (bs X) i=(j,c)/\BM wz w.heap.size (Bj.of ByteArray.empty).cells 101/\BM wz (w.heap.size+1) j.cells 101/\Av [] w wz)
     case first=>
      clear oO hRf zx;by_cases hd:(f[k]).toNat=100
      ·have qd:(((f[k]).toNat:Int)==100)=true:=by rw[hd];rfl
       have HZ:=hid (show Gs f[k] (bs X) i=_ by simp only[Gs,In hd,Hva.out,Hnu.out,Hre.out];exact rfl);clear hd;go_wp2_with (go_at_call 93;refine(wT _).mono ?_;rintro e w' ⟨rfl,rfl⟩)
       go_meet
       exact⟨_,_,rfl,HZ,((jR).Em (Qbf (Qa1 _)) _).alloc _,((lT).set 1 _).alloc _,((Ik).setCell (.inr (Qan _)) _).alloc _⟩
      have qd:(((f[k]).toNat:Int)==100)=false:=by rw[NE];omega
      by_cases ha:(f[k]).toNat=97
      ·have qa:(((f[k]).toNat:Int)==97)=true:=by rw[ha];rfl
       have HZ:=hid (show Gs f[k] (bs X) i=_ by simp only[Gs,I hd,In ha,Hva.out,Hnu.out,Hre.out];exact rfl);clear hd ha;go_wp2_with (go_at_call 93;refine(wT _).mono ?_;rintro e w' ⟨rfl,rfl⟩)
       go_meet
       exact⟨_,_,rfl,HZ,(((jR).Em (Qbf (Qa1 _)) _).Em (Qbf (Qa1 _)) _).alloc _,(((lT).set 2 _).set 3 _).alloc _,(((Ik).setCell (.inr (Qan _)) _).setCell (.inr (Qan _)) _).alloc _⟩
      have qa:(((f[k]).toNat:Int)==97)=false:=by rw[NE];omega
      by_cases hb:(f[k]).toNat=98
      ·have qb:(((f[k]).toNat:Int)==98)=true:=by rw[hb];rfl
       have HZ:=hid (show Gs f[k] (bs X) i=_ by simp only[Gs,I hd,I ha,In hb,Hva.out,Hnu.out,Hre.out];exact rfl);clear hd ha hb;go_wp2_with (go_at_call 93;refine(wT _).mono ?_;rintro e w' ⟨rfl,rfl⟩)
       go_meet
       exact⟨_,_,rfl,HZ,(((jR).Em (Qbf (Qa1 _)) _).Em (Qbf (Qa1 _)) _).alloc _,(((lT).set 4 _).set 5 _).alloc _,(((Ik).setCell (.inr (Qan _)) _).setCell (.inr (Qan _)) _).alloc _⟩
      have qb:(((f[k]).toNat:Int)==98)=false:=by rw[NE];omega
      by_cases hc:(f[k]).toNat=99
      ·have qc:(((f[k]).toNat:Int)==99)=true:=by rw[hc];rfl
       have HZ:=hid (show Gs f[k] (bs X) i=_ by simp only[Gs,I hd,I ha,I hb,In hc,Hva.out,Hnu.out,Hre.out];exact rfl);clear hd ha hb hc;go_wp2_with (go_at_call 93;refine(wT _).mono ?_;rintro e w' ⟨rfl,rfl⟩)
       go_meet
       exact⟨_,_,rfl,HZ,(((jR).Em (Qbf (Qa1 _)) _).Em (Qbf (Qa1 _)) _).alloc _,(((lT).set 6 _).set 7 _).alloc _,(((Ik).setCell (.inr (Qan _)) _).setCell (.inr (Qan _)) _).alloc _⟩
      have qc:(((f[k]).toNat:Int)==99)=false:=by rw[NE];omega
      by_cases hk:(f[k]).toNat=107
      ·have qk:(((f[k]).toNat:Int)==107)=true:=by rw[hk];rfl
       have HZ:=hid (show Gs f[k] (bs X) i=_ by simp only[Gs,I hd,I ha,I hb,I hc,In hk,Hva.out,Hnu.out,Hre.out];exact rfl);clear hd ha hb hc hk;go_wp2_with (go_at_call 93;refine(wT _).mono ?_;rintro e w' ⟨rfl,rfl⟩)
       go_meet
       exact⟨_,_,rfl,HZ,((jR).Em (Qbf (Qa1 _)) _).alloc _,((lT).set 8 _).alloc _,((Ik).setCell (.inr (Qan _)) _).alloc _⟩
      have qk:(((f[k]).toNat:Int)==107)=false:=by rw[NE];omega
      by_cases ht:(f[k]).toNat=116
      ·have qt:(((f[k]).toNat:Int)==116)=true:=by rw[ht];rfl
       have HZ:=hid (show Gs f[k] (bs X) i=_ by simp only[Gs,I hd,I ha,I hb,I hc,I hk,In ht,Hva.out,Hnu.out,Hre.out];exact rfl);clear hd ha hb hc hk ht;cases nu with
       | none=>
        exact maV
       | some r=>
        by_cases RR:0<=r <;>by_cases SY:r<=4000;all_goals try (exfalso;omega)
        all_goals
         go_wp2_with (go_at_call 93;refine(wT _).mono ?_;rintro e w' ⟨rfl,rfl⟩)
         go_meet
         refine⟨_,_,rfl,HZ.trans (kr rfl ?_),((jR).Em (Qbf (Qa1 _)) _).alloc _,((lT).set 8 _).alloc _,((Ik).setCell (.inr (Qan _)) _).alloc _⟩;simp[*]
      have qt:(((f[k]).toNat:Int)==116)=false:=by rw[NE];omega
      by_cases hn:(f[k]).toNat=110
      ·have qn:(((f[k]).toNat:Int)==110)=true:=by rw[hn];rfl
       have HZ:=hid (show Gs f[k] (bs X) i=_ by simp only[Gs,I hd,I ha,I hb,I hc,I hk,I ht,In hn,Hva.out,Hnu.out,Hre.out];exact rfl);clear hd ha hb hc hk ht hn;cases nu with
       | none=>
        exact maV
       | some r=>
        by_cases RR:1<=r <;>by_cases SY:r<=9;all_goals try (exfalso;omega)
        all_goals
         go_wp2_with (go_at_call 93;refine(wT _).mono ?_;rintro e w' ⟨rfl,rfl⟩)
         go_meet
         refine⟨_,_,rfl,HZ.trans (kr rfl ?_),((jR).Em (Qbf (Qa1 _)) _).alloc _,((lT).set 8 _).alloc _,((Ik).setCell (.inr (Qan _)) _).alloc _⟩;simp[*]
      have qn:(((f[k]).toNat:Int)==110)=false:=by rw[NE];omega
      have HZ:=hid (show Gs f[k] (bs X) i=_ by simp only[Gs,I hd,I ha,I hb,I hc,I hk,I ht,I hn,Hva.out,Hnu.out,Hre.out];exact rfl);clear hd ha hb hc hk ht hn;go_wp2_with (go_at_call 93;refine(wT _).mono ?_;rintro e w' ⟨rfl,rfl⟩)
      go_meet
      exact⟨_,_,rfl,HZ,jR.alloc _,lT.alloc _,Ik.alloc _⟩
     case rest=>
      obtain⟨j,c,rfl,hj,hR,hI,LB⟩:=hcut;have hg:=Hgo.out;rw[hj] at hg;have HR:=hid hR;have HI:=hid hI;have HM:=hid LB;have Hg:=hid hg;have zA:=hI.cell;have u7:=hI.free;have oO:=hR.cell;have hRf:=hR.free;have hIl:=hI.lt;have zx:=hR.lt;unfold Bj.cells at zA oO;clear hR hI LB hg hj lT jR Ik wT Hgo HNu;cases c
      ·have HB:Hid (Ez l=none):=Hg.out;go_wp2;exact bodyPost_ret (dS _ _ w.heap.size j false (Aaa HR) rfl rfl) rfl ⟨j,by rw[HB.out];rfl,(fun i hj=>by rw[HB.out] at hj;cases hj),U7 HM⟩
      ·go_wp2;go_roundw;case rel=>exact⟨k+1,j,Y,by go_num,HR,HI,HM,Hg⟩
       case measure=>simp[intOf];omega
    ·have hE:Ez l=some i:=by rw[iT,Qbc (by rw[Bw];omega)];rfl
     have HE:=hid hE;have zA:=hI.cell;have u7:=hI.free;have oO:=hR.cell;have hRf:=hR.free;have hIl:=hI.lt;have HM:=hid LB;unfold Bj.cells at zA oO;clear iT hE hR hI LB;go_wp2;refine bodyPost_ret (v:= .tuple #[i.val,.bool true]) (by simp[results,results62,go_sem,oO,Bj.val,Bj.cells]) rfl ⟨i,by rw[HE.out];rfl,(fun j hj=>by rw[HE.out] at hj;cases hj;rfl),?_⟩;exact U7 HM.out
  ·have HN:Hid (Ez l=none):=by rw[HD.out,In (.inr hlf)];rfl
   have J2:((l.length:Int) !=1+(f.size:Int))=true:=by rw[bne_iff_ne];omega
   clear hq hlf hR hI;unfold Bj.cells at oO zA;go_wp2;refine bodyPost_ret (v:= .tuple #[(Bj.of x).val,.bool false]) (by simp[results,results62,go_sem,oO,Bj.val,Bj.cells]) rfl ⟨Bj.of x,by rw[HN.out];rfl,(fun j hj=>by rw[HN.out] at hj;cases hj),?_⟩;exact U7 HM.out
end Go.Proofs.YtpdfifdlhpmofaaGreatDoor
