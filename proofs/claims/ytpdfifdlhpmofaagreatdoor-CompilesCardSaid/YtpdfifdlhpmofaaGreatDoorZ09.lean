/-
  Part 9 of the proof, packed by program out of W6, W7.
-/
import Derived.Test.YtpdfifdlhpmofaaGreatDoorZ04
import Derived.Test.YtpdfifdlhpmofaaGreatDoorZ03
set_option linter.unusedVariables false
set_option linter.unusedSimpArgs false
set_option maxHeartbeats 3200000
set_option maxRecDepth 100000
namespace Go.Proofs.YtpdfifdlhpmofaaGreatDoor
open Go.RowKit
open Go.Lib (hid)
def Ay (c:UInt8):By→List By
 | []=>[[]]
 | x::r=>if x=c then []::Ay c r else match Ay c r with
  | []=>[[x]]
  | p::ps=>(x::p)::ps
theorem Cc (c:UInt8) (s:By):Ay c s≠[]:=by
 cases s with
 | nil=>simp[Ay]
 | cons x r=>
  unfold Ay;split
  ·simp
  ·split <;>simp
def MZ (a:By):List By→List By
 | []=>[a]
 | p::ps=>(a++p)::ps
theorem KC (s:List By) (h:s≠[]):MZ [] s=s:=by cases s with | nil=>exact absurd rfl h | cons p ps=>rfl
theorem QS (c:UInt8) (a r:By):MZ a (Ay c (c::r))=a::Ay c r:=by
 simp[Ay,MZ]
theorem Gj (c x:UInt8) (r:By) (h:¬x=c):Ay c (x::r)=MZ [x] (Ay c r):=by
 simp only[Ay,if_neg h];generalize Ay c r=q;cases q <;>rfl
theorem au (c x:UInt8) (a r:By) (h:¬x=c):MZ a (Ay c (x::r))=MZ (a++[x]) (Ay c r):=by
 rw[Gj c x r h];have:=Cc c r;generalize Ay c r=q at*;cases q with
 | nil=>exact absurd rfl this
 | cons p ps=>simp[MZ]
theorem gr:(Tryz.prog.info? 9).map (fun i=>(i.zero,i.size,i.bytes))=some (some (.string ByteArray.empty),1,16):=by kernel_rfl
theorem XC (s:ByteArray) (k:Nat) (h:k < s.size):bs (s.extract k (k+1))=[s[k]]:=by
 show(s.extract k (k+1)).data.toList=_;rw[Lib.extract_data];show((bs s).drop k).take _=_;rw[List.drop_eq_getElem_cons (by rw[Bu];exact h),show k+1 - k=0+1 by omega,List.take_succ_cons,List.take_zero];rfl
theorem dy (a b:ByteArray):bs (a++b)=bs a++bs b:=by
 show(a++b).data.toList=_;rw[ByteArray.data_append,Array.toList_append]
def yh (c:UInt8) (s:ByteArray) (w:World) (e:Ending) (w':World):Prop:=
 ∃v l,e= .returned v∧Av [] w w'∧w'.ownsRow w.heap.size 9 1 v l.length (AY l)∧l.map bs=Ay c (bs s)
theorem OB (s:ByteArray) (c:UInt8) (w:World) (hs:s.size≤1000000):
  Calls Tryz.prog 35 #[.string s,.int .u8 c.toNat] w (yh c s w):=by
 obtain⟨i0,hi,I9,EK,JW⟩:=info_parts gr;go_enter Tryz.func35,Tryz.ntmps35;go_wp2;go_loopw [5,6] (fun v i wr=>∃(k:Nat) (l:List ByteArray) (cur:ByteArray),k≤s.size∧cur.size≤k∧i= .int .i64 k∧l.length≤k∧wr.ownsRow w.heap.size 9 1 v (l.length+1) (AY (l++[cur]))∧Av [] w wr∧
     Ay c (bs s)=l.map bs++MZ (bs cur) (Ay c ((bs s).drop k))) (fun _ i _=>s.size - (intOf i).toNat)
 case atStart=>
  refine⟨0,[],⟨#[]⟩,Nat.zero_le _,Nat.zero_le _,rfl,Nat.le_refl _,?_,(Av.refl _ _).alloc _,?_⟩
  ·exact⟨rfl,.inr ⟨w.heap.size,1,#[.string ⟨#[]⟩],rfl,Nat.le_refl _,BR.new w _ _,Nat.le_refl _,by unfold maxLen;omega,rfl,rfl⟩⟩
  ·exact(KC _ (Cc _ _)).symm
 case round=>
  obtain⟨k,l,cur,hk,uh,rfl,hl,CN,NG,jJ⟩:=hrel;obtain⟨g,cap,rfl,uf,ln,r4,yW,hc,hf⟩:=AX CN (by omega);have lW:=hid CN;have ZL:=hid NG;clear CN NG;by_cases Bi:k < s.size
  ·have Ma:(bs s).drop k=s[k]::(bs s).drop (k+1):=List.drop_eq_getElem_cons (by rw[Bu];exact Bi);rw[Ma] at jJ;by_cases he:s[k]=c
   ·have hb:(((s[k]).toNat:Int)==(c.toNat:Int))=true:=by rw[he];simp
    rw[he,QS] at jJ;have na:=hid jJ;clear jJ he Ma hc hf;go_wp2_with (at_builtin;go_loud (refine wpList_append_lies _ rfl _ _ _ rfl w.heap.size 9 i0 _ 1 16 Tryz.underlying90 hi I9 EK JW rfl (by omega) _ (l.length+1) (AY (l++[cur])) rfl (DJ lW.out _) ⟨wr.heap.size,0,none⟩ 1 1 [.string ⟨#[]⟩] rfl rfl (World.news_of_block (BR.new wr #[.string ⟨#[]⟩] 9)) (by simp[Value.oneCell']) (by omega) (by unfold maxLen;omega) (by omega) ?_ _ rfl ?_))
    ·have:=ZL.out.size;simp;omega
    ·intro g' cap' w1 gO Eb Fh _;have mD:Av [] w w1:=(ZL.out.alloc _).grown Eb fun j hj=>by cases hj;exact .inr uf
     have tm:=hid gO;have tq:=hid mD;clear gO Eb Fh mD;go_wp2;go_roundw;case rel=>
      refine⟨k+1,l++[cur],⟨#[]⟩,by omega,Nat.zero_le _,by go_num,by simp;omega,?_,tq.out,?_⟩
      ·have:=tm.out;simpa[AY] using this
      ·rw[na.out,List.map_append,List.append_assoc];show _=_++([bs cur]++MZ [] _);rw[KC _ (Cc _ _)];rfl
     case measure=>simp[intOf];omega
   ·have hb:(((s[k]).toNat:Int)==(c.toNat:Int))=false:=by
     rw[beq_eq_false_iff_ne];intro h;exact he (UInt8.toNat_inj.1 (by omega))
    rw[au c _ _ _ he,←XC s k Bi,←dy] at jJ;have na:=hid jJ;have Qd:wr.cell? ⟨g,l.length,none⟩=some (.string cur):=by
     rw[hc l.length (by simp[AY])];simp[AY]
    have Ux:=hf l.length;have hL0:(0:Int)≤(l.length:Int):=Int.natCast_nonneg _;have wq:(l.length:Int) < ((l.length:Int)+1):=by omega
    have Y1:(s.extract k (k+1)).size=1:=by rw[←Bu,XC s k Bi];rfl
    have rk:cur.size+(s.extract k (k+1)).size≤9223372036854775807:=by omega
    have wa:=fun (w:World)=>run_string_add_sum (P:=Tryz.prog) (w:=w) cur (s.extract k (k+1)) rk
    have pN:=hid Y1;have mj:IntKind.i64.wrap ((k:Int)+1)=(k:Int)+1:=IntWalk.i64_in _ (by omega);have Tw:(0:Int)≤(k:Int)+1:=by omega
    have JO:(k:Int)+1≤(s.size:Int):=by omega
    have XY:((k:Int)+1).toNat=k+1:=by omega
    clear jJ he Ma hc hf rk Y1;go_wp2
    go_region
    all_goals clear mj XY wa
    all_goals go_wp2
    go_roundw;case rel=>
     refine⟨k+1,l,cur++s.extract k (k+1),by omega,?_,by go_num,by omega,?_,(ZL.out.setCell (.inr uf) _).drew,na.out⟩
     ·rw[ByteArray.size_append,pN.out];omega
     ·have:=I2 (PO lW.out l.length (by simp[AY]) (.string (cur++s.extract k (k+1))));simpa[AY] using this
    case measure=>simp[intOf];omega
  ·rw[List.drop_of_length_le (by rw[Bu];omega)] at jJ;have na:=hid jJ;clear jJ hc hf;go_wp2;go_ret;refine⟨_,l++[cur],rfl,ZL.out,?_,?_⟩
   ·have:=lW.out;simpa[AY] using this
   ·rw[na.out,List.map_append];simp[Ay,MZ]
def Kt (l:By):Option Nat:=
 if l.length=2∧(l.getD 0 0).toNat=114∧48≤(l.getD 1 0).toNat∧(l.getD 1 0).toNat≤55 then some ((l.getD 1 0).toNat - 48) else none
def Nu (l:By):Value:= .tuple #[.int .i64 ((Kt l).getD 0:Nat),.bool (Kt l).isSome]
theorem PJ {l:By} (h:¬(l.length=2∧(l.getD 0 0).toNat=114∧48≤(l.getD 1 0).toNat∧(l.getD 1 0).toNat≤55)):Nu l= .tuple #[.int .i64 0,.bool false]:=by
 unfold Nu Kt;rw[if_neg h];rfl
theorem WA {l:By} (h:l.length=2∧(l.getD 0 0).toNat=114∧48≤(l.getD 1 0).toNat∧(l.getD 1 0).toNat≤55):Nu l= .tuple #[.int .i64 (((l.getD 1 0).toNat - 48:Nat):Int),.bool true]:=by
 unfold Nu Kt;rw[if_pos h];rfl
theorem aE (s:ByteArray) (k:Nat) (h:k < s.size):(bs s).getD k 0=s[k]:=by
 rw[List.getD_eq_getElem?_getD,List.getElem?_eq_getElem (by rw[Bu];exact h)];rfl
theorem Oc (s:ByteArray) (w:World):
  Calls Tryz.prog 93 #[.string s] w fun e w'=>e= .returned (Nu (bs s))∧w'=w:=by
 by_cases h2:s.size=2
 ·have hq:((s.size:Int) !=2)=false:=by rw[h2];rfl
  have h0:0 < s.size:=by omega
  have h3:1 < s.size:=by omega
  have hn:=fun h=> @PJ (bs s) h
  have hp:=fun h=> @WA (bs s) h
  rw[Bu,aE s 0 h0,aE s 1 h3] at hn hp;have Hn:=hid hn;have Hp:=hid hp;have H2:=hid h2;clear hn hp h2;go_enter Tryz.func93,Tryz.ntmps93;go_wp2;all_goals go_ret2
  all_goals refine⟨Lc ?_,rfl⟩
  all_goals first
   | (rw[Hn.out (by omega)];rfl)
   | (rw[Hp.out (by have:=H2.out;omega)];exact uD (int_eq (by omega)) rfl)
 ·have hq:((s.size:Int) !=2)=true:=by rw[bne_iff_ne];omega
  have Hn:=hid (@PJ (bs s) (by rw[Bu];exact fun h=>h2 h.1));clear h2;go_enter Tryz.func93,Tryz.ntmps93;go_wp2;go_ret2;exact⟨Lc Hn.out.symm,rfl⟩
structure SQ where
 BF:Bool
 v:Int
def SQ.val (a:SQ):Value:= .agg #[.bool a.BF,.int .i64 a.v]
def Ko (l:By):Option SQ:=match Kt l with
 | some r=>some ⟨true,r⟩
 | none=>match number l with
  | some v=>some ⟨false,v⟩
  | none=>none
def SQ.zero:SQ:=⟨false,0⟩
def pJ (l:By) (w:World) (e:Ending) (w':World):Prop:=e= .returned (.tuple #[((Ko l).getD .zero).val,.bool (Ko l).isSome])∧Av [] w w'
theorem jX (s:ByteArray) (w:World) (hs:s.size≤maxLen):
  Calls Tryz.prog 92 #[.string s] w (pJ (bs s) w):=by
 have h1:=fun w=>Oc s w
 have h2:=fun w=>Jw s w hs
 unfold Nu at h1;unfold J8 at h2;unfold pJ Ko;generalize Kt (bs s)=r at*;generalize number (bs s)=n at*;have H1:=hid h1;have H2:=hid h2;clear h1 h2;cases r with
 | some k=>
  go_enter Tryz.func92,Tryz.ntmps92;go_wp2_with (first | (go_at_call 93;refine(H1.out _).mono ?_;rintro e w' ⟨rfl,rfl⟩) | (go_at_call 86;refine(H2.out _).mono ?_;rintro e w' ⟨rfl,rfl⟩));exact bodyPost_ret (v:= .tuple #[.agg #[.bool true,.int .i64 k],.bool true]) (by simp[results,Tryz.results92,go_sem]) rfl ⟨rfl,(Av.refl _ _).alloc _⟩
 | none=>
  rcases n with _ | v
  ·skip
   go_enter Tryz.func92,Tryz.ntmps92;go_wp2_with (first | (go_at_call 93;refine(H1.out _).mono ?_;rintro e w' ⟨rfl,rfl⟩) | (go_at_call 86;refine(H2.out _).mono ?_;rintro e w' ⟨rfl,rfl⟩));exact bodyPost_ret (v:= .tuple #[.agg #[.bool false,.int .i64 0],.bool false]) (by simp[results,Tryz.results92,go_sem]) rfl ⟨rfl,(Av.refl _ _).alloc _⟩
  ·go_enter Tryz.func92,Tryz.ntmps92;go_wp2_with (first | (go_at_call 93;refine(H1.out _).mono ?_;rintro e w' ⟨rfl,rfl⟩) | (go_at_call 86;refine(H2.out _).mono ?_;rintro e w' ⟨rfl,rfl⟩));exact bodyPost_ret (v:= .tuple #[.agg #[.bool false,.int .i64 v],.bool true]) (by simp[results,Tryz.results92,go_sem]) rfl ⟨rfl,(Av.refl _ _).alloc _⟩
def Tp:List ByteArray:=[⟨#[109,111,118]⟩,⟨#[108,111,97,100]⟩,⟨#[115,116,111,114,101]⟩,⟨#[99,97,115]⟩,⟨#[120,97,100,100]⟩,⟨#[102,101,110,99,101]⟩,⟨#[111,117,116]⟩,⟨#[106,109,112]⟩,⟨#[106,122]⟩,⟨#[116,114,97,112]⟩,⟨#[104,97,108,116]⟩]
def Mc:List ByteArray:=[⟨#[100,97]⟩,⟨#[100,97,107]⟩,⟨#[97,107,98]⟩,⟨#[100,97,107,98,99]⟩,⟨#[100,97,107,98]⟩,⟨#[]⟩,⟨#[97]⟩,⟨#[116]⟩,⟨#[97,116]⟩,⟨#[110]⟩,⟨#[]⟩]
def FX (x:ByteArray):ByteArray:=
 if 0≤Bf Cn x then ⟨#[100,97,98]⟩ else if Bf Tp x < 0 then ⟨#[63]⟩ else wd Mc (Bf Tp x).toNat
def np (x:ByteArray) (w:World) (e:Ending) (w':World):Prop:=e= .returned (.string (FX x))∧Av [] w w'
theorem bJ (l:List ByteArray) (x:ByteArray) (k:Nat):DC l x k= -1∨((k:Int)≤DC l x k∧DC l x k < k+l.length):=by
 induction l generalizing k with
 | nil=>exact .inl rfl
 | cons a r ih=>
  unfold DC;split
  ·exact .inr ⟨by omega,by simp only[List.length_cons];omega⟩
  ·rcases ih (k+1) with h | ⟨h1,h2⟩
   ·exact .inl h
   ·exact .inr ⟨by omega,by simp only[List.length_cons];omega⟩
theorem Of (l:List ByteArray) (x:ByteArray):Bf l x= -1∨(0≤Bf l x∧Bf l x < l.length):=by
 rcases bJ l x 0 with h | ⟨h1,h2⟩
 ·exact .inl h
 ·exact .inr ⟨h1,by unfold Bf;omega⟩
theorem iN (x:ByteArray) (w:World):Calls Tryz.prog 91 #[.string x] w (np x w):=by
 have hP:=Of Cn x;have hQ:=Of Tp x;have hF:FX x=if 0≤Bf Cn x then ⟨#[100,97,98]⟩ else if Bf Tp x < 0 then ⟨#[63]⟩ else wd Mc (Bf Tp x).toNat:=rfl
 go_enter Tryz.func91,Tryz.ntmps91;go_wp2_with fail;refine(TK _).mono ?_;rintro e w1 ⟨v1,rfl,C9,JX⟩;have HP:=hid (FH Cn x v1 w1 _ JX);have HM:=hid C9;clear JX C9;generalize Bf Cn x=p at*;generalize hq:Bf Tp x=q at*;have HF:=hid hF;have HhQ:=hid hQ;have Hq:=hid hq;clear hP hQ hF hq;go_wp2_with fail;refine HP.out.mono ?_;rintro e w2 ⟨rfl,rfl⟩;by_cases hp:0≤p
 ·go_wp2;go_ret;refine⟨Lc ?_,HM.out⟩;rw[HF.out,if_pos hp];rfl
 ·have vm:p < 0:=by omega
  go_wp2_with fail;refine(FH Tp x _ _ (fun _=>True) ((Sl.new (w:=w2) (AY Tp) 9 11 rfl (by omega) _ trivial).Bh ((Av.refl [] _).alloc _) (by simp))).mono ?_;rintro e w3 ⟨rfl,rfl⟩;rw[Hq.out];by_cases hq:q < 0
  ·go_wp2;go_ret;refine⟨Lc ?_,(HM.out.alloc _).alloc _⟩;rw[HF.out,if_neg (Int.not_le.2 vm),if_pos hq];rfl
  ·obtain⟨n,rfl⟩:∃n:Nat,q=n:=⟨q.toNat,by omega⟩;have hn:n < 11:=by
    rcases HhQ.out with h | ⟨h1,h2⟩
    ·omega
    ·have:(Tp.length:Int)=11:=rfl;omega
   have HF':=hid (show FX x=wd Mc n by rw[HF.out,if_neg (Int.not_le.2 vm),if_neg hq];simp);have hW:(AY Mc)[n]'hn= .string (wd Mc n):=by
    simp only[AY,List.getElem_map];simp[wd,List.getElem?_eq_getElem (show n < Mc.length from hn)]
   have HW:=hid hW;clear hq vm hW;go_wp2;go_ret;refine⟨Lc ?_,(HM.out.alloc _).alloc _⟩;rw[HF'.out];exact HW.out
end Go.Proofs.YtpdfifdlhpmofaaGreatDoor
