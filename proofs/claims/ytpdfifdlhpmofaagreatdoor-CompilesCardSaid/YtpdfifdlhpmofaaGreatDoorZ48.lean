/-
  Part 48 of the proof, packed by program out of I1.
-/
import Derived.Test.YtpdfifdlhpmofaaGreatDoorZ15
import Derived.Test.YtpdfifdlhpmofaaGreatDoorZ47
import Derived.Test.YtpdfifdlhpmofaaGreatDoorZ21
set_option linter.unusedVariables false
set_option linter.unusedSimpArgs false
set_option maxHeartbeats 3200000
set_option maxRecDepth 100000
namespace Go.Proofs.YtpdfifdlhpmofaaGreatDoor
open Go.RowKit
open Go.Lib (hid)
theorem Mv {k:Int} (h:Jv k):i64 k:=by unfold Jv at h;unfold i64;omega
theorem fC {a:Ag} (h:Ez a):i64 a.v:=by
 unfold Ez at h;split at h
 ·exact Mv h
 ·exact h
theorem J3 (l:By):(AA l).size=l.length:=by simp[AA,ByteArray.size]
theorem QH {v:Int} (h:i64 v):(AA (Lib.itoa v)).size≤21:=by rw[J3];exact Lib.itoa_length_le v h.1 h.2
theorem eE {v:Int} (h:i64 v):(AA (Lib.itoa v)).size≤1000:=by have:=QH h;omega
theorem LO {a:Ag} (h:Ez a):(AA (EN a)).size≤1000:=by rw[J3];have:=Is h;omega
theorem Wh {k:Int} (h:Jv k):(AA (FE k)).size≤1000:=by rw[J3,Fw h];omega
theorem jk (a b:By):AA a++AA b=AA (a++b):=by
 apply Lu;rw[Cs];simp[bs,AA]
theorem Od (k:Int) (hk:i64 k) (w:World) (h:OO w):Calls Tryz.prog 260 #[.int .i64 k] w (IM (.string (AA (FE k))) w):=by
 have H:=hid h;have hk:=hid hk;clear h;go_enter Tryz.func260,Tryz.ntmps260;go_wp2_with fail;refine(MF k hk.out _ H.out).mono ?_;rintro e w1 ⟨rfl,hm⟩;have hz:=QH hk.out;go_wp2;go_ret;exact⟨congrArg (fun z=>Ending.returned (.string z)) (jk [114] (Lib.itoa k)),hm⟩
theorem Gf (a:Ag) (ha:Ez a) (w:World) (h:OO w):Calls Tryz.prog 251 #[.agg #[.bool a.BF,.int .i64 a.v]] w (IM (.string (AA (EN a))) w):=by
 obtain⟨BF,v⟩:=a;have hv:=hid (fC ha);have H:=hid h;clear h ha;cases BF with
 | false=>
  go_enter Tryz.func251,Tryz.ntmps251;go_wp2_with fail;refine(QU v hv.out _ (H.out.quiet ((Av.refl _ _).alloc _))).mono ?_;rintro e w1 ⟨rfl,hm⟩;have kc:=(B6 hm).cell (List.mem_singleton.2 rfl);have kl:=(B6 hm).lt (List.mem_singleton.2 rfl);have hz:=QH hv.out;go_wp2;go_ret;exact⟨rfl,((Av.refl _ _).alloc _).Ac hm⟩
 | true=>
  go_enter Tryz.func251,Tryz.ntmps251;go_wp2_with fail;refine(QU v hv.out _ (H.out.quiet ((Av.refl _ _).alloc _))).mono ?_;rintro e w1 ⟨rfl,hm⟩;have kc:=(B6 hm).cell (List.mem_singleton.2 rfl);have kl:=(B6 hm).lt (List.mem_singleton.2 rfl);have hz:=QH hv.out;go_wp2;go_ret;exact⟨congrArg (fun z=>Ending.returned (.string z)) (jk [114] (Lib.itoa v)),((Av.refl _ _).alloc _).Ac hm⟩
theorem cz (l:List By) (a:By):BC (l++[a])=if l=[] then a else BC l++32::a:=by
 induction l with
 | nil=>rfl
 | cons x l ih=>
  cases l with
  | nil=>rfl
  | cons y l=>
   rw[if_neg (by simp)] at ih⊢;show x++32::BC (y::l++[a])=(x++32::BC (y::l))++32::a;rw[ih];simp
theorem gh (l:List By) (h:∀a,a∈l→a.length≤1000):(BC l).length≤l.length*1001:=by
 induction l with
 | nil=>simp[BC]
 | cons x l ih=>
  cases l with
  | nil=>have:=h x (by simp);simp[BC];omega
  | cons y l=>
   have h1:=h x (by simp);have h2:=ih fun a ha=>h a (List.mem_cons_of_mem _ ha)
   simp only[BC,List.length_append,List.length_cons] at h2⊢;omega
theorem cA (l:List ByteArray) (k:Nat) (hl:l.length≤1000) (h:∀a,a∈l→a.size≤1000):(AA (BC ((l.map bs).take k))).size≤1001000:=by
 rw[J3];have:=gh ((l.map bs).take k) (by
   intro a ha;obtain⟨x,hx,rfl⟩:=List.mem_map.1 (List.mem_of_mem_take ha);have:=h x hx;exact this)
 have h2:((l.map bs).take k).length≤1000:=by simp;omega
 omega
theorem TO {α:Type} (l:List α) (k:Nat) (hk:k < l.length):l.take (k+1)=l.take k++[l[k]]:=by
 rw[List.take_succ_eq_append_getElem hk]
theorem gy (k:Nat) (hk:k≤2000):wrap64 ((k:Int)+1)=k+1:=IntWalk.wrap64_in _ (by omega)
theorem EF (l:List ByteArray) (w:World) (ok:Nat→Prop) (v:Value) (hs:Sl w ok v (AY l)) (hl:l.length≤1000) (hw:∀a,a∈l→a.size≤1000):
  Calls Tryz.prog 253 #[v] w (IM (.string (AA (BC (l.map bs)))) w):=by
 obtain⟨p,cap,rfl,_,_⟩:=hs.JF;have hlen:(AY l).length=l.length:=Cy l;rw[hlen];have HS:=hid hs;have hj:=hid (fun k=>cA l k hl hw);have hw:=hid hw;clear hs;go_enter Tryz.func253,Tryz.ntmps253;go_wp2;go_loopw [2,7] (fun s i wr=>∃k:Nat,i= .int .i64 k∧k≤l.length∧s= .string (AA (BC ((l.map bs).take k)))∧wr=w) (fun _ i _=>l.length - (intOf i).toNat);case atStart=>exact⟨0,rfl,Nat.zero_le _,rfl,rfl⟩
 case round=>
  obtain⟨k,rfl,hk,rfl,rfl⟩:=hrel;by_cases Bi:(k:Int) < (l.length:Int)
  ·have E7:k < l.length:=by omega
   have C8:k≤2000:=by omega
   obtain⟨_,⟨_,h2⟩ | ⟨b,off,cap',hv,h2,h3,h4,h5,h6⟩⟩:=HS.out
   ·have:l.length=0:=by rw[←hlen,h2];rfl
    omega
   ·cases hv;rw[hlen] at h2;have hc:wr.cell? ⟨b,off+k,none⟩=some (.string l[k]):=by
     have:=h6 k (by rw[hlen];exact E7);rw[this];simp[AY]
    have e:BC ((l.map bs).take (k+1))=BC ((l.map bs).take k++[bs l[k]]):=by rw[TO (l.map bs) k (by simpa using E7)];simp
    rw[cz] at e;obtain⟨x,hx⟩:∃x,x=l[k]:=⟨_,rfl⟩;have uS:=hw.out l[k] (List.getElem_mem _);have oM:=hj.out k;rw[←hx] at hc e uS;clear hx h6;have E:=hid e;clear e;have XY:=Int.natCast_nonneg k;unfold maxLen at h3;by_cases h0:k=0
    ·subst h0;simp only[Nat.add_zero] at hc;clear oM;have e0:AA (BC ((l.map bs).take 0))=⟨#[]⟩:=rfl;rw[e0];have E2:=E.out;rw[if_pos (by simp)] at E2;replace E:=hid E2;clear E2 e0;have inc:=gy 0 (by omega);go_wp2;go_roundw;case rel=>exact⟨1,rfl,E7,by rw[E.out,QF];exact congrArg Value.string (by apply Lu;simp[bs]),trivial⟩
     case measure=>simp[intOf];omega
    ·have h01:(0:Int) < (k:Int):=by omega
     have E2:=E.out;rw[if_neg (fun e0=>by have:=congrArg List.length e0;rw[List.length_take,List.length_map] at this;simp only[List.length_nil] at this;omega)] at E2;replace E:=hid E2;clear E2;have inc:=gy k C8;go_wp2;go_roundw;case rel=>
      refine⟨k+1,rfl,E7,?_,trivial⟩;rw[E.out];refine congrArg Value.string ?_;apply Lu;simp[bs,AA]
     case measure=>simp[intOf];omega
  ·have QP:k=l.length:=by omega
   subst QP;go_wp2;go_ret;have e9:(l.map bs).take l.length=l.map bs:=List.take_of_length_le (by simp);refine⟨?_,Av.refl _ _⟩;show Ending.returned (.string (AA (BC ((l.map bs).take l.length))))=_;rw[e9]
theorem Lf (a:Ag) (k:Int) (ha:Ez a) (hk:i64 k) (w:World) (h:OO w):Calls Tryz.prog 252 #[.agg #[.bool a.BF,.int .i64 a.v,.int .i64 k]] w (IM (.string (AA (BC [EN a,Lib.itoa k]))) w):=by
 have H:=hid h;clear h;go_enter Tryz.func252,Tryz.ntmps252;go_upto_region 1 with fail
 have hm:Av [] (w.alloc (.cells #[.bool a.BF,.int .i64 a.v,.int .i64 k] 270)) (w.alloc (.cells #[.bool a.BF,.int .i64 a.v,.int .i64 k] 270)).drew:=(Av.refl _ _).drew;refine Ao (l:=[(0,true),(1,true),(3,true),(4,true),(2,false),(5,false),(6,false),(7,false),(8,false)]) (fun W=>∀i:Nat,W.cell? ⟨w.heap.size,i,none⟩=(#[.bool a.BF,.int .i64 a.v,.int .i64 k]:Array Value)[i]?) 8 (by kernel_rfl) (by kernel_rfl) (by kernel_rfl) (by kernel_rfl) (by kernel_rfl) (fun c a d v w h=>by cases d <;>exact h) ?_ ?_
 ·exact(B6 hm).cell (List.mem_singleton.2 rfl)
 repeat
  refine Ak (v:= ?_) rfl rfl rfl (fun W hW=> ?_) ?_;rotate_left
  ·go_simp;rfl
  simp only[Bo]
 refine Ab rfl (fun K hK=> ?_);go_simp;refine(Gf a ha _ (H.out.quiet (((Av.refl _ _).alloc _).Ac hm))).mono ?_;rintro e w1 ⟨rfl,C9⟩;replace hm:=hm.Ac C9;clear C9;refine hK _ _ (fun _=>(B6 hm).cell (List.mem_singleton.2 rfl)) ?_;clear hK;repeat
  refine Ak (v:= ?_) rfl rfl rfl (fun W hW=> ?_) ?_;rotate_left
  ·go_simp;rfl
  simp only[Bo]
 refine Ab rfl (fun K hK=> ?_);go_simp;refine(QU k hk _ (H.out.quiet (((Av.refl _ _).alloc _).Ac hm))).mono ?_;rintro e w2 ⟨rfl,CY⟩;replace hm:=hm.Ac CY;clear CY;refine hK _ _ (fun _=>(B6 hm).cell (List.mem_singleton.2 rfl)) ?_;clear hK;repeat
  refine Ak (v:= ?_) rfl rfl rfl (fun W hW=> ?_) ?_;rotate_left
  ·go_simp;rfl
  simp only[Bo]
 refine Ab rfl (fun K hK=> ?_);go_simp;refine hK _ _ (fun _=>(B6 (hm.alloc _)).cell (List.mem_singleton.2 rfl)) ?_;clear hK;repeat
  refine Ak (v:= ?_) rfl rfl rfl (fun W hW=> ?_) ?_;rotate_left
  ·go_simp;rfl
  simp only[Bo]
 refine Ab rfl (fun K hK=> ?_);go_simp;refine(EF [AA (EN a),AA (Lib.itoa k)] _ (fun _=>True) _ (Sl.new (AY [AA (EN a),AA (Lib.itoa k)]) 9 2 rfl (by omega) _ trivial) (by simp) (by simp only[List.mem_cons,List.not_mem_nil,or_false,forall_eq_or_imp,forall_eq];exact⟨LO ha,eE hk⟩)).mono ?_;rintro e wz ⟨rfl,M9⟩;replace hm:=(hm.alloc (.cells (AY [AA (EN a),AA (Lib.itoa k)]).toArray 9)).Ac M9;clear M9;refine hK _ _ (fun _=>(B6 hm).cell (List.mem_singleton.2 rfl)) ?_;clear hK;refine Ab rfl (fun K hK=> ?_);go_simp;refine hK _ _ (fun h=>absurd rfl h) ?_;clear hK;simp only[A0];go_wp2;go_ret;refine⟨?_,((Av.refl _ _).alloc _).Ac hm⟩;refine congrArg (fun z=>Ending.returned (.string (AA z))) ?_;simp[BC,GI.Ae,GI.ws,Cs,bs]
theorem ZS {a:Ag} {k:Int} (ha:Ez a) (hk:i64 k):(AA (BC [EN a,Lib.itoa k])).size≤1000:=by
 rw[J3];have h1:=LO ha;have h2:=eE hk;rw[J3] at h1 h2;have h3:=Is ha;have h4:=Oo hk;simp[BC];omega
theorem eJ (d:Int) (a:Ag) (hd:Jv d) (ha:Ez a) (w:World) (h:OO w):Calls Tryz.prog 274 #[.agg #[.int .i64 d,.bool a.BF,.int .i64 a.v]] w (IM (.string (AA (GI.Ae (.J9 d a)))) w):=by
 have H:=hid h;clear h;go_enter Tryz.func274,Tryz.ntmps274;go_upto_region 1 with fail
 have hm:Av [] (w.alloc (.cells #[.int .i64 d,.bool a.BF,.int .i64 a.v] 316)) (w.alloc (.cells #[.int .i64 d,.bool a.BF,.int .i64 a.v] 316)).drew:=(Av.refl _ _).drew;refine Ao (l:=[(0,true),(1,true),(3,true),(4,true),(2,false),(5,false),(6,false),(7,false),(8,false)]) (fun W=>∀i:Nat,W.cell? ⟨w.heap.size,i,none⟩=(#[.int .i64 d,.bool a.BF,.int .i64 a.v]:Array Value)[i]?) 8 (by kernel_rfl) (by kernel_rfl) (by kernel_rfl) (by kernel_rfl) (by kernel_rfl) (fun c a d v w h=>by cases d <;>exact h) ?_ ?_
 ·exact(B6 hm).cell (List.mem_singleton.2 rfl)
 repeat
  refine Ak (v:= ?_) rfl rfl rfl (fun W hW=> ?_) ?_;rotate_left
  ·go_simp;rfl
  simp only[Bo]
 refine Ab rfl (fun K hK=> ?_);go_simp;refine(Od d (Mv hd) _ (H.out.quiet (((Av.refl _ _).alloc _).Ac hm))).mono ?_;rintro e w1 ⟨rfl,C9⟩;replace hm:=hm.Ac C9;clear C9;refine hK _ _ (fun _=>(B6 hm).cell (List.mem_singleton.2 rfl)) ?_;clear hK;repeat
  refine Ak (v:= ?_) rfl rfl rfl (fun W hW=> ?_) ?_;rotate_left
  ·go_simp;rfl
  simp only[Bo]
 refine Ab rfl (fun K hK=> ?_);go_simp;refine(Gf a ha _ (H.out.quiet (((Av.refl _ _).alloc _).Ac hm))).mono ?_;rintro e w2 ⟨rfl,CY⟩;replace hm:=hm.Ac CY;clear CY;refine hK _ _ (fun _=>(B6 hm).cell (List.mem_singleton.2 rfl)) ?_;clear hK;repeat
  refine Ak (v:= ?_) rfl rfl rfl (fun W hW=> ?_) ?_;rotate_left
  ·go_simp;rfl
  simp only[Bo]
 refine Ab rfl (fun K hK=> ?_);go_simp;refine hK _ _ (fun _=>(B6 (hm.alloc _)).cell (List.mem_singleton.2 rfl)) ?_;clear hK;repeat
  refine Ak (v:= ?_) rfl rfl rfl (fun W hW=> ?_) ?_;rotate_left
  ·go_simp;rfl
  simp only[Bo]
 refine Ab rfl (fun K hK=> ?_);go_simp;refine(EF [⟨#[109,111,118]⟩,AA (FE d),AA (EN a)] _ (fun _=>True) _ (Sl.new (AY [⟨#[109,111,118]⟩,AA (FE d),AA (EN a)]) 9 3 rfl (by omega) _ trivial) (by simp) (by simp only[List.mem_cons,List.not_mem_nil,or_false,forall_eq_or_imp,forall_eq];exact⟨by decide,Wh hd,LO ha⟩)).mono ?_;rintro e wz ⟨rfl,M9⟩;replace hm:=(hm.alloc (.cells (AY [⟨#[109,111,118]⟩,AA (FE d),AA (EN a)]).toArray 9)).Ac M9;clear M9;refine hK _ _ (fun _=>(B6 hm).cell (List.mem_singleton.2 rfl)) ?_;clear hK;refine Ab rfl (fun K hK=> ?_);go_simp;refine hK _ _ (fun h=>absurd rfl h) ?_;clear hK;simp only[A0];go_wp2;go_ret;refine⟨?_,((Av.refl _ _).alloc _).Ac hm⟩;refine congrArg (fun z=>Ending.returned (.string (AA z))) ?_;simp[BC,GI.Ae,GI.ws,Cs,bs]
theorem ku (n:ByteArray) (d:Int) (a b:Ag) (hn:n.size≤1000) (hd:Jv d) (ha:Ez a) (hb:Ez b) (w:World) (h:OO w):Calls Tryz.prog 259 #[.agg #[.string n,.int .i64 d,.bool a.BF,.int .i64 a.v,.bool b.BF,.int .i64 b.v]] w (IM (.string (AA (GI.Ae (.op n d a b)))) w):=by
 have H:=hid h;clear h;go_enter Tryz.func259,Tryz.ntmps259;go_upto_region 1 with fail
 have hm:Av [] (w.alloc (.cells #[.string n,.int .i64 d,.bool a.BF,.int .i64 a.v,.bool b.BF,.int .i64 b.v] 290)) (w.alloc (.cells #[.string n,.int .i64 d,.bool a.BF,.int .i64 a.v,.bool b.BF,.int .i64 b.v] 290)).drew:=(Av.refl _ _).drew;refine Ao (l:=[(0,true),(1,true),(2,true),(3,true),(5,true),(6,true),(8,true),(9,true),(4,false),(7,false),(10,false),(11,false),(12,false),(13,false)]) (fun W=>∀i:Nat,W.cell? ⟨w.heap.size,i,none⟩=(#[.string n,.int .i64 d,.bool a.BF,.int .i64 a.v,.bool b.BF,.int .i64 b.v]:Array Value)[i]?) 13 (by kernel_rfl) (by kernel_rfl) (by kernel_rfl) (by kernel_rfl) (by kernel_rfl) (fun c a d v w h=>by cases d <;>exact h) ?_ ?_
 ·exact(B6 hm).cell (List.mem_singleton.2 rfl)
 repeat
  refine Ak (v:= ?_) rfl rfl rfl (fun W hW=> ?_) ?_;rotate_left
  ·go_simp;rfl
  simp only[Bo]
 refine Ab rfl (fun K hK=> ?_);go_simp;refine(Od d (Mv hd) _ (H.out.quiet (((Av.refl _ _).alloc _).Ac hm))).mono ?_;rintro e w1 ⟨rfl,C9⟩;replace hm:=hm.Ac C9;clear C9;refine hK _ _ (fun _=>(B6 hm).cell (List.mem_singleton.2 rfl)) ?_;clear hK;repeat
  refine Ak (v:= ?_) rfl rfl rfl (fun W hW=> ?_) ?_;rotate_left
  ·go_simp;rfl
  simp only[Bo]
 refine Ab rfl (fun K hK=> ?_);go_simp;refine(Gf a ha _ (H.out.quiet (((Av.refl _ _).alloc _).Ac hm))).mono ?_;rintro e w2 ⟨rfl,CY⟩;replace hm:=hm.Ac CY;clear CY;refine hK _ _ (fun _=>(B6 hm).cell (List.mem_singleton.2 rfl)) ?_;clear hK;repeat
  refine Ak (v:= ?_) rfl rfl rfl (fun W hW=> ?_) ?_;rotate_left
  ·go_simp;rfl
  simp only[Bo]
 refine Ab rfl (fun K hK=> ?_);go_simp;refine(Gf b hb _ (H.out.quiet (((Av.refl _ _).alloc _).Ac hm))).mono ?_;rintro e w3 ⟨rfl,O9⟩;replace hm:=hm.Ac O9;clear O9;refine hK _ _ (fun _=>(B6 hm).cell (List.mem_singleton.2 rfl)) ?_;clear hK;repeat
  refine Ak (v:= ?_) rfl rfl rfl (fun W hW=> ?_) ?_;rotate_left
  ·go_simp;rfl
  simp only[Bo]
 refine Ab rfl (fun K hK=> ?_);go_simp;refine hK _ _ (fun _=>(B6 (hm.alloc _)).cell (List.mem_singleton.2 rfl)) ?_;clear hK;repeat
  refine Ak (v:= ?_) rfl rfl rfl (fun W hW=> ?_) ?_;rotate_left
  ·go_simp;rfl
  simp only[Bo]
 refine Ab rfl (fun K hK=> ?_);go_simp;refine(EF [n,AA (FE d),AA (EN a),AA (EN b)] _ (fun _=>True) _ (Sl.new (AY [n,AA (FE d),AA (EN a),AA (EN b)]) 9 4 rfl (by omega) _ trivial) (by simp) (by simp only[List.mem_cons,List.not_mem_nil,or_false,forall_eq_or_imp,forall_eq];exact⟨hn,Wh hd,LO ha,LO hb⟩)).mono ?_;rintro e wz ⟨rfl,M9⟩;replace hm:=(hm.alloc (.cells (AY [n,AA (FE d),AA (EN a),AA (EN b)]).toArray 9)).Ac M9;clear M9;refine hK _ _ (fun _=>(B6 hm).cell (List.mem_singleton.2 rfl)) ?_;clear hK;refine Ab rfl (fun K hK=> ?_);go_simp;refine hK _ _ (fun h=>absurd rfl h) ?_;clear hK;simp only[A0];go_wp2;go_ret;refine⟨?_,((Av.refl _ _).alloc _).Ac hm⟩;refine congrArg (fun z=>Ending.returned (.string (AA z))) ?_;simp[BC,GI.Ae,GI.ws,Cs,bs]
theorem bt (d:Int) (a:Ag) (k:Int) (hd:Jv d) (ha:Ez a) (hk:i64 k) (w:World) (h:OO w):Calls Tryz.prog 266 #[.agg #[.int .i64 d,.bool a.BF,.int .i64 a.v,.int .i64 k]] w (IM (.string (AA (GI.Ae (.load d a k)))) w):=by
 have H:=hid h;clear h;go_enter Tryz.func266,Tryz.ntmps266;go_upto_region 1 with fail
 have hm:Av [] (w.alloc (.cells #[.int .i64 d,.bool a.BF,.int .i64 a.v,.int .i64 k] 297)) (w.alloc (.cells #[.int .i64 d,.bool a.BF,.int .i64 a.v,.int .i64 k] 297)).drew:=(Av.refl _ _).drew;refine Ao (l:=[(0,true),(1,true),(3,true),(4,true),(2,false),(5,false),(6,false),(7,false),(8,false)]) (fun W=>∀i:Nat,W.cell? ⟨w.heap.size,i,none⟩=(#[.int .i64 d,.bool a.BF,.int .i64 a.v,.int .i64 k]:Array Value)[i]?) 8 (by kernel_rfl) (by kernel_rfl) (by kernel_rfl) (by kernel_rfl) (by kernel_rfl) (fun c a d v w h=>by cases d <;>exact h) ?_ ?_
 ·exact(B6 hm).cell (List.mem_singleton.2 rfl)
 repeat
  refine Ak (v:= ?_) rfl rfl rfl (fun W hW=> ?_) ?_;rotate_left
  ·go_simp;rfl
  simp only[Bo]
 refine Ab rfl (fun K hK=> ?_);go_simp;refine(Od d (Mv hd) _ (H.out.quiet (((Av.refl _ _).alloc _).Ac hm))).mono ?_;rintro e w1 ⟨rfl,C9⟩;replace hm:=hm.Ac C9;clear C9;refine hK _ _ (fun _=>(B6 hm).cell (List.mem_singleton.2 rfl)) ?_;clear hK;repeat
  refine Ak (v:= ?_) rfl rfl rfl (fun W hW=> ?_) ?_;rotate_left
  ·go_simp;rfl
  simp only[Bo]
 refine Ab rfl (fun K hK=> ?_);go_simp;refine(Lf a k ha hk _ (H.out.quiet (((Av.refl _ _).alloc _).Ac hm))).mono ?_;rintro e w2 ⟨rfl,CY⟩;replace hm:=hm.Ac CY;clear CY;refine hK _ _ (fun _=>(B6 hm).cell (List.mem_singleton.2 rfl)) ?_;clear hK;repeat
  refine Ak (v:= ?_) rfl rfl rfl (fun W hW=> ?_) ?_;rotate_left
  ·go_simp;rfl
  simp only[Bo]
 refine Ab rfl (fun K hK=> ?_);go_simp;refine hK _ _ (fun _=>(B6 (hm.alloc _)).cell (List.mem_singleton.2 rfl)) ?_;clear hK;repeat
  refine Ak (v:= ?_) rfl rfl rfl (fun W hW=> ?_) ?_;rotate_left
  ·go_simp;rfl
  simp only[Bo]
 refine Ab rfl (fun K hK=> ?_);go_simp;refine(EF [⟨#[108,111,97,100]⟩,AA (FE d),AA (BC [EN a,Lib.itoa k])] _ (fun _=>True) _ (Sl.new (AY [⟨#[108,111,97,100]⟩,AA (FE d),AA (BC [EN a,Lib.itoa k])]) 9 3 rfl (by omega) _ trivial) (by simp) (by simp only[List.mem_cons,List.not_mem_nil,or_false,forall_eq_or_imp,forall_eq];exact⟨by decide,Wh hd,ZS ha hk⟩)).mono ?_;rintro e wz ⟨rfl,M9⟩;replace hm:=(hm.alloc (.cells (AY [⟨#[108,111,97,100]⟩,AA (FE d),AA (BC [EN a,Lib.itoa k])]).toArray 9)).Ac M9;clear M9;refine hK _ _ (fun _=>(B6 hm).cell (List.mem_singleton.2 rfl)) ?_;clear hK;refine Ab rfl (fun K hK=> ?_);go_simp;refine hK _ _ (fun h=>absurd rfl h) ?_;clear hK;simp only[A0];go_wp2;go_ret;refine⟨?_,((Av.refl _ _).alloc _).Ac hm⟩;refine congrArg (fun z=>Ending.returned (.string (AA z))) ?_;simp[BC,GI.Ae,GI.ws,Cs,bs]
theorem Ym (a:Ag) (k:Int) (b:Ag) (ha:Ez a) (hk:i64 k) (hb:Ez b) (w:World) (h:OO w):Calls Tryz.prog 262 #[.agg #[.bool a.BF,.int .i64 a.v,.int .i64 k,.bool b.BF,.int .i64 b.v]] w (IM (.string (AA (GI.Ae (.store a k b)))) w):=by
 have H:=hid h;clear h;go_enter Tryz.func262,Tryz.ntmps262;go_upto_region 1 with fail
 have hm:Av [] (w.alloc (.cells #[.bool a.BF,.int .i64 a.v,.int .i64 k,.bool b.BF,.int .i64 b.v] 292)) (w.alloc (.cells #[.bool a.BF,.int .i64 a.v,.int .i64 k,.bool b.BF,.int .i64 b.v] 292)).drew:=(Av.refl _ _).drew;refine Ao (l:=[(0,true),(1,true),(3,true),(4,true),(2,false),(5,false),(6,false),(7,false),(8,false)]) (fun W=>∀i:Nat,W.cell? ⟨w.heap.size,i,none⟩=(#[.bool a.BF,.int .i64 a.v,.int .i64 k,.bool b.BF,.int .i64 b.v]:Array Value)[i]?) 8 (by kernel_rfl) (by kernel_rfl) (by kernel_rfl) (by kernel_rfl) (by kernel_rfl) (fun c a d v w h=>by cases d <;>exact h) ?_ ?_
 ·exact(B6 hm).cell (List.mem_singleton.2 rfl)
 repeat
  refine Ak (v:= ?_) rfl rfl rfl (fun W hW=> ?_) ?_;rotate_left
  ·go_simp;rfl
  simp only[Bo]
 refine Ab rfl (fun K hK=> ?_);go_simp;refine(Lf a k ha hk _ (H.out.quiet (((Av.refl _ _).alloc _).Ac hm))).mono ?_;rintro e w1 ⟨rfl,C9⟩;replace hm:=hm.Ac C9;clear C9;refine hK _ _ (fun _=>(B6 hm).cell (List.mem_singleton.2 rfl)) ?_;clear hK;repeat
  refine Ak (v:= ?_) rfl rfl rfl (fun W hW=> ?_) ?_;rotate_left
  ·go_simp;rfl
  simp only[Bo]
 refine Ab rfl (fun K hK=> ?_);go_simp;refine(Gf b hb _ (H.out.quiet (((Av.refl _ _).alloc _).Ac hm))).mono ?_;rintro e w2 ⟨rfl,CY⟩;replace hm:=hm.Ac CY;clear CY;refine hK _ _ (fun _=>(B6 hm).cell (List.mem_singleton.2 rfl)) ?_;clear hK;repeat
  refine Ak (v:= ?_) rfl rfl rfl (fun W hW=> ?_) ?_;rotate_left
  ·go_simp;rfl
  simp only[Bo]
 refine Ab rfl (fun K hK=> ?_);go_simp;refine hK _ _ (fun _=>(B6 (hm.alloc _)).cell (List.mem_singleton.2 rfl)) ?_;clear hK;repeat
  refine Ak (v:= ?_) rfl rfl rfl (fun W hW=> ?_) ?_;rotate_left
  ·go_simp;rfl
  simp only[Bo]
 refine Ab rfl (fun K hK=> ?_);go_simp;refine(EF [⟨#[115,116,111,114,101]⟩,AA (BC [EN a,Lib.itoa k]),AA (EN b)] _ (fun _=>True) _ (Sl.new (AY [⟨#[115,116,111,114,101]⟩,AA (BC [EN a,Lib.itoa k]),AA (EN b)]) 9 3 rfl (by omega) _ trivial) (by simp) (by simp only[List.mem_cons,List.not_mem_nil,or_false,forall_eq_or_imp,forall_eq];exact⟨by decide,ZS ha hk,LO hb⟩)).mono ?_;rintro e wz ⟨rfl,M9⟩;replace hm:=(hm.alloc (.cells (AY [⟨#[115,116,111,114,101]⟩,AA (BC [EN a,Lib.itoa k]),AA (EN b)]).toArray 9)).Ac M9;clear M9;refine hK _ _ (fun _=>(B6 hm).cell (List.mem_singleton.2 rfl)) ?_;clear hK;refine Ab rfl (fun K hK=> ?_);go_simp;refine hK _ _ (fun h=>absurd rfl h) ?_;clear hK;simp only[A0];go_wp2;go_ret;refine⟨?_,((Av.refl _ _).alloc _).Ac hm⟩;refine congrArg (fun z=>Ending.returned (.string (AA z))) ?_;simp[BC,GI.Ae,GI.ws,Cs,bs]
theorem eR (d:Int) (a:Ag) (k:Int) (b c:Ag) (hd:Jv d) (ha:Ez a) (hk:i64 k) (hb:Ez b) (hc:Ez c) (w:World) (h:OO w):Calls Tryz.prog 270 #[.agg #[.int .i64 d,.bool a.BF,.int .i64 a.v,.int .i64 k,.bool b.BF,.int .i64 b.v,.bool c.BF,.int .i64 c.v]] w (IM (.string (AA (GI.Ae (.LL d a k b c)))) w):=by
 have H:=hid h;clear h;go_enter Tryz.func270,Tryz.ntmps270;go_upto_region 1 with fail
 have hm:Av [] (w.alloc (.cells #[.int .i64 d,.bool a.BF,.int .i64 a.v,.int .i64 k,.bool b.BF,.int .i64 b.v,.bool c.BF,.int .i64 c.v] 312)) (w.alloc (.cells #[.int .i64 d,.bool a.BF,.int .i64 a.v,.int .i64 k,.bool b.BF,.int .i64 b.v,.bool c.BF,.int .i64 c.v] 312)).drew:=(Av.refl _ _).drew;refine Ao (l:=[(0,true),(1,true),(3,true),(4,true),(6,true),(7,true),(9,true),(10,true),(2,false),(5,false),(8,false),(11,false),(12,false),(13,false),(14,false)]) (fun W=>∀i:Nat,W.cell? ⟨w.heap.size,i,none⟩=(#[.int .i64 d,.bool a.BF,.int .i64 a.v,.int .i64 k,.bool b.BF,.int .i64 b.v,.bool c.BF,.int .i64 c.v]:Array Value)[i]?) 14 (by kernel_rfl) (by kernel_rfl) (by kernel_rfl) (by kernel_rfl) (by kernel_rfl) (fun c a d v w h=>by cases d <;>exact h) ?_ ?_
 ·exact(B6 hm).cell (List.mem_singleton.2 rfl)
 repeat
  refine Ak (v:= ?_) rfl rfl rfl (fun W hW=> ?_) ?_;rotate_left
  ·go_simp;rfl
  simp only[Bo]
 refine Ab rfl (fun K hK=> ?_);go_simp;refine(Od d (Mv hd) _ (H.out.quiet (((Av.refl _ _).alloc _).Ac hm))).mono ?_;rintro e w1 ⟨rfl,C9⟩;replace hm:=hm.Ac C9;clear C9;refine hK _ _ (fun _=>(B6 hm).cell (List.mem_singleton.2 rfl)) ?_;clear hK;repeat
  refine Ak (v:= ?_) rfl rfl rfl (fun W hW=> ?_) ?_;rotate_left
  ·go_simp;rfl
  simp only[Bo]
 refine Ab rfl (fun K hK=> ?_);go_simp;refine(Lf a k ha hk _ (H.out.quiet (((Av.refl _ _).alloc _).Ac hm))).mono ?_;rintro e w2 ⟨rfl,CY⟩;replace hm:=hm.Ac CY;clear CY;refine hK _ _ (fun _=>(B6 hm).cell (List.mem_singleton.2 rfl)) ?_;clear hK;repeat
  refine Ak (v:= ?_) rfl rfl rfl (fun W hW=> ?_) ?_;rotate_left
  ·go_simp;rfl
  simp only[Bo]
 refine Ab rfl (fun K hK=> ?_);go_simp;refine(Gf b hb _ (H.out.quiet (((Av.refl _ _).alloc _).Ac hm))).mono ?_;rintro e w3 ⟨rfl,O9⟩;replace hm:=hm.Ac O9;clear O9;refine hK _ _ (fun _=>(B6 hm).cell (List.mem_singleton.2 rfl)) ?_;clear hK;repeat
  refine Ak (v:= ?_) rfl rfl rfl (fun W hW=> ?_) ?_;rotate_left
  ·go_simp;rfl
  simp only[Bo]
 refine Ab rfl (fun K hK=> ?_);go_simp;refine(Gf c hc _ (H.out.quiet (((Av.refl _ _).alloc _).Ac hm))).mono ?_;rintro e w4 ⟨rfl,XW⟩;replace hm:=hm.Ac XW;clear XW;refine hK _ _ (fun _=>(B6 hm).cell (List.mem_singleton.2 rfl)) ?_;clear hK;repeat
  refine Ak (v:= ?_) rfl rfl rfl (fun W hW=> ?_) ?_;rotate_left
  ·go_simp;rfl
  simp only[Bo]
 refine Ab rfl (fun K hK=> ?_);go_simp;refine hK _ _ (fun _=>(B6 (hm.alloc _)).cell (List.mem_singleton.2 rfl)) ?_;clear hK;repeat
  refine Ak (v:= ?_) rfl rfl rfl (fun W hW=> ?_) ?_;rotate_left
  ·go_simp;rfl
  simp only[Bo]
 refine Ab rfl (fun K hK=> ?_);go_simp;refine(EF [⟨#[99,97,115]⟩,AA (FE d),AA (BC [EN a,Lib.itoa k]),AA (EN b),AA (EN c)] _ (fun _=>True) _ (Sl.new (AY [⟨#[99,97,115]⟩,AA (FE d),AA (BC [EN a,Lib.itoa k]),AA (EN b),AA (EN c)]) 9 5 rfl (by omega) _ trivial) (by simp) (by simp only[List.mem_cons,List.not_mem_nil,or_false,forall_eq_or_imp,forall_eq];exact⟨by decide,Wh hd,ZS ha hk,LO hb,LO hc⟩)).mono ?_;rintro e wz ⟨rfl,M9⟩;replace hm:=(hm.alloc (.cells (AY [⟨#[99,97,115]⟩,AA (FE d),AA (BC [EN a,Lib.itoa k]),AA (EN b),AA (EN c)]).toArray 9)).Ac M9;clear M9;refine hK _ _ (fun _=>(B6 hm).cell (List.mem_singleton.2 rfl)) ?_;clear hK;refine Ab rfl (fun K hK=> ?_);go_simp;refine hK _ _ (fun h=>absurd rfl h) ?_;clear hK;simp only[A0];go_wp2;go_ret;refine⟨?_,((Av.refl _ _).alloc _).Ac hm⟩;refine congrArg (fun z=>Ending.returned (.string (AA z))) ?_;simp[BC,GI.Ae,GI.ws,Cs,bs]
theorem bh (d:Int) (a:Ag) (k:Int) (b:Ag) (hd:Jv d) (ha:Ez a) (hk:i64 k) (hb:Ez b) (w:World) (h:OO w):Calls Tryz.prog 272 #[.agg #[.int .i64 d,.bool a.BF,.int .i64 a.v,.int .i64 k,.bool b.BF,.int .i64 b.v]] w (IM (.string (AA (GI.Ae (.GL d a k b)))) w):=by
 have H:=hid h;clear h;go_enter Tryz.func272,Tryz.ntmps272;go_upto_region 1 with fail
 have hm:Av [] (w.alloc (.cells #[.int .i64 d,.bool a.BF,.int .i64 a.v,.int .i64 k,.bool b.BF,.int .i64 b.v] 314)) (w.alloc (.cells #[.int .i64 d,.bool a.BF,.int .i64 a.v,.int .i64 k,.bool b.BF,.int .i64 b.v] 314)).drew:=(Av.refl _ _).drew;refine Ao (l:=[(0,true),(1,true),(3,true),(4,true),(6,true),(7,true),(2,false),(5,false),(8,false),(9,false),(10,false),(11,false)]) (fun W=>∀i:Nat,W.cell? ⟨w.heap.size,i,none⟩=(#[.int .i64 d,.bool a.BF,.int .i64 a.v,.int .i64 k,.bool b.BF,.int .i64 b.v]:Array Value)[i]?) 11 (by kernel_rfl) (by kernel_rfl) (by kernel_rfl) (by kernel_rfl) (by kernel_rfl) (fun c a d v w h=>by cases d <;>exact h) ?_ ?_
 ·exact(B6 hm).cell (List.mem_singleton.2 rfl)
 repeat
  refine Ak (v:= ?_) rfl rfl rfl (fun W hW=> ?_) ?_;rotate_left
  ·go_simp;rfl
  simp only[Bo]
 refine Ab rfl (fun K hK=> ?_);go_simp;refine(Od d (Mv hd) _ (H.out.quiet (((Av.refl _ _).alloc _).Ac hm))).mono ?_;rintro e w1 ⟨rfl,C9⟩;replace hm:=hm.Ac C9;clear C9;refine hK _ _ (fun _=>(B6 hm).cell (List.mem_singleton.2 rfl)) ?_;clear hK;repeat
  refine Ak (v:= ?_) rfl rfl rfl (fun W hW=> ?_) ?_;rotate_left
  ·go_simp;rfl
  simp only[Bo]
 refine Ab rfl (fun K hK=> ?_);go_simp;refine(Lf a k ha hk _ (H.out.quiet (((Av.refl _ _).alloc _).Ac hm))).mono ?_;rintro e w2 ⟨rfl,CY⟩;replace hm:=hm.Ac CY;clear CY;refine hK _ _ (fun _=>(B6 hm).cell (List.mem_singleton.2 rfl)) ?_;clear hK;repeat
  refine Ak (v:= ?_) rfl rfl rfl (fun W hW=> ?_) ?_;rotate_left
  ·go_simp;rfl
  simp only[Bo]
 refine Ab rfl (fun K hK=> ?_);go_simp;refine(Gf b hb _ (H.out.quiet (((Av.refl _ _).alloc _).Ac hm))).mono ?_;rintro e w3 ⟨rfl,O9⟩;replace hm:=hm.Ac O9;clear O9;refine hK _ _ (fun _=>(B6 hm).cell (List.mem_singleton.2 rfl)) ?_;clear hK;repeat
  refine Ak (v:= ?_) rfl rfl rfl (fun W hW=> ?_) ?_;rotate_left
  ·go_simp;rfl
  simp only[Bo]
 refine Ab rfl (fun K hK=> ?_);go_simp;refine hK _ _ (fun _=>(B6 (hm.alloc _)).cell (List.mem_singleton.2 rfl)) ?_;clear hK;repeat
  refine Ak (v:= ?_) rfl rfl rfl (fun W hW=> ?_) ?_;rotate_left
  ·go_simp;rfl
  simp only[Bo]
 refine Ab rfl (fun K hK=> ?_);go_simp;refine(EF [⟨#[120,97,100,100]⟩,AA (FE d),AA (BC [EN a,Lib.itoa k]),AA (EN b)] _ (fun _=>True) _ (Sl.new (AY [⟨#[120,97,100,100]⟩,AA (FE d),AA (BC [EN a,Lib.itoa k]),AA (EN b)]) 9 4 rfl (by omega) _ trivial) (by simp) (by simp only[List.mem_cons,List.not_mem_nil,or_false,forall_eq_or_imp,forall_eq];exact⟨by decide,Wh hd,ZS ha hk,LO hb⟩)).mono ?_;rintro e wz ⟨rfl,M9⟩;replace hm:=(hm.alloc (.cells (AY [⟨#[120,97,100,100]⟩,AA (FE d),AA (BC [EN a,Lib.itoa k]),AA (EN b)]).toArray 9)).Ac M9;clear M9;refine hK _ _ (fun _=>(B6 hm).cell (List.mem_singleton.2 rfl)) ?_;clear hK;refine Ab rfl (fun K hK=> ?_);go_simp;refine hK _ _ (fun h=>absurd rfl h) ?_;clear hK;simp only[A0];go_wp2;go_ret;refine⟨?_,((Av.refl _ _).alloc _).Ac hm⟩;refine congrArg (fun z=>Ending.returned (.string (AA z))) ?_;simp[BC,GI.Ae,GI.ws,Cs,bs]
theorem eI (a:Ag) (ha:Ez a) (w:World) (h:OO w):Calls Tryz.prog 255 #[.agg #[.bool a.BF,.int .i64 a.v]] w (IM (.string (AA (GI.Ae (.out a)))) w):=by
 have H:=hid h;clear h;go_enter Tryz.func255,Tryz.ntmps255;go_wp2_with fail;refine(Gf a ha _ (H.out.quiet ((Av.refl _ _).alloc _))).mono ?_;rintro e w1 ⟨rfl,hm⟩;have kc:=(B6 hm).cell (List.mem_singleton.2 rfl);have kl:=(B6 hm).lt (List.mem_singleton.2 rfl);go_wp2_with fail;refine(EF [⟨#[111,117,116]⟩,AA (EN a)] _ (fun _=>True) _ (Sl.new (AY [⟨#[111,117,116]⟩,AA (EN a)]) 9 2 rfl (by omega) _ trivial) (by simp) (by simp only[List.mem_cons,List.not_mem_nil,or_false,forall_eq_or_imp,forall_eq];exact⟨by decide,LO ha⟩)).mono ?_;rintro e wz ⟨rfl,M9⟩;replace hm:=(hm.alloc (.cells (AY [⟨#[111,117,116]⟩,AA (EN a)]).toArray 9)).Ac M9;clear M9 kc kl;go_wp2;go_ret;refine⟨?_,((Av.refl _ _).alloc _).Ac hm⟩;refine congrArg (fun z=>Ending.returned (.string (AA z))) ?_;simp[BC,GI.Ae,GI.ws,Cs,bs]
theorem eK (k:Int) (hk:i64 k) (w:World) (h:OO w):Calls Tryz.prog 257 #[.agg #[.int .i64 k]] w (IM (.string (AA (GI.Ae (.Ga k)))) w):=by
 have H:=hid h;clear h;go_enter Tryz.func257,Tryz.ntmps257;go_wp2_with fail;refine(MF k hk _ (H.out.quiet ((Av.refl _ _).alloc _))).mono ?_;rintro e w1 ⟨rfl,hm⟩;have kc:=(B6 hm).cell (List.mem_singleton.2 rfl);have kl:=(B6 hm).lt (List.mem_singleton.2 rfl);go_wp2_with fail;refine(EF [⟨#[106,109,112]⟩,AA (Lib.itoa k)] _ (fun _=>True) _ (Sl.new (AY [⟨#[106,109,112]⟩,AA (Lib.itoa k)]) 9 2 rfl (by omega) _ trivial) (by simp) (by simp only[List.mem_cons,List.not_mem_nil,or_false,forall_eq_or_imp,forall_eq];exact⟨by decide,eE hk⟩)).mono ?_;rintro e wz ⟨rfl,M9⟩;replace hm:=(hm.alloc (.cells (AY [⟨#[106,109,112]⟩,AA (Lib.itoa k)]).toArray 9)).Ac M9;clear M9 kc kl;go_wp2;go_ret;refine⟨?_,((Av.refl _ _).alloc _).Ac hm⟩;refine congrArg (fun z=>Ending.returned (.string (AA z))) ?_;simp[BC,GI.Ae,GI.ws,Cs,bs]
theorem kx (a:Ag) (k:Int) (ha:Ez a) (hk:i64 k) (w:World) (h:OO w):Calls Tryz.prog 268 #[.agg #[.bool a.BF,.int .i64 a.v,.int .i64 k]] w (IM (.string (AA (GI.Ae (.jz a k)))) w):=by
 have H:=hid h;clear h;go_enter Tryz.func268,Tryz.ntmps268;go_upto_region 1 with fail
 have hm:Av [] (w.alloc (.cells #[.bool a.BF,.int .i64 a.v,.int .i64 k] 299)) (w.alloc (.cells #[.bool a.BF,.int .i64 a.v,.int .i64 k] 299)).drew:=(Av.refl _ _).drew;refine Ao (l:=[(0,true),(1,true),(3,true),(4,true),(5,true),(2,false),(6,false),(7,false),(8,false),(9,false)]) (fun W=>∀i:Nat,W.cell? ⟨w.heap.size,i,none⟩=(#[.bool a.BF,.int .i64 a.v,.int .i64 k]:Array Value)[i]?) 9 (by kernel_rfl) (by kernel_rfl) (by kernel_rfl) (by kernel_rfl) (by kernel_rfl) (fun c a d v w h=>by cases d <;>exact h) ?_ ?_
 ·exact(B6 hm).cell (List.mem_singleton.2 rfl)
 repeat
  refine Ak (v:= ?_) rfl rfl rfl (fun W hW=> ?_) ?_;rotate_left
  ·go_simp;rfl
  simp only[Bo]
 refine Ab rfl (fun K hK=> ?_);go_simp;refine(Gf a ha _ (H.out.quiet (((Av.refl _ _).alloc _).Ac hm))).mono ?_;rintro e w1 ⟨rfl,C9⟩;replace hm:=hm.Ac C9;clear C9;refine hK _ _ (fun _=>(B6 hm).cell (List.mem_singleton.2 rfl)) ?_;clear hK;repeat
  refine Ak (v:= ?_) rfl rfl rfl (fun W hW=> ?_) ?_;rotate_left
  ·go_simp;rfl
  simp only[Bo]
 refine Ab rfl (fun K hK=> ?_);go_simp;refine(MF k hk _ (H.out.quiet (((Av.refl _ _).alloc _).Ac hm))).mono ?_;rintro e w2 ⟨rfl,CY⟩;replace hm:=hm.Ac CY;clear CY;refine hK _ _ (fun _=>(B6 hm).cell (List.mem_singleton.2 rfl)) ?_;clear hK;repeat
  refine Ak (v:= ?_) rfl rfl rfl (fun W hW=> ?_) ?_;rotate_left
  ·go_simp;rfl
  simp only[Bo]
 refine Ab rfl (fun K hK=> ?_);go_simp;refine hK _ _ (fun _=>(B6 (hm.alloc _)).cell (List.mem_singleton.2 rfl)) ?_;clear hK;repeat
  refine Ak (v:= ?_) rfl rfl rfl (fun W hW=> ?_) ?_;rotate_left
  ·go_simp;rfl
  simp only[Bo]
 refine Ab rfl (fun K hK=> ?_);go_simp;refine(EF [⟨#[106,122]⟩,AA (EN a),AA (Lib.itoa k)] _ (fun _=>True) _ (Sl.new (AY [⟨#[106,122]⟩,AA (EN a),AA (Lib.itoa k)]) 9 3 rfl (by omega) _ trivial) (by simp) (by simp only[List.mem_cons,List.not_mem_nil,or_false,forall_eq_or_imp,forall_eq];exact⟨by decide,LO ha,eE hk⟩)).mono ?_;rintro e wz ⟨rfl,M9⟩;replace hm:=(hm.alloc (.cells (AY [⟨#[106,122]⟩,AA (EN a),AA (Lib.itoa k)]).toArray 9)).Ac M9;clear M9;refine hK _ _ (fun _=>(B6 hm).cell (List.mem_singleton.2 rfl)) ?_;clear hK;refine Ab rfl (fun K hK=> ?_);go_simp;refine hK _ _ (fun h=>absurd rfl h) ?_;clear hK;simp only[A0];go_wp2;go_ret;refine⟨?_,((Av.refl _ _).alloc _).Ac hm⟩;refine congrArg (fun z=>Ending.returned (.string (AA z))) ?_;simp[BC,GI.Ae,GI.ws,Cs,bs]
theorem bj (k:Int) (hk:i64 k) (w:World) (h:OO w):Calls Tryz.prog 264 #[.agg #[.int .i64 k]] w (IM (.string (AA (GI.Ae (.Eu k)))) w):=by
 have H:=hid h;clear h;go_enter Tryz.func264,Tryz.ntmps264;go_wp2_with fail;refine(MF k hk _ (H.out.quiet ((Av.refl _ _).alloc _))).mono ?_;rintro e w1 ⟨rfl,hm⟩;have kc:=(B6 hm).cell (List.mem_singleton.2 rfl);have kl:=(B6 hm).lt (List.mem_singleton.2 rfl);go_wp2_with fail;refine(EF [⟨#[116,114,97,112]⟩,AA (Lib.itoa k)] _ (fun _=>True) _ (Sl.new (AY [⟨#[116,114,97,112]⟩,AA (Lib.itoa k)]) 9 2 rfl (by omega) _ trivial) (by simp) (by simp only[List.mem_cons,List.not_mem_nil,or_false,forall_eq_or_imp,forall_eq];exact⟨by decide,eE hk⟩)).mono ?_;rintro e wz ⟨rfl,M9⟩;replace hm:=(hm.alloc (.cells (AY [⟨#[116,114,97,112]⟩,AA (Lib.itoa k)]).toArray 9)).Ac M9;clear M9 kc kl;go_wp2;go_ret;refine⟨?_,((Av.refl _ _).alloc _).Ac hm⟩;refine congrArg (fun z=>Ending.returned (.string (AA z))) ?_;simp[BC,GI.Ae,GI.ws,Cs,bs]
end Go.Proofs.YtpdfifdlhpmofaaGreatDoor
