/-
  Part 36 of the proof.
-/
import Derived.Test.YtpdfifdlhpmofaaGreatDoorZ35
import Derived.Test.YtpdfifdlhpmofaaGreatDoorZ34
import Derived.Test.YtpdfifdlhpmofaaGreatDoorZ26
import Derived.Test.YtpdfifdlhpmofaaGreatDoorZ33
set_option linter.unusedVariables false
set_option linter.unusedSimpArgs false
set_option maxHeartbeats 3200000
set_option maxRecDepth 100000
namespace Go.Proofs.YtpdfifdlhpmofaaGreatDoor
open Go.RowKit Tryz
open Go.Lib (hid)
theorem mah {p:Prop} (h:p:=by
 rw[<-Lk];clear Lk;obtain⟨z1,Fo⟩:∃z,z=s1.size:=⟨_,rfl⟩;rw[<-Fo];clear Fo;have inc:True->wrap64 ((q:Int)+1)=q+1:=fun _=>JR q ct
 go_wp2;go_roundw;case rel=>exact⟨q+1,rfl,RQ,by rw[Xm.out];simpa only[PP] using Yi.out,Vo⟩
 case measure=>simp[intOf];omega):p:=h
theorem maI {p:Prop} (h:p:=by
 clear P4 kc kl;go_wp2;go_ret;refine⟨?_,((Av.refl _ _).alloc _).Ad hm⟩;refine Qao (fun z=>Ending.returned (.string (Ay z))) ?_;simp[BE,GI.Ae,GI.ws,Cw,bs]):p:=h
theorem maQ {p:Prop} (h:p:=by
 exact(Cf hm).cell (Z.2 rfl)):p:=h
theorem mbm {p:Prop} (h:p:=by
 go_wp2_with fail;refine HT.mono ?_;intro e w2 he;obtain⟨II,hm⟩:=he;subst II;have Ik:=hid (HM.Ad hm);clear hm;go_wp2;go_ret3;rw[HR.out];exact⟨Ik,rfl⟩):p:=h
variable {k v:Int} {a:Ag} {l:By} {w w' w0:World} {c:Int×Nat}
theorem O3 (h:Jp k):i64 k:=by unfold Jp at h;unfold i64;omega
theorem su (h:Ed a):i64 a.v:=by
 unfold Ed at h;split at h
 ·exact O3 h
 ·exact h
theorem Kd (l:By):(Ay l).size=l.length:=by simp[Ay,ByteArray.size]
theorem U3 (h:i64 v):(Ay (Lib.itoa v)).size<=21:=by rw[Kd];exact Lib.itoa_length_le v h.1 h.2
theorem qZ (h:i64 v):(Ay (Lib.itoa v)).size<=1000:=by have:=U3 h;omega
theorem N2 (h:Ed a):(Ay (Fk a)).size<=1000:=by rw[Kd];have:=Jr h;omega
theorem cI (h:Jp k):(Ay (Gj k)).size<=1000:=by rw[Kd,F5 h];omega
theorem vZ (a b:By):Ay a++Ay b=Ay (a++b):=by
 apply Nt;rw[Cw];simp[bs,Ay]
theorem Rp (k:Int) (hk:i64 k) (w:World) (h:Sv w):Calls prog 260 #[i5 k] w (JV (.string (Ay (Gj k))) w):=by
 have H:=hid h;have hk:=hid hk;clear h;go_enter func260,ntmps260;go_wp2_with fail;refine(O9 k hk _ H).mono ?_;rintro e w1 ⟨rfl,hm⟩;have hz:=U3 hk.out;go_wp2;go_ret;exact⟨Qao (fun z=>Ending.returned (.string z)) (vZ [114] (Lib.itoa k)),hm⟩
theorem GW (a:Ag) (ha:Ed a) (w:World) (h:Sv w):Calls prog 251 #[.agg #[.bool a.B0,i5 a.v]] w (JV (.string (Ay (Fk a))) w):=by
 obtain⟨B0,v⟩:=a;have hv:=hid (su ha);have H:=hid h;clear h ha;cases B0 with
 | false=>
  go_enter func251,ntmps251;go_wp2_with fail;refine(Vk v hv _ (H.quiet ((Av.refl _ _).alloc _))).mono ?_;rintro e w1 ⟨rfl,hm⟩;have kc:=(Cf hm).cell (Z.2 rfl);have kl:=(Cf hm).lt (Z.2 rfl);have hz:=U3 hv.out;go_wp2;go_ret;exact⟨rfl,((Av.refl _ _).alloc _).Ad hm⟩
 | true=>
  go_enter func251,ntmps251;go_wp2_with fail;refine(Vk v hv _ (H.quiet ((Av.refl _ _).alloc _))).mono ?_;rintro e w1 ⟨rfl,hm⟩;have kc:=(Cf hm).cell (Z.2 rfl);have kl:=(Cf hm).lt (Z.2 rfl);have hz:=U3 hv.out;go_wp2;go_ret;exact⟨Qao (fun z=>Ending.returned (.string z)) (vZ [114] (Lib.itoa v)),((Av.refl _ _).alloc _).Ad hm⟩
theorem oh (l:List By) (a:By):BE (l++[a])=if l=[] then a else BE l++32::a:=by
 induction l with
 | nil=>rfl
 | cons x l ih=>
  cases l with
  | nil=>rfl
  | cons y l=>
   rw[I EQ] at ih⊢;show x++32::BE (y::l++[a])=(x++32::BE (y::l))++32::a;rw[ih];simp
theorem tI (l:List By) (h:∀a,a∈l->a.length<=1000):(BE l).length<=l.length*1001:=by
 induction l with
 | nil=>simp[BE]
 | cons x l ih=>
  cases l with
  | nil=>have:=h x EQ;simp[BE];omega
  | cons y l=>
   have h1:=h x EQ;have h2:=ih fun a ha=>h a (U _ ha)
   simp only[BE,V,IR] at h2⊢;omega
theorem oo (l:List ByteArray) (k:Nat) (hl:l.length<=1000) (h:∀a,a∈l->a.size<=1000):(Ay (BE ((l.map bs).take k))).size<=1001000:=by
 rw[Kd];have:=tI ((l.map bs).take k) (by
   intro a ha;obtain⟨x,hx,rfl⟩:=Qbg.1 (List.mem_of_mem_take ha);have:=h x hx;exact this)
 have h2:((l.map bs).take k).length<=1000:=by simp;omega
 omega
theorem Yq {α:Type} (l:List α) (k:Nat) (hk:k < l.length):l.take (k+1)=l.take k++[l[k]]:=by
 rw[Qar hk]
theorem tZ (k:Nat) (hk:k<=2000):wrap64 ((k:Int)+1)=k+1:=IntWalk.wrap64_in _ Y
theorem Fe (l:List ByteArray) (w:World) (ok:Nat->Prop) (v:Value) (hs:Sl w ok v (A3 l)) (hl:l.length<=1000) (hw:∀a,a∈l->a.size<=1000):
  Calls prog 253 #[v] w (JV (.string (Ay (BE (l.map bs)))) w):=by
 obtain⟨p,cap,rfl,_,_⟩:=hs.KO;have hlen:(A3 l).length=l.length:=CK l;rw[hlen];have HS:=hid hs;have hj:=hid (fun k=>oo l k hl hw);have hw:=hid hw;clear hs;go_enter func253,ntmps253;go_wp2;go_loopw [2,7] (fun s i wr=>∃k:Nat,i= i5 k/\k<=l.length/\s= .string (Ay (BE ((l.map bs).take k)))/\wr=w) (fun _ i _=>l.length - (intOf i).toNat);case atStart=>exact⟨0,rfl,d6 _,rfl,rfl⟩
 case round=>
  obtain⟨k,rfl,hk,rfl,rfl⟩:=hrel;by_cases AX:(k:Int) < (l.length:Int)
  ·have DJ:k < l.length:=Y
   have Ta:k<=2000:=Y
   obtain⟨_,⟨_,h2⟩ | ⟨b,off,cap',hv,h2,h3,h4,h5,h6⟩⟩:=HS.out
   ·have:l.length=0:=by rw[<-hlen,h2];rfl
    omega
   ·cases hv;rw[hlen] at h2;have hc:wr.cell? ⟨b,off+k,none⟩=some (.string l[k]):=by
     have:=h6 k (by rw[hlen];exact DJ);rw[this];simp[A3]
    have e:BE ((l.map bs).take (k+1))=BE ((l.map bs).take k++[bs l[k]]):=by rw[Yq (l.map bs) k (by simpa using DJ)];simp
    rw[oh] at e;obtain⟨x,hx⟩:∃x,x=l[k]:=⟨_,rfl⟩;have hxs:=hw.out l[k] (Qab _);have hjs:=hj.out k;rw[<-hx] at hc e hxs;clear hx h6;have E:=hid e;clear e;have Sr:=Qa2 k;unfold maxLen at h3;by_cases h0:k=0
    ·subst h0;simp only[Qaj] at hc;clear hjs;have e0:Ay (BE ((l.map bs).take 0))=⟨#[]⟩:=rfl;rw[e0];have E2:=E.out;rw[In EQ] at E2;replace E:=hid E2;clear E2 e0;have inc:=tZ 0 Y;go_wp2;go_roundw;case rel=>exact⟨1,rfl,DJ,by rw[E.out,UZ];exact Qao Value.string (by apply Nt;simp[bs]),trivial⟩
     case measure=>simp[intOf];omega
    ·have h01:(0:Int) < (k:Int):=Y
     have E2:=E.out;rw[I (fun e0=>by have:=Qao List.length e0;rw[Qcv,z9] at this;simp only[m7] at this;omega)] at E2;replace E:=hid E2;clear E2;have inc:=tZ k Ta;go_wp2;go_roundw;case rel=>
      refine⟨k+1,rfl,DJ,?_,trivial⟩;rw[E.out];refine Qao Value.string ?_;apply Nt;simp[bs,Ay]
     case measure=>simp[intOf];omega
  ·have Jc:k=l.length:=Y
   subst Jc;go_wp2;go_ret;have e9:(l.map bs).take l.length=l.map bs:=Qbo EQ;refine⟨?_,Av.refl _ _⟩;show Ending.returned (.string (Ay (BE ((l.map bs).take l.length))))=_;rw[e9]
theorem M0 (a:Ag) (k:Int) (ha:Ed a) (hk:i64 k) (w:World) (h:Sv w):Calls prog 252 #[.agg #[.bool a.B0,i5 a.v,i5 k]] w (JV (.string (Ay (BE [Fk a,Lib.itoa k]))) w):=by
 have H:=hid h;clear h;go_enter func252,ntmps252;go_upto_region 1 with fail
 have hm:Av [] (w.alloc (.cells #[.bool a.B0,i5 a.v,i5 k] 270)) (w.alloc (.cells #[.bool a.B0,i5 a.v,i5 k] 270)).drew:=(Av.refl _ _).drew;refine Ap (l:=[(0,true),(1,true),(3,true),(4,true),(2,false),(5,false),(6,false),(7,false),(8,false)]) (fun W=>∀i:Nat,W.cell? ⟨w.heap.size,i,none⟩=(#[.bool a.B0,i5 a.v,i5 k]:Array Value)[i]?) 8 ?_ ?_
 ·exact maQ
 refine detE ?_;intro K hK;refine(GW a ha _ (H.quiet (((Av.refl _ _).alloc _).Ad hm))).mono ?_;rintro e w1 ⟨rfl,CS⟩;replace hm:=hm.Ad CS;clear CS;refine hK _ _ (fun _=>(Cf hm).cell (Z.2 rfl)) ?_;clear hK;refine detE ?_;intro K hK;refine(Vk k hk _ (H.quiet (((Av.refl _ _).alloc _).Ad hm))).mono ?_;rintro e w2 ⟨rfl,C4⟩;replace hm:=hm.Ad C4;clear C4;refine hK _ _ (fun _=>(Cf hm).cell (Z.2 rfl)) ?_;clear hK;refine detE ?_;intro K hK;refine hK _ _ (fun _=>(Cf (hm.alloc _)).cell (Z.2 rfl)) ?_;clear hK;refine detE ?_;intro K hK;refine(Fe [Ay (Fk a),Ay (Lib.itoa k)] _ (fun _=>True) _ (Sl.new (A3 [Ay (Fk a),Ay (Lib.itoa k)]) 9 2 rfl Y _ trivial) EQ (by simp only[Pi,Qap,or_false,Qbi,forall_eq];exact⟨N2 ha,qZ hk⟩)).mono ?_;rintro e wz ⟨rfl,P4⟩;replace hm:=(hm.alloc (.cells (A3 [Ay (Fk a),Ay (Lib.itoa k)]).toArray 9)).Ad P4;clear P4;refine hK _ _ (fun _=>(Cf hm).cell (Z.2 rfl)) ?_;clear hK;refine Ai rfl (fun K hK=> ?_);go_simp;refine hK _ _ (fun h=>UV rfl h) ?_;clear hK;simp only[BB];go_wp2;go_ret;refine⟨?_,((Av.refl _ _).alloc _).Ad hm⟩;refine Qao (fun z=>Ending.returned (.string (Ay z))) ?_;simp[BE,GI.Ae,GI.ws,Cw,bs]
theorem j9 (ha:Ed a) (hk:i64 k):(Ay (BE [Fk a,Lib.itoa k])).size<=1000:=by
 rw[Kd];have h1:=N2 ha;have h2:=qZ hk;rw[Kd] at h1 h2;have h3:=Jr ha;have h4:=RH hk;simp[BE];omega
theorem rn (d:Int) (a:Ag) (hd:Jp d) (ha:Ed a) (w:World) (h:Sv w):Calls prog 274 #[.agg #[i5 d,.bool a.B0,i5 a.v]] w (JV (.string (Ay (GI.Ae (.Sq d a)))) w):=by
 have H:=hid h;clear h;go_enter func274,ntmps274;go_upto_region 1 with fail
 have hm:Av [] (w.alloc (.cells #[i5 d,.bool a.B0,i5 a.v] 316)) (w.alloc (.cells #[i5 d,.bool a.B0,i5 a.v] 316)).drew:=(Av.refl _ _).drew;refine Ap (l:=[(0,true),(1,true),(3,true),(4,true),(2,false),(5,false),(6,false),(7,false),(8,false)]) (fun W=>∀i:Nat,W.cell? ⟨w.heap.size,i,none⟩=(#[i5 d,.bool a.B0,i5 a.v]:Array Value)[i]?) 8 ?_ ?_
 ·exact maQ
 refine detE ?_;intro K hK;refine(Rp d (O3 hd) _ (H.quiet (((Av.refl _ _).alloc _).Ad hm))).mono ?_;rintro e w1 ⟨rfl,CS⟩;replace hm:=hm.Ad CS;clear CS;refine hK _ _ (fun _=>(Cf hm).cell (Z.2 rfl)) ?_;clear hK;refine detE ?_;intro K hK;refine(GW a ha _ (H.quiet (((Av.refl _ _).alloc _).Ad hm))).mono ?_;rintro e w2 ⟨rfl,C4⟩;replace hm:=hm.Ad C4;clear C4;refine hK _ _ (fun _=>(Cf hm).cell (Z.2 rfl)) ?_;clear hK;refine detE ?_;intro K hK;refine hK _ _ (fun _=>(Cf (hm.alloc _)).cell (Z.2 rfl)) ?_;clear hK;refine detE ?_;intro K hK;refine(Fe [⟨#[109,111,118]⟩,Ay (Gj d),Ay (Fk a)] _ (fun _=>True) _ (Sl.new (A3 [⟨#[109,111,118]⟩,Ay (Gj d),Ay (Fk a)]) 9 3 rfl Y _ trivial) EQ (by simp only[Pi,Qap,or_false,Qbi,forall_eq];exact⟨AC,cI hd,N2 ha⟩)).mono ?_;rintro e wz ⟨rfl,P4⟩;replace hm:=(hm.alloc (.cells (A3 [⟨#[109,111,118]⟩,Ay (Gj d),Ay (Fk a)]).toArray 9)).Ad P4;clear P4;refine hK _ _ (fun _=>(Cf hm).cell (Z.2 rfl)) ?_;clear hK;refine Ai rfl (fun K hK=> ?_);go_simp;refine hK _ _ (fun h=>UV rfl h) ?_;clear hK;simp only[BB];go_wp2;go_ret;refine⟨?_,((Av.refl _ _).alloc _).Ad hm⟩;refine Qao (fun z=>Ending.returned (.string (Ay z))) ?_;simp[BE,GI.Ae,GI.ws,Cw,bs]
theorem xZ (n:ByteArray) (d:Int) (a b:Ag) (hn:n.size<=1000) (hd:Jp d) (ha:Ed a) (hb:Ed b) (w:World) (h:Sv w):Calls prog 259 #[.agg #[.string n,i5 d,.bool a.B0,i5 a.v,.bool b.B0,i5 b.v]] w (JV (.string (Ay (GI.Ae (.op n d a b)))) w):=by
 have H:=hid h;clear h;go_enter func259,ntmps259;go_upto_region 1 with fail
 have hm:Av [] (w.alloc (.cells #[.string n,i5 d,.bool a.B0,i5 a.v,.bool b.B0,i5 b.v] 290)) (w.alloc (.cells #[.string n,i5 d,.bool a.B0,i5 a.v,.bool b.B0,i5 b.v] 290)).drew:=(Av.refl _ _).drew;refine Ap (l:=[(0,true),(1,true),(2,true),(3,true),(5,true),(6,true),(8,true),(9,true),(4,false),(7,false),(10,false),(11,false),(12,false),(13,false)]) (fun W=>∀i:Nat,W.cell? ⟨w.heap.size,i,none⟩=(#[.string n,i5 d,.bool a.B0,i5 a.v,.bool b.B0,i5 b.v]:Array Value)[i]?) 13 ?_ ?_
 ·exact maQ
 refine detE ?_;intro K hK;refine(Rp d (O3 hd) _ (H.quiet (((Av.refl _ _).alloc _).Ad hm))).mono ?_;rintro e w1 ⟨rfl,CS⟩;replace hm:=hm.Ad CS;clear CS;refine hK _ _ (fun _=>(Cf hm).cell (Z.2 rfl)) ?_;clear hK;refine detE ?_;intro K hK;refine(GW a ha _ (H.quiet (((Av.refl _ _).alloc _).Ad hm))).mono ?_;rintro e w2 ⟨rfl,C4⟩;replace hm:=hm.Ad C4;clear C4;refine hK _ _ (fun _=>(Cf hm).cell (Z.2 rfl)) ?_;clear hK;refine detE ?_;intro K hK;refine(GW b hb _ (H.quiet (((Av.refl _ _).alloc _).Ad hm))).mono ?_;rintro e w3 ⟨rfl,Q0⟩;replace hm:=hm.Ad Q0;clear Q0;refine hK _ _ (fun _=>(Cf hm).cell (Z.2 rfl)) ?_;clear hK;refine detE ?_;intro K hK;refine hK _ _ (fun _=>(Cf (hm.alloc _)).cell (Z.2 rfl)) ?_;clear hK;refine detE ?_;intro K hK;refine(Fe [n,Ay (Gj d),Ay (Fk a),Ay (Fk b)] _ (fun _=>True) _ (Sl.new (A3 [n,Ay (Gj d),Ay (Fk a),Ay (Fk b)]) 9 4 rfl Y _ trivial) EQ (by simp only[Pi,Qap,or_false,Qbi,forall_eq];exact⟨hn,cI hd,N2 ha,N2 hb⟩)).mono ?_;rintro e wz ⟨rfl,P4⟩;replace hm:=(hm.alloc (.cells (A3 [n,Ay (Gj d),Ay (Fk a),Ay (Fk b)]).toArray 9)).Ad P4;clear P4;refine hK _ _ (fun _=>(Cf hm).cell (Z.2 rfl)) ?_;clear hK;refine Ai rfl (fun K hK=> ?_);go_simp;refine hK _ _ (fun h=>UV rfl h) ?_;clear hK;simp only[BB];go_wp2;go_ret;refine⟨?_,((Av.refl _ _).alloc _).Ad hm⟩;refine Qao (fun z=>Ending.returned (.string (Ay z))) ?_;simp[BE,GI.Ae,GI.ws,Cw,bs]
theorem mw (d:Int) (a:Ag) (k:Int) (hd:Jp d) (ha:Ed a) (hk:i64 k) (w:World) (h:Sv w):Calls prog 266 #[.agg #[i5 d,.bool a.B0,i5 a.v,i5 k]] w (JV (.string (Ay (GI.Ae (.load d a k)))) w):=by
 have H:=hid h;clear h;go_enter func266,ntmps266;go_upto_region 1 with fail
 have hm:Av [] (w.alloc (.cells #[i5 d,.bool a.B0,i5 a.v,i5 k] 297)) (w.alloc (.cells #[i5 d,.bool a.B0,i5 a.v,i5 k] 297)).drew:=(Av.refl _ _).drew;refine Ap (l:=[(0,true),(1,true),(3,true),(4,true),(2,false),(5,false),(6,false),(7,false),(8,false)]) (fun W=>∀i:Nat,W.cell? ⟨w.heap.size,i,none⟩=(#[i5 d,.bool a.B0,i5 a.v,i5 k]:Array Value)[i]?) 8 ?_ ?_
 ·exact maQ
 refine detE ?_;intro K hK;refine(Rp d (O3 hd) _ (H.quiet (((Av.refl _ _).alloc _).Ad hm))).mono ?_;rintro e w1 ⟨rfl,CS⟩;replace hm:=hm.Ad CS;clear CS;refine hK _ _ (fun _=>(Cf hm).cell (Z.2 rfl)) ?_;clear hK;refine detE ?_;intro K hK;refine(M0 a k ha hk _ (H.quiet (((Av.refl _ _).alloc _).Ad hm))).mono ?_;rintro e w2 ⟨rfl,C4⟩;replace hm:=hm.Ad C4;clear C4;refine hK _ _ (fun _=>(Cf hm).cell (Z.2 rfl)) ?_;clear hK;refine detE ?_;intro K hK;refine hK _ _ (fun _=>(Cf (hm.alloc _)).cell (Z.2 rfl)) ?_;clear hK;refine detE ?_;intro K hK;refine(Fe [⟨#[108,111,97,100]⟩,Ay (Gj d),Ay (BE [Fk a,Lib.itoa k])] _ (fun _=>True) _ (Sl.new (A3 [⟨#[108,111,97,100]⟩,Ay (Gj d),Ay (BE [Fk a,Lib.itoa k])]) 9 3 rfl Y _ trivial) EQ (by simp only[Pi,Qap,or_false,Qbi,forall_eq];exact⟨AC,cI hd,j9 ha hk⟩)).mono ?_;rintro e wz ⟨rfl,P4⟩;replace hm:=(hm.alloc (.cells (A3 [⟨#[108,111,97,100]⟩,Ay (Gj d),Ay (BE [Fk a,Lib.itoa k])]).toArray 9)).Ad P4;clear P4;refine hK _ _ (fun _=>(Cf hm).cell (Z.2 rfl)) ?_;clear hK;refine Ai rfl (fun K hK=> ?_);go_simp;refine hK _ _ (fun h=>UV rfl h) ?_;clear hK;simp only[BB];go_wp2;go_ret;refine⟨?_,((Av.refl _ _).alloc _).Ad hm⟩;refine Qao (fun z=>Ending.returned (.string (Ay z))) ?_;simp[BE,GI.Ae,GI.ws,Cw,bs]
theorem gA (a:Ag) (k:Int) (b:Ag) (ha:Ed a) (hk:i64 k) (hb:Ed b) (w:World) (h:Sv w):Calls prog 262 #[.agg #[.bool a.B0,i5 a.v,i5 k,.bool b.B0,i5 b.v]] w (JV (.string (Ay (GI.Ae (.store a k b)))) w):=by
 have H:=hid h;clear h;go_enter func262,ntmps262;go_upto_region 1 with fail
 have hm:Av [] (w.alloc (.cells #[.bool a.B0,i5 a.v,i5 k,.bool b.B0,i5 b.v] 292)) (w.alloc (.cells #[.bool a.B0,i5 a.v,i5 k,.bool b.B0,i5 b.v] 292)).drew:=(Av.refl _ _).drew;refine Ap (l:=[(0,true),(1,true),(3,true),(4,true),(2,false),(5,false),(6,false),(7,false),(8,false)]) (fun W=>∀i:Nat,W.cell? ⟨w.heap.size,i,none⟩=(#[.bool a.B0,i5 a.v,i5 k,.bool b.B0,i5 b.v]:Array Value)[i]?) 8 ?_ ?_
 ·exact maQ
 refine detE ?_;intro K hK;refine(M0 a k ha hk _ (H.quiet (((Av.refl _ _).alloc _).Ad hm))).mono ?_;rintro e w1 ⟨rfl,CS⟩;replace hm:=hm.Ad CS;clear CS;refine hK _ _ (fun _=>(Cf hm).cell (Z.2 rfl)) ?_;clear hK;refine detE ?_;intro K hK;refine(GW b hb _ (H.quiet (((Av.refl _ _).alloc _).Ad hm))).mono ?_;rintro e w2 ⟨rfl,C4⟩;replace hm:=hm.Ad C4;clear C4;refine hK _ _ (fun _=>(Cf hm).cell (Z.2 rfl)) ?_;clear hK;refine detE ?_;intro K hK;refine hK _ _ (fun _=>(Cf (hm.alloc _)).cell (Z.2 rfl)) ?_;clear hK;refine detE ?_;intro K hK;refine(Fe [⟨#[115,116,111,114,101]⟩,Ay (BE [Fk a,Lib.itoa k]),Ay (Fk b)] _ (fun _=>True) _ (Sl.new (A3 [⟨#[115,116,111,114,101]⟩,Ay (BE [Fk a,Lib.itoa k]),Ay (Fk b)]) 9 3 rfl Y _ trivial) EQ (by simp only[Pi,Qap,or_false,Qbi,forall_eq];exact⟨AC,j9 ha hk,N2 hb⟩)).mono ?_;rintro e wz ⟨rfl,P4⟩;replace hm:=(hm.alloc (.cells (A3 [⟨#[115,116,111,114,101]⟩,Ay (BE [Fk a,Lib.itoa k]),Ay (Fk b)]).toArray 9)).Ad P4;clear P4;refine hK _ _ (fun _=>(Cf hm).cell (Z.2 rfl)) ?_;clear hK;refine Ai rfl (fun K hK=> ?_);go_simp;refine hK _ _ (fun h=>UV rfl h) ?_;clear hK;simp only[BB];go_wp2;go_ret;refine⟨?_,((Av.refl _ _).alloc _).Ad hm⟩;refine Qao (fun z=>Ending.returned (.string (Ay z))) ?_;simp[BE,GI.Ae,GI.ws,Cw,bs]
theorem rI (d:Int) (a:Ag) (k:Int) (b c:Ag) (hd:Jp d) (ha:Ed a) (hk:i64 k) (hb:Ed b) (hc:Ed c) (w:World) (h:Sv w):Calls prog 270 #[.agg #[i5 d,.bool a.B0,i5 a.v,i5 k,.bool b.B0,i5 b.v,.bool c.B0,i5 c.v]] w (JV (.string (Ay (GI.Ae (.JL d a k b c)))) w):=by
 have H:=hid h;clear h;go_enter func270,ntmps270;go_upto_region 1 with fail
 have hm:Av [] (w.alloc (.cells #[i5 d,.bool a.B0,i5 a.v,i5 k,.bool b.B0,i5 b.v,.bool c.B0,i5 c.v] 312)) (w.alloc (.cells #[i5 d,.bool a.B0,i5 a.v,i5 k,.bool b.B0,i5 b.v,.bool c.B0,i5 c.v] 312)).drew:=(Av.refl _ _).drew;refine Ap (l:=[(0,true),(1,true),(3,true),(4,true),(6,true),(7,true),(9,true),(10,true),(2,false),(5,false),(8,false),(11,false),(12,false),(13,false),(14,false)]) (fun W=>∀i:Nat,W.cell? ⟨w.heap.size,i,none⟩=(#[i5 d,.bool a.B0,i5 a.v,i5 k,.bool b.B0,i5 b.v,.bool c.B0,i5 c.v]:Array Value)[i]?) 14 ?_ ?_
 ·exact maQ
 refine detE ?_;intro K hK;refine(Rp d (O3 hd) _ (H.quiet (((Av.refl _ _).alloc _).Ad hm))).mono ?_;rintro e w1 ⟨rfl,CS⟩;replace hm:=hm.Ad CS;clear CS;refine hK _ _ (fun _=>(Cf hm).cell (Z.2 rfl)) ?_;clear hK;refine detE ?_;intro K hK;refine(M0 a k ha hk _ (H.quiet (((Av.refl _ _).alloc _).Ad hm))).mono ?_;rintro e w2 ⟨rfl,C4⟩;replace hm:=hm.Ad C4;clear C4;refine hK _ _ (fun _=>(Cf hm).cell (Z.2 rfl)) ?_;clear hK;refine detE ?_;intro K hK;refine(GW b hb _ (H.quiet (((Av.refl _ _).alloc _).Ad hm))).mono ?_;rintro e w3 ⟨rfl,Q0⟩;replace hm:=hm.Ad Q0;clear Q0;refine hK _ _ (fun _=>(Cf hm).cell (Z.2 rfl)) ?_;clear hK;refine detE ?_;intro K hK;refine(GW c hc _ (H.quiet (((Av.refl _ _).alloc _).Ad hm))).mono ?_;rintro e w4 ⟨rfl,XE⟩;replace hm:=hm.Ad XE;clear XE;refine hK _ _ (fun _=>(Cf hm).cell (Z.2 rfl)) ?_;clear hK;refine detE ?_;intro K hK;refine hK _ _ (fun _=>(Cf (hm.alloc _)).cell (Z.2 rfl)) ?_;clear hK;refine detE ?_;intro K hK;refine(Fe [⟨#[99,97,115]⟩,Ay (Gj d),Ay (BE [Fk a,Lib.itoa k]),Ay (Fk b),Ay (Fk c)] _ (fun _=>True) _ (Sl.new (A3 [⟨#[99,97,115]⟩,Ay (Gj d),Ay (BE [Fk a,Lib.itoa k]),Ay (Fk b),Ay (Fk c)]) 9 5 rfl Y _ trivial) EQ (by simp only[Pi,Qap,or_false,Qbi,forall_eq];exact⟨AC,cI hd,j9 ha hk,N2 hb,N2 hc⟩)).mono ?_;rintro e wz ⟨rfl,P4⟩;replace hm:=(hm.alloc (.cells (A3 [⟨#[99,97,115]⟩,Ay (Gj d),Ay (BE [Fk a,Lib.itoa k]),Ay (Fk b),Ay (Fk c)]).toArray 9)).Ad P4;clear P4;refine hK _ _ (fun _=>(Cf hm).cell (Z.2 rfl)) ?_;clear hK;refine Ai rfl (fun K hK=> ?_);go_simp;refine hK _ _ (fun h=>UV rfl h) ?_;clear hK;simp only[BB];go_wp2;go_ret;refine⟨?_,((Av.refl _ _).alloc _).Ad hm⟩;refine Qao (fun z=>Ending.returned (.string (Ay z))) ?_;simp[BE,GI.Ae,GI.ws,Cw,bs]
theorem mi (d:Int) (a:Ag) (k:Int) (b:Ag) (hd:Jp d) (ha:Ed a) (hk:i64 k) (hb:Ed b) (w:World) (h:Sv w):Calls prog 272 #[.agg #[i5 d,.bool a.B0,i5 a.v,i5 k,.bool b.B0,i5 b.v]] w (JV (.string (Ay (GI.Ae (.DL d a k b)))) w):=by
 have H:=hid h;clear h;go_enter func272,ntmps272;go_upto_region 1 with fail
 have hm:Av [] (w.alloc (.cells #[i5 d,.bool a.B0,i5 a.v,i5 k,.bool b.B0,i5 b.v] 314)) (w.alloc (.cells #[i5 d,.bool a.B0,i5 a.v,i5 k,.bool b.B0,i5 b.v] 314)).drew:=(Av.refl _ _).drew;refine Ap (l:=[(0,true),(1,true),(3,true),(4,true),(6,true),(7,true),(2,false),(5,false),(8,false),(9,false),(10,false),(11,false)]) (fun W=>∀i:Nat,W.cell? ⟨w.heap.size,i,none⟩=(#[i5 d,.bool a.B0,i5 a.v,i5 k,.bool b.B0,i5 b.v]:Array Value)[i]?) 11 ?_ ?_
 ·exact maQ
 refine detE ?_;intro K hK;refine(Rp d (O3 hd) _ (H.quiet (((Av.refl _ _).alloc _).Ad hm))).mono ?_;rintro e w1 ⟨rfl,CS⟩;replace hm:=hm.Ad CS;clear CS;refine hK _ _ (fun _=>(Cf hm).cell (Z.2 rfl)) ?_;clear hK;refine detE ?_;intro K hK;refine(M0 a k ha hk _ (H.quiet (((Av.refl _ _).alloc _).Ad hm))).mono ?_;rintro e w2 ⟨rfl,C4⟩;replace hm:=hm.Ad C4;clear C4;refine hK _ _ (fun _=>(Cf hm).cell (Z.2 rfl)) ?_;clear hK;refine detE ?_;intro K hK;refine(GW b hb _ (H.quiet (((Av.refl _ _).alloc _).Ad hm))).mono ?_;rintro e w3 ⟨rfl,Q0⟩;replace hm:=hm.Ad Q0;clear Q0;refine hK _ _ (fun _=>(Cf hm).cell (Z.2 rfl)) ?_;clear hK;refine detE ?_;intro K hK;refine hK _ _ (fun _=>(Cf (hm.alloc _)).cell (Z.2 rfl)) ?_;clear hK;refine detE ?_;intro K hK;refine(Fe [⟨#[120,97,100,100]⟩,Ay (Gj d),Ay (BE [Fk a,Lib.itoa k]),Ay (Fk b)] _ (fun _=>True) _ (Sl.new (A3 [⟨#[120,97,100,100]⟩,Ay (Gj d),Ay (BE [Fk a,Lib.itoa k]),Ay (Fk b)]) 9 4 rfl Y _ trivial) EQ (by simp only[Pi,Qap,or_false,Qbi,forall_eq];exact⟨AC,cI hd,j9 ha hk,N2 hb⟩)).mono ?_;rintro e wz ⟨rfl,P4⟩;replace hm:=(hm.alloc (.cells (A3 [⟨#[120,97,100,100]⟩,Ay (Gj d),Ay (BE [Fk a,Lib.itoa k]),Ay (Fk b)]).toArray 9)).Ad P4;clear P4;refine hK _ _ (fun _=>(Cf hm).cell (Z.2 rfl)) ?_;clear hK;refine Ai rfl (fun K hK=> ?_);go_simp;refine hK _ _ (fun h=>UV rfl h) ?_;clear hK;simp only[BB];go_wp2;go_ret;refine⟨?_,((Av.refl _ _).alloc _).Ad hm⟩;refine Qao (fun z=>Ending.returned (.string (Ay z))) ?_;simp[BE,GI.Ae,GI.ws,Cw,bs]
theorem rk (a:Ag) (ha:Ed a) (w:World) (h:Sv w):Calls prog 255 #[.agg #[.bool a.B0,i5 a.v]] w (JV (.string (Ay (GI.Ae (.out a)))) w):=by
 have H:=hid h;clear h;go_enter func255,ntmps255;go_wp2_with fail;refine(GW a ha _ (H.quiet ((Av.refl _ _).alloc _))).mono ?_;rintro e w1 ⟨rfl,hm⟩;have kc:=(Cf hm).cell (Z.2 rfl);have kl:=(Cf hm).lt (Z.2 rfl);go_wp2_with fail;refine(Fe [⟨#[111,117,116]⟩,Ay (Fk a)] _ (fun _=>True) _ (Sl.new (A3 [⟨#[111,117,116]⟩,Ay (Fk a)]) 9 2 rfl Y _ trivial) EQ (by simp only[Pi,Qap,or_false,Qbi,forall_eq];exact⟨AC,N2 ha⟩)).mono ?_;rintro e wz ⟨rfl,P4⟩;replace hm:=(hm.alloc (.cells (A3 [⟨#[111,117,116]⟩,Ay (Fk a)]).toArray 9)).Ad P4;exact maI
theorem rq (k:Int) (hk:i64 k) (w:World) (h:Sv w):Calls prog 257 #[.agg #[i5 k]] w (JV (.string (Ay (GI.Ae (.Gb k)))) w):=by
 have H:=hid h;clear h;go_enter func257,ntmps257;go_wp2_with fail;refine(O9 k hk _ (H.quiet ((Av.refl _ _).alloc _))).mono ?_;rintro e w1 ⟨rfl,hm⟩;have kc:=(Cf hm).cell (Z.2 rfl);have kl:=(Cf hm).lt (Z.2 rfl);go_wp2_with fail;refine(Fe [⟨#[106,109,112]⟩,Ay (Lib.itoa k)] _ (fun _=>True) _ (Sl.new (A3 [⟨#[106,109,112]⟩,Ay (Lib.itoa k)]) 9 2 rfl Y _ trivial) EQ (by simp only[Pi,Qap,or_false,Qbi,forall_eq];exact⟨AC,qZ hk⟩)).mono ?_;rintro e wz ⟨rfl,P4⟩;replace hm:=(hm.alloc (.cells (A3 [⟨#[106,109,112]⟩,Ay (Lib.itoa k)]).toArray 9)).Ad P4;exact maI
theorem x7 (a:Ag) (k:Int) (ha:Ed a) (hk:i64 k) (w:World) (h:Sv w):Calls prog 268 #[.agg #[.bool a.B0,i5 a.v,i5 k]] w (JV (.string (Ay (GI.Ae (.jz a k)))) w):=by
 have H:=hid h;clear h;go_enter func268,ntmps268;go_upto_region 1 with fail
 have hm:Av [] (w.alloc (.cells #[.bool a.B0,i5 a.v,i5 k] 299)) (w.alloc (.cells #[.bool a.B0,i5 a.v,i5 k] 299)).drew:=(Av.refl _ _).drew;refine Ap (l:=[(0,true),(1,true),(3,true),(4,true),(5,true),(2,false),(6,false),(7,false),(8,false),(9,false)]) (fun W=>∀i:Nat,W.cell? ⟨w.heap.size,i,none⟩=(#[.bool a.B0,i5 a.v,i5 k]:Array Value)[i]?) 9 ?_ ?_
 ·exact maQ
 refine detE ?_;intro K hK;refine(GW a ha _ (H.quiet (((Av.refl _ _).alloc _).Ad hm))).mono ?_;rintro e w1 ⟨rfl,CS⟩;replace hm:=hm.Ad CS;clear CS;refine hK _ _ (fun _=>(Cf hm).cell (Z.2 rfl)) ?_;clear hK;refine detE ?_;intro K hK;refine(O9 k hk _ (H.quiet (((Av.refl _ _).alloc _).Ad hm))).mono ?_;rintro e w2 ⟨rfl,C4⟩;replace hm:=hm.Ad C4;clear C4;refine hK _ _ (fun _=>(Cf hm).cell (Z.2 rfl)) ?_;clear hK;refine detE ?_;intro K hK;refine hK _ _ (fun _=>(Cf (hm.alloc _)).cell (Z.2 rfl)) ?_;clear hK;refine detE ?_;intro K hK;refine(Fe [⟨#[106,122]⟩,Ay (Fk a),Ay (Lib.itoa k)] _ (fun _=>True) _ (Sl.new (A3 [⟨#[106,122]⟩,Ay (Fk a),Ay (Lib.itoa k)]) 9 3 rfl Y _ trivial) EQ (by simp only[Pi,Qap,or_false,Qbi,forall_eq];exact⟨AC,N2 ha,qZ hk⟩)).mono ?_;rintro e wz ⟨rfl,P4⟩;replace hm:=(hm.alloc (.cells (A3 [⟨#[106,122]⟩,Ay (Fk a),Ay (Lib.itoa k)]).toArray 9)).Ad P4;clear P4;refine hK _ _ (fun _=>(Cf hm).cell (Z.2 rfl)) ?_;clear hK;refine Ai rfl (fun K hK=> ?_);go_simp;refine hK _ _ (fun h=>UV rfl h) ?_;clear hK;simp only[BB];go_wp2;go_ret;refine⟨?_,((Av.refl _ _).alloc _).Ad hm⟩;refine Qao (fun z=>Ending.returned (.string (Ay z))) ?_;simp[BE,GI.Ae,GI.ws,Cw,bs]
theorem mn (k:Int) (hk:i64 k) (w:World) (h:Sv w):Calls prog 264 #[.agg #[i5 k]] w (JV (.string (Ay (GI.Ae (.EF k)))) w):=by
 have H:=hid h;clear h;go_enter func264,ntmps264;go_wp2_with fail;refine(O9 k hk _ (H.quiet ((Av.refl _ _).alloc _))).mono ?_;rintro e w1 ⟨rfl,hm⟩;have kc:=(Cf hm).cell (Z.2 rfl);have kl:=(Cf hm).lt (Z.2 rfl);go_wp2_with fail;refine(Fe [⟨#[116,114,97,112]⟩,Ay (Lib.itoa k)] _ (fun _=>True) _ (Sl.new (A3 [⟨#[116,114,97,112]⟩,Ay (Lib.itoa k)]) 9 2 rfl Y _ trivial) EQ (by simp only[Pi,Qap,or_false,Qbi,forall_eq];exact⟨AC,qZ hk⟩)).mono ?_;rintro e wz ⟨rfl,P4⟩;replace hm:=(hm.alloc (.cells (A3 [⟨#[116,114,97,112]⟩,Ay (Lib.itoa k)]).toArray 9)).Ad P4;exact maI
def xw (B:Nat) (l:By) (w:World):Prop:=Lib.IsBuilder 157 5 B B (Lib.byteCells l) w
theorem xw.quiet {B:Nat} (h:xw B l w) (k:Av [] w w'):xw B l w':=by
 have f:∀p,Lib.BuilderAt 157 5 B B p (Lib.byteCells l) w->Lib.BuilderAt 157 5 B B p (Lib.byteCells l) w':=by
  rintro p ⟨h1,v,h2,h3,h4⟩;exact⟨h1,v,k.heap h2 EQ,Ce h3 k EQ,h4⟩
 exact Or.imp (f _) (f _) h
theorem Av.Sz {a b c:World} (h:Av [] a b) (k:Below a.heap.size b c):Av [] a c:=
 ⟨k.os.trans h.os,k.tape.trans h.tape,k.output.trans h.output,Qb6 h.size k.size,fun i hi _=>(k.block i hi).trans (h.block i hi EQ)⟩
theorem ZB (l m:By):Lib.byteCells l++Lib.byteCells m=Lib.byteCells (l++m):=by simp[Lib.byteCells]
theorem ZA (l:By):(Lib.byteCells l).length=l.length:=by simp[Lib.byteCells]
theorem po (m:By):Lib.strCells (Ay m)=Lib.byteCells m:=by simp[Lib.strCells,Lib.byteCells,Ay]
def AeP (r:Value) (l:By) (w0:World) (e:Ending) (w':World):Prop:=e= .returned r/\xw w0.heap.size l w'/\Av [] w0 w'
theorem US (m:By) (h:xw w0.heap.size l w) (k:Av [] w0 w) (hl:l.length+m.length<=1000000) (s:ByteArray) (hs:s=Ay m):
  Calls prog 77 #[i6 w0.heap.size,.string s] w (AeP (.tuple #[i5 s.size,.nilIface]) (l++m) w0):=by
 subst hs;refine(Aad w0.heap.size w0.heap.size (Lib.byteCells l) (Ay m) w h (by rw[ZA,Kd];omega) k.size).mono ?_;rintro e w' ⟨rfl,h1,h2⟩;rw[po,ZB] at h1;exact⟨rfl,Or.inr h1,k.Sz h2⟩
theorem Xj (h:xw w0.heap.size l w) (k:Av [] w0 w) (hl:l.length<=1000000):
  Calls prog 78 #[i6 w0.heap.size,.int .u8 10] w (AeP .nilIface (l++[10]) w0):=by
 refine(Aep w0.heap.size w0.heap.size (Lib.byteCells l) 10 w h (by rw[ZA];omega) k.size).mono ?_;rintro e w' ⟨rfl,h1,h2⟩;have e1:Lib.byteCells l++[.int .u8 10]=Lib.byteCells (l++[10]):=by rw[<-ZB];rfl
 rw[e1] at h1;exact⟨rfl,Or.inr h1,k.Sz h2⟩
theorem AfU (h:xw w0.heap.size l w) (k:Av [] w0 w):
  Calls prog 79 #[i6 w0.heap.size] w (JV (.string (Ay l)) w0):=by
 refine(Tryz.Builder_String_any w0.heap.size w0.heap.size l w h k.size).mono ?_;rintro e w' ⟨rfl,h2⟩;exact⟨rfl,k.Sz h2⟩
theorem YF {α:Type}:∀(cs:List SG) (ls:List (List α)) (k:Nat) (hc:k < cs.length) (hl:k < ls.length),(BC cs ls)[k]?=some (.slice cs[k].p ls[k].length cs[k].c)
 | [],_,_,hc,_=>by simp at hc
 | _::_,[],_,_,hl=>by simp at hl
 | c::cs,l::ls,0,_,_=>rfl
 | c::cs,l::ls,k+1,hc,hl=>by
  have:=YF cs ls k (by simpa using hc) (by simpa using hl);simpa[BC] using this
theorem qC:∀(cs:List SG) (ls:List (List GI)) (k:Nat) (hc:k < cs.length) (hl:k < ls.length),(List.zipWith D2 cs ls)[k]?=some (D2 cs[k] ls[k])
 | [],_,_,hc,_=>by simp at hc
 | _::_,[],_,_,hl=>by simp at hl
 | c::cs,l::ls,0,_,_=>rfl
 | c::cs,l::ls,k+1,hc,hl=>by
  have:=qC cs ls k (by simpa using hc) (by simpa using hl);simpa using this
def okT (i:GI):Prop:=Px 4000 i/\i≠ .IV
def Gq (t:List GI) (q:Nat):By:=(t.take q).flatMap fun i=>i.Ae++[10]
theorem RE (t:List GI) (q:Nat) (hq:q < t.length):Gq t (q+1)=Gq t q++t[q].Ae++[10]:=by
 unfold Gq;rw[Yq t q hq,Qba];simp
theorem cE (ls:List (List GI)) (k:Nat) (hk:k < ls.length):DY (ls.take (k+1))=DY (ls.take k)++AE++[10]++Gq ls[k] ls[k].length:=by
 unfold DY;rw[Qar hk];simp only[Qba,Qas,List.flatMap_nil,i7];unfold U0 Gq;rw[Qcc];simp
theorem dP (t:List GI) (q:Nat) (hq:q < t.length):(Gq t q).length+t[q].Ae.length+1<=(Gq t t.length).length:=by
 have e:Gq t t.length=Gq t (q+1)++(t.drop (q+1)).flatMap fun i=>i.Ae++[10]:=by
  unfold Gq;rw[Qcc,<-Qba,List.take_append_drop]
 rw[e,RE t q hq];simp;omega
theorem gj (ls:List (List GI)) (k:Nat):(DY (ls.take k)).length<=(DY ls).length:=by
 have e:DY ls=DY (ls.take k)++DY (ls.drop k):=by unfold DY;rw[<-Qba,List.take_append_drop]
 rw[e];simp
theorem JR (k:Nat) (hk:k<=100000):wrap64 ((k:Int)+1)=k+1:=IntWalk.wrap64_in _ Y
theorem aV {u:Int} (h:0<=k) (h2:k<=u) (hu:u<=4000:=by decide):i64 k:=by unfold i64;omega
theorem l7 {n:ByteArray} (h:n∈Cj):n.size<=1000:=by have:=Vw h;rw[show n.size=(bs n).length from rfl];omega
theorem my (w:World) (_:Sv w):Calls prog 229 #[.agg #[]] w (JV (.string (Ay (GI.Ae .halt))) w):=by
 go_enter func229,ntmps229;go_wp2;go_ret;exact⟨rfl,(Av.refl _ _).alloc _⟩
theorem AcR:(⟨#[116,104,114,101,97,100,10]⟩:ByteArray)=Ay (AE++[10]):=by decide+kernel
theorem qX (ls:List (List GI)) (op:Option Addr) (oc:Nat) (cs:List SG) (w:World) (h:Az w (IJ op ls.length oc cs ls)) (Mv:cs.length=ls.length) (ht:Sv w)
  (hok:∀l,l∈ls->∀i,i∈l->okT i) (hl:(DY ls).length<=131072) (h3:ls.length<=1000) (h4:∀l,l∈ls->l.length<=10000):Calls prog 51 #[.slice op ls.length oc] w (JV (.string (Ay (DY ls))) w):=by
 have H:=hid h;have T:=hid ht;have Hok:=hid hok;have Hcs:=hid Mv;have Hl:=hid hl;have H4:=hid h4;clear h ht hok Mv hl h4;go_enter func51,ntmps51;go_wp2;have hA:xw w.heap.size (DY (ls.take 0)) _:=Lib.fresh_isBuilder 157 5 w;go_loopw [10] (fun i wr=>∃k:Nat,i= i5 k/\k<=ls.length/\xw w.heap.size (DY (ls.take k)) wr/\Av [] w wr) (fun i _=>ls.length - (intOf i).toNat);case atStart=>exact⟨0,rfl,d6 _,hA,(Av.refl _ _).alloc _⟩
 case round=>
  clear hA;obtain⟨k,rfl,hk,hA,hM⟩:=hrel;by_cases AX:(k:Int) < (ls.length:Int)
  ·have DJ:k < ls.length:=Y
   have Ta:k<=2000:=Y
   have xn:k < cs.length:=by rw[Hcs.out];exact DJ
   have ho:=H.quiet hM;obtain⟨ob,oc',hov,_,rl,_,_,rc,rf⟩:=AG (ho.row (i:=0) rfl) Y;cases hov;have Ui:wr.cell? ⟨ob,k,none⟩=some (.slice cs[k].p ls[k].length cs[k].c):=by
    have e1:=YF cs ls k xn DJ;obtain⟨e2,e3⟩:=d9.1 e1;rw[rc k e2,e3]
   have IN:(IJ (some ⟨ob,0,none⟩) ls.length oc cs ls)[k+1]?=some (D2 cs[k] ls[k]):=qC cs ls k xn DJ;have LG:=Hl.out;have iS:=gj ls (k+1);have P1:=cE ls k DJ;rw[P1] at iS;have AbU:=Hok.out ls[k] (Qab _);have h4k:=H4.out ls[k] (Qab _);have hg:Az w [D2 cs[k] ls[k]]:=⟨fun o Oz=>by rw[Z] at Oz;subst Oz;exact H.holds _ (Qai IN),by simp[D4,Ob.fp,D2,Value.ownBlock];split <;>simp⟩;obtain⟨t,hT⟩:∃t,t=ls[k]:=⟨_,rfl⟩;obtain⟨⟨cp,cc⟩,hC⟩:∃c,c=cs[k]:=⟨_,rfl⟩;obtain⟨X,hX⟩:∃X,X=DY (ls.take k):=⟨_,rfl⟩;rw[<-hT,<-hC] at Ui hg;rw[<-hT,<-hX] at iS P1;rw[<-hT] at AbU h4k;rw[<-hX] at hA;clear hT hC hX IN rc rf xn ho;have HA:=hid hA;have HM:=hid hM;have Hg:=hid hg;have Hts:=hid P1;have Af4:=hid AbU;simp only[V,d5] at iS;have hX1:X.length+AE.length+1+(Gq t t.length).length<=131072:=Y
   have Uk:=hid hX1;clear hA hM hg P1 AbU iS LG hX1;have Sr:=Qa2 k;go_wp2_with fail;refine(US (AE++[10]) HA HM (by have:=Uk.out;simp only[V,d5];omega) _ AcR).mono ?_;rintro e w1 ⟨rfl,hA,hM⟩;clear HA HM Ui;have hA0:=hA;go_wp2;rw[<-PP] at hA0;go_loopw [17] (fun i wr=>∃q:Nat,i= i5 q/\q<=t.length/\xw w.heap.size (X++AE++[10]++Gq t q) wr/\Av [] w wr) (fun i _=>t.length - (intOf i).toNat);case atStart=>exact⟨0,rfl,d6 _,by have:Gq t 0=[]:=rfl;rw[this,i7];exact hA0,hM⟩
   case round=>
    clear hA hM hA0;obtain⟨q,rfl,hq,hA,hM⟩:=hrel;by_cases hqt:(q:Int) < (t.length:Int)
    ·have RQ:q < t.length:=Y
     have ct:q<=100000:=Y
     obtain⟨gb,gc,hgv,_,gl,_,_,gcell,gfr⟩:=AG ((Hg.quiet hM).row (i:=0) rfl) Y;cases hgv;have hgi:(cw t).length=t.length:=Kc t;have KM:wr.cell? ⟨gb,q,none⟩=some (GI.val t[q]):=by rw[gcell q (by rw[hgi];exact RQ)];simp[cw]
     have hLl:=dP t q RQ;have WA:=RE t q RQ;have AbV:=Af4.out t[q] (Qab _);obtain⟨i,hi⟩:∃i,i=t[q]:=⟨_,rfl⟩;rw[<-hi] at KM hLl WA AbV;have HA:=hid hA;have HM:=hid hM;have Xm:=hid WA;have XH:=hid hLl;have UU:=hid AbV;clear hi gcell gfr hgi hLl WA AbV hA hM;have hqn:=Qa2 q;cases i with
     | Sq d a=>
      have h:=UU.1;have JC:wr.cell? ⟨gb,q,none⟩=some (.iface 316 (.agg #[i5 d,.bool a.B0,i5 a.v])):=KM;have QZ:∀w,(method 492 316 (.agg #[i5 d,.bool a.B0,i5 a.v]) "String").run prog w= .ok (274,.agg #[i5 d,.bool a.B0,i5 a.v]) w:=fun _=>Fd
      have GR:=hid (rn d a h.1 h.2);clear KM;go_wp2_with fail;refine(GR _ (T.quiet HM)).mono ?_;rintro e w2 ⟨rfl,C4⟩;clear GR QZ JC h;have Qc:=hid (HA.quiet C4);have Ik:=hid (HM.Ad C4);clear HA HM C4;go_wp2_with fail;refine(US (GI.Ae (.Sq d a)) Qc Ik (by have:=Uk.out;have:=XH.out;simp only[V,d5];omega) _ rfl).mono ?_;rintro e w3 ⟨rfl,P7,Kn⟩;clear Qc Ik;have Qb:=hid P7;have KV:=hid Kn;clear P7 Kn;go_wp2_with fail;refine(Xj Qb KV (by have:=Uk.out;have:=XH.out;simp only[V,d5];omega)).mono ?_;rintro e w4 ⟨rfl,P6,OF⟩;clear Qb KV;have Yi:=hid P6;have Vo:=hid OF;clear P6 OF;obtain⟨s1,Lk⟩:∃s,s=Ay (GI.Ae (.Sq d a)):=⟨_,rfl⟩;exact mah
     | op n d a b=>
      have h:=UU.1;have JC:wr.cell? ⟨gb,q,none⟩=some (.iface 290 (.agg #[.string n,i5 d,.bool a.B0,i5 a.v,.bool b.B0,i5 b.v])):=KM;have QZ:∀w,(method 492 290 (.agg #[.string n,i5 d,.bool a.B0,i5 a.v,.bool b.B0,i5 b.v]) "String").run prog w= .ok (259,.agg #[.string n,i5 d,.bool a.B0,i5 a.v,.bool b.B0,i5 b.v]) w:=fun _=>Fd
      have GR:=hid (xZ n d a b (l7 h.1) h.2.1 h.2.2.1 h.2.2.2);clear KM;go_wp2_with fail;refine(GR _ (T.quiet HM)).mono ?_;rintro e w2 ⟨rfl,C4⟩;clear GR QZ JC h;have Qc:=hid (HA.quiet C4);have Ik:=hid (HM.Ad C4);clear HA HM C4;go_wp2_with fail;refine(US (GI.Ae (.op n d a b)) Qc Ik (by have:=Uk.out;have:=XH.out;simp only[V,d5];omega) _ rfl).mono ?_;rintro e w3 ⟨rfl,P7,Kn⟩;clear Qc Ik;have Qb:=hid P7;have KV:=hid Kn;clear P7 Kn;go_wp2_with fail;refine(Xj Qb KV (by have:=Uk.out;have:=XH.out;simp only[V,d5];omega)).mono ?_;rintro e w4 ⟨rfl,P6,OF⟩;clear Qb KV;have Yi:=hid P6;have Vo:=hid OF;clear P6 OF;obtain⟨s1,Lk⟩:∃s,s=Ay (GI.Ae (.op n d a b)):=⟨_,rfl⟩;exact mah
     | load d a k2=>
      have h:=UU.1;have JC:wr.cell? ⟨gb,q,none⟩=some (.iface 297 (.agg #[i5 d,.bool a.B0,i5 a.v,i5 k2])):=KM;have QZ:∀w,(method 492 297 (.agg #[i5 d,.bool a.B0,i5 a.v,i5 k2]) "String").run prog w= .ok (266,.agg #[i5 d,.bool a.B0,i5 a.v,i5 k2]) w:=fun _=>Fd
      have GR:=hid (mw d a k2 h.1 h.2.1 h.2.2);clear KM;go_wp2_with fail;refine(GR _ (T.quiet HM)).mono ?_;rintro e w2 ⟨rfl,C4⟩;clear GR QZ JC h;have Qc:=hid (HA.quiet C4);have Ik:=hid (HM.Ad C4);clear HA HM C4;go_wp2_with fail;refine(US (GI.Ae (.load d a k2)) Qc Ik (by have:=Uk.out;have:=XH.out;simp only[V,d5];omega) _ rfl).mono ?_;rintro e w3 ⟨rfl,P7,Kn⟩;clear Qc Ik;have Qb:=hid P7;have KV:=hid Kn;clear P7 Kn;go_wp2_with fail;refine(Xj Qb KV (by have:=Uk.out;have:=XH.out;simp only[V,d5];omega)).mono ?_;rintro e w4 ⟨rfl,P6,OF⟩;clear Qb KV;have Yi:=hid P6;have Vo:=hid OF;clear P6 OF;obtain⟨s1,Lk⟩:∃s,s=Ay (GI.Ae (.load d a k2)):=⟨_,rfl⟩;exact mah
     | store a k2 b=>
      have h:=UU.1;have JC:wr.cell? ⟨gb,q,none⟩=some (.iface 292 (.agg #[.bool a.B0,i5 a.v,i5 k2,.bool b.B0,i5 b.v])):=KM;have QZ:∀w,(method 492 292 (.agg #[.bool a.B0,i5 a.v,i5 k2,.bool b.B0,i5 b.v]) "String").run prog w= .ok (262,.agg #[.bool a.B0,i5 a.v,i5 k2,.bool b.B0,i5 b.v]) w:=fun _=>Fd
      have GR:=hid (gA a k2 b h.1 h.2.1 h.2.2);clear KM;go_wp2_with fail;refine(GR _ (T.quiet HM)).mono ?_;rintro e w2 ⟨rfl,C4⟩;clear GR QZ JC h;have Qc:=hid (HA.quiet C4);have Ik:=hid (HM.Ad C4);clear HA HM C4;go_wp2_with fail;refine(US (GI.Ae (.store a k2 b)) Qc Ik (by have:=Uk.out;have:=XH.out;simp only[V,d5];omega) _ rfl).mono ?_;rintro e w3 ⟨rfl,P7,Kn⟩;clear Qc Ik;have Qb:=hid P7;have KV:=hid Kn;clear P7 Kn;go_wp2_with fail;refine(Xj Qb KV (by have:=Uk.out;have:=XH.out;simp only[V,d5];omega)).mono ?_;rintro e w4 ⟨rfl,P6,OF⟩;clear Qb KV;have Yi:=hid P6;have Vo:=hid OF;clear P6 OF;obtain⟨s1,Lk⟩:∃s,s=Ay (GI.Ae (.store a k2 b)):=⟨_,rfl⟩;exact mah
     | JL d a k2 b c=>
      have h:=UU.1;have JC:wr.cell? ⟨gb,q,none⟩=some (.iface 312 (.agg #[i5 d,.bool a.B0,i5 a.v,i5 k2,.bool b.B0,i5 b.v,.bool c.B0,i5 c.v])):=KM;have QZ:∀w,(method 492 312 (.agg #[i5 d,.bool a.B0,i5 a.v,i5 k2,.bool b.B0,i5 b.v,.bool c.B0,i5 c.v]) "String").run prog w= .ok (270,.agg #[i5 d,.bool a.B0,i5 a.v,i5 k2,.bool b.B0,i5 b.v,.bool c.B0,i5 c.v]) w:=fun _=>Fd
      have GR:=hid (rI d a k2 b c h.1 h.2.1 h.2.2.1 h.2.2.2.1 h.2.2.2.2);clear KM;go_wp2_with fail;refine(GR _ (T.quiet HM)).mono ?_;rintro e w2 ⟨rfl,C4⟩;clear GR QZ JC h;have Qc:=hid (HA.quiet C4);have Ik:=hid (HM.Ad C4);clear HA HM C4;go_wp2_with fail;refine(US (GI.Ae (.JL d a k2 b c)) Qc Ik (by have:=Uk.out;have:=XH.out;simp only[V,d5];omega) _ rfl).mono ?_;rintro e w3 ⟨rfl,P7,Kn⟩;clear Qc Ik;have Qb:=hid P7;have KV:=hid Kn;clear P7 Kn;go_wp2_with fail;refine(Xj Qb KV (by have:=Uk.out;have:=XH.out;simp only[V,d5];omega)).mono ?_;rintro e w4 ⟨rfl,P6,OF⟩;clear Qb KV;have Yi:=hid P6;have Vo:=hid OF;clear P6 OF;obtain⟨s1,Lk⟩:∃s,s=Ay (GI.Ae (.JL d a k2 b c)):=⟨_,rfl⟩;exact mah
     | DL d a k2 b=>
      have h:=UU.1;have JC:wr.cell? ⟨gb,q,none⟩=some (.iface 314 (.agg #[i5 d,.bool a.B0,i5 a.v,i5 k2,.bool b.B0,i5 b.v])):=KM;have QZ:∀w,(method 492 314 (.agg #[i5 d,.bool a.B0,i5 a.v,i5 k2,.bool b.B0,i5 b.v]) "String").run prog w= .ok (272,.agg #[i5 d,.bool a.B0,i5 a.v,i5 k2,.bool b.B0,i5 b.v]) w:=fun _=>Fd
      have GR:=hid (mi d a k2 b h.1 h.2.1 h.2.2.1 h.2.2.2);clear KM;go_wp2_with fail;refine(GR _ (T.quiet HM)).mono ?_;rintro e w2 ⟨rfl,C4⟩;clear GR QZ JC h;have Qc:=hid (HA.quiet C4);have Ik:=hid (HM.Ad C4);clear HA HM C4;go_wp2_with fail;refine(US (GI.Ae (.DL d a k2 b)) Qc Ik (by have:=Uk.out;have:=XH.out;simp only[V,d5];omega) _ rfl).mono ?_;rintro e w3 ⟨rfl,P7,Kn⟩;clear Qc Ik;have Qb:=hid P7;have KV:=hid Kn;clear P7 Kn;go_wp2_with fail;refine(Xj Qb KV (by have:=Uk.out;have:=XH.out;simp only[V,d5];omega)).mono ?_;rintro e w4 ⟨rfl,P6,OF⟩;clear Qb KV;have Yi:=hid P6;have Vo:=hid OF;clear P6 OF;obtain⟨s1,Lk⟩:∃s,s=Ay (GI.Ae (.DL d a k2 b)):=⟨_,rfl⟩;exact mah
     | out a=>
      have h:=UU.1;have JC:wr.cell? ⟨gb,q,none⟩=some (.iface 276 (.agg #[.bool a.B0,i5 a.v])):=KM;have QZ:∀w,(method 492 276 (.agg #[.bool a.B0,i5 a.v]) "String").run prog w= .ok (255,.agg #[.bool a.B0,i5 a.v]) w:=fun _=>Fd
      have GR:=hid (rk a h);clear KM;go_wp2_with fail;refine(GR _ (T.quiet HM)).mono ?_;rintro e w2 ⟨rfl,C4⟩;clear GR QZ JC h;have Qc:=hid (HA.quiet C4);have Ik:=hid (HM.Ad C4);clear HA HM C4;go_wp2_with fail;refine(US (GI.Ae (.out a)) Qc Ik (by have:=Uk.out;have:=XH.out;simp only[V,d5];omega) _ rfl).mono ?_;rintro e w3 ⟨rfl,P7,Kn⟩;clear Qc Ik;have Qb:=hid P7;have KV:=hid Kn;clear P7 Kn;go_wp2_with fail;refine(Xj Qb KV (by have:=Uk.out;have:=XH.out;simp only[V,d5];omega)).mono ?_;rintro e w4 ⟨rfl,P6,OF⟩;clear Qb KV;have Yi:=hid P6;have Vo:=hid OF;clear P6 OF;obtain⟨s1,Lk⟩:∃s,s=Ay (GI.Ae (.out a)):=⟨_,rfl⟩;exact mah
     | Gb k2=>
      have h:=UU.1;have JC:wr.cell? ⟨gb,q,none⟩=some (.iface 280 (.agg #[i5 k2])):=KM;have QZ:∀w,(method 492 280 (.agg #[i5 k2]) "String").run prog w= .ok (257,.agg #[i5 k2]) w:=fun _=>Fd
      have GR:=hid (rq k2 (aV h.1 h.2));clear KM;go_wp2_with fail;refine(GR _ (T.quiet HM)).mono ?_;rintro e w2 ⟨rfl,C4⟩;clear GR QZ JC h;have Qc:=hid (HA.quiet C4);have Ik:=hid (HM.Ad C4);clear HA HM C4;go_wp2_with fail;refine(US (GI.Ae (.Gb k2)) Qc Ik (by have:=Uk.out;have:=XH.out;simp only[V,d5];omega) _ rfl).mono ?_;rintro e w3 ⟨rfl,P7,Kn⟩;clear Qc Ik;have Qb:=hid P7;have KV:=hid Kn;clear P7 Kn;go_wp2_with fail;refine(Xj Qb KV (by have:=Uk.out;have:=XH.out;simp only[V,d5];omega)).mono ?_;rintro e w4 ⟨rfl,P6,OF⟩;clear Qb KV;have Yi:=hid P6;have Vo:=hid OF;clear P6 OF;obtain⟨s1,Lk⟩:∃s,s=Ay (GI.Ae (.Gb k2)):=⟨_,rfl⟩;exact mah
     | jz a k2=>
      have h:=UU.1;have JC:wr.cell? ⟨gb,q,none⟩=some (.iface 299 (.agg #[.bool a.B0,i5 a.v,i5 k2])):=KM;have QZ:∀w,(method 492 299 (.agg #[.bool a.B0,i5 a.v,i5 k2]) "String").run prog w= .ok (268,.agg #[.bool a.B0,i5 a.v,i5 k2]) w:=fun _=>Fd
      have GR:=hid (x7 a k2 h.1 (aV h.2.1 h.2.2));clear KM;go_wp2_with fail;refine(GR _ (T.quiet HM)).mono ?_;rintro e w2 ⟨rfl,C4⟩;clear GR QZ JC h;have Qc:=hid (HA.quiet C4);have Ik:=hid (HM.Ad C4);clear HA HM C4;go_wp2_with fail;refine(US (GI.Ae (.jz a k2)) Qc Ik (by have:=Uk.out;have:=XH.out;simp only[V,d5];omega) _ rfl).mono ?_;rintro e w3 ⟨rfl,P7,Kn⟩;clear Qc Ik;have Qb:=hid P7;have KV:=hid Kn;clear P7 Kn;go_wp2_with fail;refine(Xj Qb KV (by have:=Uk.out;have:=XH.out;simp only[V,d5];omega)).mono ?_;rintro e w4 ⟨rfl,P6,OF⟩;clear Qb KV;have Yi:=hid P6;have Vo:=hid OF;clear P6 OF;obtain⟨s1,Lk⟩:∃s,s=Ay (GI.Ae (.jz a k2)):=⟨_,rfl⟩;exact mah
     | EF k2=>
      have h:=UU.1;have JC:wr.cell? ⟨gb,q,none⟩=some (.iface 294 (.agg #[i5 k2])):=KM;have QZ:∀w,(method 492 294 (.agg #[i5 k2]) "String").run prog w= .ok (264,.agg #[i5 k2]) w:=fun _=>Fd
      have GR:=hid (mn k2 (aV (Int.le_trans AC h.1) h.2));clear KM;go_wp2_with fail;refine(GR _ (T.quiet HM)).mono ?_;rintro e w2 ⟨rfl,C4⟩;clear GR QZ JC h;have Qc:=hid (HA.quiet C4);have Ik:=hid (HM.Ad C4);clear HA HM C4;go_wp2_with fail;refine(US (GI.Ae (.EF k2)) Qc Ik (by have:=Uk.out;have:=XH.out;simp only[V,d5];omega) _ rfl).mono ?_;rintro e w3 ⟨rfl,P7,Kn⟩;clear Qc Ik;have Qb:=hid P7;have KV:=hid Kn;clear P7 Kn;go_wp2_with fail;refine(Xj Qb KV (by have:=Uk.out;have:=XH.out;simp only[V,d5];omega)).mono ?_;rintro e w4 ⟨rfl,P6,OF⟩;clear Qb KV;have Yi:=hid P6;have Vo:=hid OF;clear P6 OF;obtain⟨s1,Lk⟩:∃s,s=Ay (GI.Ae (.EF k2)):=⟨_,rfl⟩;exact mah
     | halt=>
      have h:=UU.1;have JC:wr.cell? ⟨gb,q,none⟩=some (.iface 173 (.agg #[])):=KM;have QZ:∀w,(method 492 173 (.agg #[]) "String").run prog w= .ok (229,.agg #[]) w:=fun _=>Fd
      have GR:=hid (my);clear KM;go_wp2_with fail;refine(GR _ (T.quiet HM)).mono ?_;rintro e w2 ⟨rfl,C4⟩;clear GR QZ JC h;have Qc:=hid (HA.quiet C4);have Ik:=hid (HM.Ad C4);clear HA HM C4;go_wp2_with fail;refine(US (GI.Ae (.halt)) Qc Ik (by have:=Uk.out;have:=XH.out;simp only[V,d5];omega) _ rfl).mono ?_;rintro e w3 ⟨rfl,P7,Kn⟩;clear Qc Ik;have Qb:=hid P7;have KV:=hid Kn;clear P7 Kn;go_wp2_with fail;refine(Xj Qb KV (by have:=Uk.out;have:=XH.out;simp only[V,d5];omega)).mono ?_;rintro e w4 ⟨rfl,P6,OF⟩;clear Qb KV;have Yi:=hid P6;have Vo:=hid OF;clear P6 OF;obtain⟨s1,Lk⟩:∃s,s=Ay (GI.Ae (.halt)):=⟨_,rfl⟩;exact mah
     | IV=>exact UV rfl UU.2
    ·have hqc:q=t.length:=Y
     subst hqc;have HA:=hid hA;have HM:=hid hM;clear hA hM;have inc:True->wrap64 ((k:Int)+1)=k+1:=fun _=>JR k (Qb6 Ta AC)
     go_wp2;go_roundw;case rel=>exact⟨k+1,rfl,DJ,by rw[Hts.out];exact HA.out,HM⟩
     case measure=>simp[intOf];omega
  ·have NS:k=ls.length:=Y
   subst NS;rw[Qcc] at hA;have HA:=hid hA;have HM:=hid hM;clear hA hM;go_wp2_with fail;refine(AfU HA HM).mono ?_;rintro e w1 ⟨rfl,hm⟩;go_wp2;go_ret;exact⟨rfl,hm⟩
def F6 (y:qr):By:=DY (CL y.cells y.Aa y.Aa.length)
def AeM (res:Except (Int×Nat) qr) (w:World) (e:Ending) (w':World):Prop:=match res with
 | .error c=>∃fb,e= .returned (.tuple #[.string ⟨#[]⟩,.iface 123 (i6 fb)])/\BM w' fb #[i5 c.1,i5 c.2] 127/\Av [] w w'
 | .ok y=>e= .returned (.tuple #[.string (Ay (F6 y)),.nilIface])/\Av [] w w'
theorem Z4 (mb:Nat) (s:ByteArray) (w:World) (hg:Gl mb w) (hs:s.size<=1000000):
  Calls prog 33 #[.string s] w (AeM (Fv (bs s)) w):=by
 have Hp:=hid (je mb s w hg hs);have HG:=hid hg;clear hg;go_enter func33,ntmps33;go_wp2_with fail;refine Hp.mono ?_;intro e w1 he;clear Hp;cases hr:Fv (bs s) with
 | error c=>
  rw[hr] at he;obtain⟨fb,II,hb,hm⟩:=he;subst II;have Hb:=hid hb;have Hm:=hid hm;have HR:=hid hr;clear hr hb hm;go_wp2;go_ret2;rw[HR.out];exact⟨fb,rfl,Hb,Hm⟩
 | ok y=>
  rw[hr] at he;obtain⟨F,pb,tp,tc,rows,II,hm,hK,J1,IN,Ms⟩:=he;subst II;have bp:=YL (bs s);rw[hr] at bp;obtain⟨p,hP⟩:∃p,PS y p:=by
   unfold lV at bp;cases hq:Fp (bs s) with
   | error d=>rw[hq] at bp;exact bp.elim
   | ok p=>rw[hq] at bp;exact⟨p,bp⟩
  obtain⟨Adv,AbK,fW,h3⟩:=JG hP;have AeH:=hid (vP F y.cells ⟨hP.fw.c0,fW⟩ y.Aa pb tp tc rows w1 hK J1 IN Ms h3 (fun t ht=>⟨(AbK t ht).1,(AbK t ht).2,by have:=hP.fn.all t ht;have:=Z8 t;omega⟩));have Hth:=hid Adv;have Hm:=hid hm;have HP:=hid hP;have HR:=hid hr;clear hr bp hm hK J1 IN Ms Adv AbK hP fW;go_wp2_with fail;refine AeH.mono ?_;intro e w2 he;obtain⟨op,oc,cs,II,Mv,AD⟩:=he;subst II;have C4:Av [] w1 w2:=AD.Bf.mono fun x hx=>by simp[D4] at hx
  have Db:=Is y.cells y.Aa y.Aa.length;have Ct:Az w2 (IJ op (CL y.cells y.Aa y.Aa.length).length oc cs (CL y.cells y.Aa y.Aa.length)):=by rw[Db];exact AD.Am
  have AaW:=hid (qX _ op oc cs w2 Ct (by rw[Db,Mv]) ((HG.quiet Hm).quiet C4).tab (fun l hl i hi=>⟨(Hth l hl).2.1 i hi,fun e=>by have:=(Hth l hl).2.1 i hi;rw[e] at this;exact this⟩) (U2 HP) (by rw[Db];omega) (fun l hl=>by have:=(Hth l hl).1;omega));rw[Db] at AaW;have ZT:=hid (Hm.Ad C4);clear Mv AD C4 Db Ct h3;go_wp2_with fail;refine AaW.mono ?_;intro e w3 he;obtain⟨II,Q0⟩:=he;subst II;have xu:=hid (ZT.Ad Q0);clear Q0;go_wp2;go_ret2;rw[HR.out];exact⟨rfl,xu⟩
def jL (res:Except (Int×Nat) qr) (w:World) (e:Ending) (w':World):Prop:=Av [] w w'/\match res with
 | .error c=>e= .returned (.tuple #[.string ⟨#[]⟩,i5 c.1,i5 c.2])
 | .ok y=>e= .returned (.tuple #[.string (Ay (F6 y)),i5 0,i5 0])
theorem Yk.quiet (h:Yk w) (k:Av [] w w'):Yk w':=AU k h
theorem aB (mb:Nat) (s:ByteArray) (w:World) (hg:Gl mb w) (ht:Yk w) (hs:s.size<=1000000):
  Calls prog 22 #[.string s] w (jL (Fv (bs s)) w):=by
 have Hc:=hid (Z4 mb s w hg hs);have Ht:=hid ht;clear hg ht;go_enter func22,ntmps22;go_wp2_with fail;refine Hc.mono ?_;intro e w1 he;cases hr:Fv (bs s) with
 | error c=>
  rw[hr] at he;obtain⟨fb,II,hb,hm⟩:=he;subst II;have HT:=hid (gk fb c.1 c.2 w1 hb (Ht.quiet hm));have HM:=hid hm;have HR:=hid hr;clear hr hb hm;exact mbm
 | ok y=>
  rw[hr] at he;obtain⟨II,hm⟩:=he;subst II;have HT:=hid (xP w1);have HM:=hid hm;have HR:=hid hr;clear hr hm;exact mbm
theorem TW {n:Nat} {r:RS} (h:G9 n r= .error c):((c.1:Int) !=0)=true:=by
 unfold G9 at h;split at h
 ·cases h;rfl
 split at h
 ·cases h;rfl
 ·cases h
theorem VV:∀(l:List By) (n:Nat) (r:RS) (c:Int×Nat),I2 l n r= .error c->((c.1:Int) !=0)=true
 | [],n,r,c,h=>TW h
 | [p],n,r,c,h=>by
  unfold I2 at h;split at h
  ·exact TW h
  ·cases h;rfl
 | p::q::l,n,r,c,h=>by
  unfold I2 at h;split at h
  ·split at h
   ·rename_i hr;cases h;exact cX hr
   ·exact VV _ _ _ _ h
  ·cases h;rfl
theorem mM {s:By} (h:Fp s= .error c):((c.1:Int) !=0)=true:=by
 unfold Fp at h;split at h
 ·cases h;rfl
 ·exact VV _ _ _ _ h
def jU (s:By) (w:World) (e:Ending) (w':World):Prop:=match Fp s with
 | .error _=>e= .returned (.tuple #[.string ⟨#[]⟩,.pointer none,.bool true])/\Av [] w w'
 | .ok p=>∃(y:qr) (g:RG) (R:RS),PS y p/\R.p=p/\Dq g R/\e= .returned (.tuple #[.string (Ay (F6 y)),i6 g.pb,.bool true])/\Ak w [] w' (g.rest R)
theorem bP (mb:Nat) (s:ByteArray) (w:World) (hg:Gl mb w) (ht:Yk w) (hs:s.size<=1000000):
  Calls prog 9 #[.string s] w (jU (bs s) w):=by
 have Hc:=hid (aB mb s w hg ht hs);have Hs:=hid hs;clear hg ht hs;have bp:=YL (bs s);cases hf:Fv (bs s) with
 | error c=>
  rw[hf] at bp;cases hr:Fp (bs s) with
  | ok p=>rw[hr] at bp;exact bp.elim
  | error d=>
   rw[hr] at bp;obtain rfl:c=d:=bp;have he:=mM hr;have q1:((c.1:Int) !=c.1)=false:=EQ
   have q2:((c.2:Int) !=(c.2:Int))=false:=EQ
   have HF:=hid hf;have HR:=hid hr;clear hf hr;go_enter func9,ntmps9;go_wp2_with fail;refine Hc.mono ?_;intro e w1 he;unfold jL at he;rw[HF.out] at he;obtain⟨hm,II⟩:=he;subst II;have Hr:=hid (YI s w1 Hs);have HM:=hid hm;clear hm Hc;go_wp2_with fail;refine Hr.mono ?_;intro e w2 he;rw[HR.out] at he;obtain⟨II,hm⟩:=he;subst II;have Ik:=hid (HM.Ad hm);clear hm Hr;go_wp2;go_ret3;unfold jU;rw[HR.out];exact⟨rfl,Ik⟩
 | ok y=>
  rw[hf] at bp;cases hr:Fp (bs s) with
  | error d=>rw[hr] at bp;exact bp.elim
  | ok p=>
   rw[hr] at bp;have HP:=hid (show PS y p from bp);have HF:=hid hf;have HR:=hid hr;clear hf hr bp;go_enter func9,ntmps9;go_wp2_with fail;refine Hc.mono ?_;intro e w1 he;unfold jL at he;rw[HF.out] at he;obtain⟨hm,II⟩:=he;subst II;have Hr:=hid (YI s w1 Hs);have HM:=hid hm;clear hm Hc;go_wp2_with fail;refine Hr.mono ?_;intro e w2 he;rw[HR.out] at he;obtain⟨g,R,hR,hL,II,AD⟩:=he;subst II;have Hl:=hid (dL (Ay (F6 y)) w2 (by rw[Kd];unfold F6;exact U2 HP));have Ik:=hid AD;have HL:=hid hL;have HRp:=hid hR;clear AD Hr hL hR;go_wp2_with fail;refine Hl.mono ?_;intro e w3 he;rw[show bs (Ay (F6 y))=F6 y from Cw _] at he;unfold F6 at he;rw[W7 HP.out] at he;obtain⟨mb,mv,tv,xs,II,hM,hm,_⟩:=he;subst II;obtain⟨hb,_,hto,Fa,_,_⟩:=hM;obtain⟨tp,tc,rfl,_,_⟩:=Rl hto;have hlen:xs.length=R.p.Aa.length:=by
    rw[Fa,HRp.out,HP.out.Aa];simp[CL]
   have h3:R.p.Aa.length<=3:=by
    have:=(JG HP).2.2.2;rw[HRp.out,HP.out.Aa,z9];exact this
   have m1:=hb.cell 1;have p0:=((Ik.Am.Au (i:=0) rfl).Bf hm EQ).cell 0;have HS:=hid (show Ak w [] w3 (g.rest R) from(Ak.quiet (Az.nil w) HM).trans (Ik.trans (Ak.quiet Ik.Am hm)));rw[hlen] at m1;have q:((R.p.Aa.length:Int)==(R.p.Aa.length:Int))=true:=EQ
   clear hb hto Fa hm Hl Ik HM hlen;go_upto_region 8 with fail
   refine BR (l:=[(0,true),(1,true),(2,true),(3,true),(4,true),(5,true),(6,true),(7,true),(8,true),(9,true),(10,true),(11,true),(12,true),(13,true),(14,true),(15,true),(16,true),(17,true),(18,true),(19,false)]) (fun W=>W.cell? ⟨mb,1,none⟩=some (.slice tp R.p.Aa.length tc)/\W.cell? ⟨g.pb,0,none⟩=some (.slice g.t.p R.p.Aa.length g.t.c)) 19 ⟨m1,p0⟩ ?_;refine KQ ?_;refine Ch rfl (fun K hK=> ?_);go_simp;refine hK _ _ (fun h=>UV h AC) ?_;clear hK;simp only[DP];go_wp2;go_ret3;unfold jU;rw[HR.out];exact⟨y,g,R,HP,HRp,HL,rfl,HS.trans (Ak.drew HS.Am)⟩
end Go.Proofs.YtpdfifdlhpmofaaGreatDoor
