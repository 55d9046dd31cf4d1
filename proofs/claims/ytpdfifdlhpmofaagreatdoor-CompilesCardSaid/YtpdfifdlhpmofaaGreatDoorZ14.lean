/-
  Part 14 of the proof, packed by program out of P11, P12.
-/
import Derived.Test.YtpdfifdlhpmofaaGreatDoorZ13
set_option linter.unusedVariables false
set_option linter.unusedSimpArgs false
set_option maxHeartbeats 3200000
set_option maxRecDepth 100000
namespace Go.Proofs.YtpdfifdlhpmofaaGreatDoor
open Go.RowKit
open Go.Lib (hid)
def Sa (v:Int):Prop:= -9223372036854775808≤v∧v≤9223372036854775807
theorem UY (n:Int):Sa (wrap64 n):=by unfold Sa wrap64;omega
theorem Tq (b:Bool) (l:By) (v x:Int) (hv:Sa v) (h:D5 b l v=some x):Sa x:=by
 induction l generalizing v with
 | nil=>simp[D5] at h;subst h;exact hv
 | cons c r ih=>
  unfold D5 at h;split at h
  ·cases h
  ·refine ih _ ?_ h;split <;>exact UY _
theorem Vq {l:By} {v:Int} (h:number l=some v):Sa v:=by
 rw[Mw l (l.headD 0==45) (if (l.headD 0==45)=true then l.tail else l) (if (l.headD 0==45)=true then IP else IN) rfl rfl rfl] at h;generalize (if (l.headD 0==45)=true then l.tail else l)=T at h;generalize (if (l.headD 0==45)=true then IP else IN)=M at h;generalize (l.headD 0==45)=B at h;by_cases hb:Fy B T M=true
 ·rw[if_pos hb] at h;cases h
 ·rw[if_neg hb] at h;exact Tq _ _ _ _ (by unfold Sa;omega) h
def LJ (w:Wd):Prop:=Sa w.v
theorem aW (a:ByteArray):LJ (DA a):=by
 unfold DA;split
 ·simp[LJ,Sa]
 ·unfold LJ;cases h:number (bs a) with
  | none=>simp[Sa]
  | some v=>exact Vq h
theorem Jl {l:Ws} {w:Wd} {r:Ws} (h:EG l=some (w,r)):LJ w:=by
 cases l with
 | nil=>cases h
 | cons a q=>
  rw[BW] at h;split at h
  ·cases h;exact aW a
  ·cases h
theorem LJ.zero:LJ .zero:=by simp[LJ,Sa,Wd.zero]
theorem jo {l:Ws} {w:Wd} {r:Ws} (h:jQ l=some (w,r)):LJ w:=by
 cases l with
 | nil=>cases h;exact .zero
 | cons a q=>
  rw[Di] at h;split at h
  ·exact Jl h
  ·cases h;exact .zero
theorem Vl (l:List ByteArray) (x:ByteArray) (k:Nat):DC l x k= -1∨(k≤DC l x k∧DC l x k < k+l.length):=by
 induction l generalizing k with
 | nil=>exact .inl rfl
 | cons a r ih=>
  unfold DC;split
  ·right;simp;omega
  ·rcases ih (k+1) with h | h
   ·exact .inl h
   ·right;simp at h⊢;omega
theorem LW (l:List ByteArray) (x:ByteArray):Bf l x < l.length:=by
 rcases Vl l x 0 with h | h
 ·unfold Bf;omega
 ·unfold Bf;omega
theorem fz {a op:ByteArray} (h:Z1 a=some op):op∈Cn:=by
 unfold Z1 at h;split at h
 ·rename_i h0;cases h;have hb:=LW Dc a;have e:Dc.length=12:=rfl;have:(Bf Dc a).toNat < Cn.length:=by
   have:Cn.length=12:=rfl;omega
  unfold wd;rw[List.getD_eq_getElem?_getD,List.getElem?_eq_getElem this];exact List.getElem_mem this
 ·cases h
def mW:OH→Prop
 | .set _ a op b=>LJ a∧(op.size=0∨op∈Cn)∧LJ b
 | .get _ _ a=>LJ a
 | .put _ a i=>LJ a∧LJ i
 | .out a=>LJ a
 | .atomic=>True
 | .ES a=>LJ a
 | .loop n=>1≤n∧n≤4
theorem Dj {α:Type} {x y:α} {l:Ws} (h:FZ x l=some y):x=y:=by
 cases l with
 | nil=>cases h;rfl
 | cons a r=>cases h
theorem kC {w:ByteArray} {r:Ws} {s:OH} (h:GU w r=some s):mW s:=by
 unfold GU at h;split at h
 ·unfold HU at h;split at h
  ·cases h
  ·split at h
   ·cases h
   ·rename_i hw;cases h;exact⟨Jl hw,.inl rfl,.zero⟩
   ·rename_i hw;split at h
    ·cases h
    ·rename_i ho;split at h
     ·cases h
     ·rename_i Ew;have:=Dj h;subst this;exact⟨Jl hw,.inr (fz ho),Jl Ew⟩
 split at h
 ·unfold Js at h;split at h
  ·cases h
  ·split at h
   ·cases h
   ·split at h
    ·cases h
    ·rename_i ha;have:=Dj h;subst this;exact jo ha
 split at h
 ·unfold Jq at h;split at h
  ·cases h
  ·split at h
   ·cases h
   ·rename_i hw;split at h
    ·cases h
    ·rename_i ha;have:=Dj h;subst this;exact⟨Jl hw,jo ha⟩
 split at h
 ·unfold ED at h;split at h
  ·cases h
  ·rename_i hw;have:=Dj h;subst this;exact Jl hw
 split at h
 ·have:=Dj h;subst this;trivial
 split at h
 ·unfold ED at h;split at h
  ·cases h
  ·rename_i hw;have:=Dj h;subst this;exact Jl hw
 split at h
 ·unfold I1 at h;split at h
  ·cases h
  ·rename_i hu;have:=Dj h;subst this;unfold Gx at hu;split at hu
   ·cases hu
   ·split at hu
    ·rename_i hc;cases hu;exact⟨hc.2.1,hc.2.2⟩
    ·cases hu
 ·cases h
def IF.ok (k:IF) (i:Bool):Prop:=match k with
 | .atomic=>i=false
 | .ES a=>Gn a
 | .loop n=>1≤n∧n≤4
def jw (cells:Int):List Fr→Nat→Bool→Prop
 | [],_,_=>True
 | f::fs,d,i=>f.kind.ok i∧d < 3∧WF cells f.body (d+1) (i || f.kind.Cr)∧jw cells fs (d+1) (i || f.kind.Cr)
theorem QV (cells:Int) (fs gs:List Fr) (d:Nat) (i:Bool):jw cells (fs++gs) d i↔jw cells fs d i∧jw cells gs (d+fs.length) (i || fs.any fun f=>f.kind.Cr):=by
 induction fs generalizing d i with
 | nil=>simp[jw]
 | cons f fs ih=>
  simp only[List.cons_append,jw,ih,List.length_cons,List.any_cons,Bool.or_assoc,show d+1+fs.length=d+(fs.length+1) by omega,and_assoc]
structure FW (x:qr):Prop where
 c0:0≤x.cells
 sh:∀s,s∈x.Aw→0≤s.first∧1≤s.size∧s.first+s.size≤x.cells
 ll:x.AB.length≤4
 th:∀t,t∈x.Aa→WF x.cells t 0 false
 wo:jw x.cells x.Ai 0 false
 te:x.Aa=[]→x.Ai=[]
def JR:Ck→Int
 | .nil=>0
 | .set _ _ _ _ r=>1+JR r
 | .get _ _ _ _ r=>1+JR r
 | .put _ _ _ _ r=>1+JR r
 | .out _ r=>1+JR r
 | .atomic b r=>1+JR b+JR r
 | .ES _ b r=>1+JR b+JR r
 | .loop _ b r=>1+JR b+JR r
theorem U7 (s t:Ck):JR (s.Ec t)=JR s+JR t:=by
 induction s <;>simp_all[Ck.Ec,JR] <;>omega
def Iv:List Fr→Int
 | []=>0
 | f::fs=>1+JR f.body+Iv fs
theorem Rm (a b:List Fr):Iv (a++b)=Iv a+Iv b:=by
 induction a with
 | nil=>simp[Iv]
 | cons f fs ih=>simp only[List.cons_append,Iv,ih];omega
theorem Rl (s:Ck):0≤JR s:=by induction s <;>simp_all[JR] <;>omega
theorem U8 (l:List Fr):0≤Iv l:=by
 induction l with
 | nil=>simp[Iv]
 | cons f fs ih=>have:=Rl f.body;simp only[Iv];omega
structure FN (x:qr):Prop where
 s0:0≤x.Am
 s1:x.Am≤14
 all:∀t,t∈x.Aa→JR t≤14
 qz:∀ts t,x.Aa=ts++[t]→JR t+Iv x.Ai≤x.Am
theorem FW.Dk:FW .Dk:=by
 refine⟨?_,?_,?_,?_,?_,?_⟩ <;>simp[qr.Dk,jw]
theorem FN.Dk:FN .Dk:=by
 refine⟨?_,?_,?_,?_⟩ <;>simp[qr.Dk]
theorem UT {x:qr} {ts:List Ck} {t:Ck} (ht:x.Aa=ts++[t]) (s:Ck→Ck):
  (x.Ai=[]∧x.add s={x with Aa:=ts++[t.Ec (s .nil)]})∨∃fs f,x.Ai=fs++[f]∧x.add s={x with Ai:=fs++[{f with body:=f.body.Ec (s .nil)}]}:=by
 rcases List.eq_nil_or_concat x.Ai with h0 | ⟨fs,f,h0⟩
 ·left;refine⟨h0,?_⟩;unfold qr.add;simp[h0,ht]
 ·rw[List.concat_eq_append] at h0;right;refine⟨fs,f,h0,?_⟩;unfold qr.add;simp[h0]
theorem QN {α:Type} {l:List α} (h:l≠[]):∃a b,l=a++[b]:=by
 rcases List.eq_nil_or_concat l with h0 | ⟨ts,t,h0⟩
 ·exact absurd h0 h
 ·exact⟨ts,t,by rw[h0,List.concat_eq_append]⟩
theorem FW.add {x:qr} (h:FW x) (ht:x.Aa≠[]) (s:Ck→Ck) (hs:WF x.cells (s .nil) x.Ai.length x.BE):FW (x.add s):=by
 obtain⟨ts,t,ht⟩:=QN ht;obtain⟨c0,sh,ll,th,wo,te⟩:=h;rcases UT ht s with⟨h0,e⟩ | ⟨fs,f,h0,e⟩
 ·rw[e];unfold qr.BE at hs;rw[h0] at hs;refine⟨c0,sh,ll,fun u hu=> ?_,wo,fun hh=>by simp at hh⟩;simp only[List.mem_append,List.mem_singleton] at hu;rcases hu with hu | rfl
  ·exact th u (by rw[ht];simp[hu])
  ·exact WF.Ec (th t (by rw[ht];simp)) hs
 ·rw[e];unfold qr.BE at hs;rw[h0] at hs wo;rw[QV] at wo;refine⟨c0,sh,ll,th,?_,fun hh=>by rw[ht] at hh;simp at hh⟩;show jw x.cells (fs++[{f with body:=f.body.Ec (s .nil)}]) 0 false;rw[QV];refine⟨wo.1,wo.2.1,wo.2.2.1,WF.Ec wo.2.2.2.1 ?_,trivial⟩;simpa using hs
theorem FN.add {x:qr} {ts:List Ck} {t:Ck} (ht:x.Aa=ts++[t]) (FV:∀t,t∈ts→JR t≤14) (s:Ck→Ck) (n:Int) (h0:0≤n) (Kj:n≤14)
  (Qp:JR t+Iv x.Ai+JR (s .nil)≤n):FN {x.add s with Am:=n}:=by
 have ld:=U8 x.Ai;rcases UT ht s with⟨ho,e⟩ | ⟨fs,f,ho,e⟩
 ·rw[e];rw[ho] at Qp;refine⟨h0,Kj,fun u hu=> ?_,fun us u hu=> ?_⟩
  ·simp only[List.mem_append,List.mem_singleton] at hu;rcases hu with hu | rfl
   ·exact FV u hu
   ·rw[U7];simp[Iv] at Qp;omega
  ·have cG:ts++[t.Ec (s .nil)]=us++[u]:=hu;obtain⟨rfl,gB⟩:=List.append_inj' cG rfl;cases gB;show JR _+Iv x.Ai≤n;rw[ho,U7];simp[Iv] at Qp⊢;omega
 ·rw[e];refine⟨h0,Kj,fun u hu=> ?_,fun us u hu=> ?_⟩
  ·have cG:u∈x.Aa:=hu;rw[ht] at cG;simp only[List.mem_append,List.mem_singleton] at cG;rcases cG with cG | rfl
   ·exact FV u cG
   ·have:=Rl (s .nil);omega
  ·have cG:x.Aa=us++[u]:=hu;rw[ht] at cG;obtain⟨rfl,gB⟩:=List.append_inj' cG rfl;cases gB;show JR t+Iv (fs++[_])≤n;rw[ho] at Qp;rw[Rm] at Qp⊢;simp only[Iv,U7] at Qp⊢;omega
theorem FW.DH {x:qr} (h:FW x) (ht:x.Aa≠[]) (k:IF) (hk:k.ok x.BE) (h3:x.Ai.length < 3):FW (x.DH k):=by
 obtain⟨c0,sh,ll,th,wo,te⟩:=h;refine⟨c0,sh,ll,th,?_,fun hh=>absurd hh ht⟩;show jw x.cells (x.Ai++[⟨k,.nil⟩]) 0 false;rw[QV];refine⟨wo,?_,by omega,trivial,trivial⟩;simpa[qr.BE] using hk
theorem MR {x:qr} (h:x.AB.length≤4) {w:Wd} (hw:LJ w) {a:At} (he:x.CA w= .ok a):Gn a:=by
 unfold qr.CA at he;split at he
 ·cases he;simpa[Gn,LJ,Sa] using hw
 ·split at he
  ·cases he;have:=LW x.AB w.name;simp[Gn];omega
  ·cases he
theorem WX {x:qr} (h:FW x) {n:ByteArray} {v:Int} {y:qr} (he:x.Dd n= .ok (v,y)):FW y∧(0≤v∧v < 4)∧y.Aa=x.Aa∧y.Ai=x.Ai∧y.Am=x.Am∧y.cells=x.cells:=by
 unfold qr.Dd at he;split at he
 ·cases he
 ·split at he
  ·cases he;have:=LW x.AB n;have:=h.ll;exact⟨h,by omega,rfl,rfl,rfl,rfl⟩
  ·split at he
   ·cases he
   ·cases he;have:=h.ll;exact⟨⟨h.c0,h.sh,by simp;omega,h.th,h.wo,h.te⟩,by omega,rfl,rfl,rfl,rfl⟩
theorem aB {x:qr} (h:FW x) {n:ByteArray} {w:Wd} (hw:LJ w) {f z:Int} {a:At} (he:x.cell n w= .ok (f,z,a)):(0≤f∧1≤z∧f+z≤x.cells)∧Gn a:=by
 unfold qr.cell at he;cases hf:x.Pk n with
 | none=>rw[hf] at he;cases he
 | some s=>
  rw[hf] at he;simp only[] at he;cases ha:x.CA w with
  | error c=>rw[ha] at he;cases he
  | ok b=>
   rw[ha] at he;cases he;exact⟨h.sh s (List.mem_of_find?_eq_some hf),MR h.ll hw ha⟩
theorem VJ {x y:qr} (h:FW x) (ht:x.Aa≠[]) {s:OH} (hs:mW s) (hb:s.Cr=true→x.BE=true) (ha:s= .atomic→x.BE=false) (he:x.finish s= .ok y):
  ∃x',FW x'∧x'.Aa=x.Aa∧x'.Ai=x.Ai∧x'.Am=x.Am∧x'.cells=x.cells∧
   ((∃f,y=x'.add f∧WF x.cells (f .nil) x.Ai.length x.BE∧JR (f .nil)=1)∨∃k,y=x'.DH k∧k.ok x.BE):=by
 cases s with
 | set n a op b=>
  unfold qr.finish at he;simp only[] at he;cases h1:x.CA a with
  | error c=>rw[h1] at he;cases he
  | ok a'=>
   rw[h1] at he;simp only[] at he;cases h2:x.CA b with
   | error c=>rw[h2] at he;cases he
   | ok b'=>
    rw[h2] at he;simp only[] at he;cases h3:x.Dd n with
    | error c=>rw[h3] at he;cases he
    | ok q=>
     obtain⟨v,x'⟩:=q;rw[h3] at he;cases he;obtain⟨k1,k2,k3,k4,k5,k6⟩:=WX h h3;exact⟨x',k1,k3,k4,k5,k6,.inl ⟨_,rfl,⟨k2,hs.2.1,MR h.ll hs.1 h1,MR h.ll hs.2.2 h2,trivial⟩,by simp[JR]⟩⟩
 | get n s A5=>
  unfold qr.finish at he;simp only[] at he;cases h1:x.cell s A5 with
  | error c=>rw[h1] at he;cases he
  | ok q=>
   obtain⟨f,z,a⟩:=q;rw[h1] at he;simp only[] at he;cases h3:x.Dd n with
   | error c=>rw[h3] at he;cases he
   | ok q=>
    obtain⟨v,x'⟩:=q;rw[h3] at he;cases he;obtain⟨k1,k2,k3,k4,k5,k6⟩:=WX h h3;obtain⟨c1,c2⟩:=aB h hs h1;exact⟨x',k1,k3,k4,k5,k6,.inl ⟨_,rfl,⟨k2,c1,c2,hb rfl,trivial⟩,by simp[JR]⟩⟩
 | put s a A5=>
  unfold qr.finish at he;simp only[] at he;cases h1:x.cell s A5 with
  | error c=>rw[h1] at he;cases he
  | ok q=>
   obtain⟨f,z,i⟩:=q;rw[h1] at he;simp only[] at he;cases h2:x.CA a with
   | error c=>rw[h2] at he;cases he
   | ok a'=>
    rw[h2] at he;cases he;obtain⟨c1,c2⟩:=aB h hs.2 h1;exact⟨x,h,rfl,rfl,rfl,rfl,.inl ⟨_,rfl,⟨c1,c2,MR h.ll hs.1 h2,hb rfl,trivial⟩,by simp[JR]⟩⟩
 | out a=>
  unfold qr.finish at he;simp only[] at he;cases h1:x.CA a with
  | error c=>rw[h1] at he;cases he
  | ok a'=>
   rw[h1] at he;cases he;exact⟨x,h,rfl,rfl,rfl,rfl,.inl ⟨_,rfl,⟨MR h.ll hs h1,trivial⟩,by simp[JR]⟩⟩
 | atomic=>
  unfold qr.finish at he;cases he;exact⟨x,h,rfl,rfl,rfl,rfl,.inr ⟨_,rfl,ha rfl⟩⟩
 | ES a=>
  unfold qr.finish at he;simp only[] at he;cases h1:x.CA a with
  | error c=>rw[h1] at he;cases he
  | ok a'=>
   rw[h1] at he;cases he;exact⟨x,h,rfl,rfl,rfl,rfl,.inr ⟨_,rfl,MR h.ll hs h1⟩⟩
 | loop n=>
  unfold qr.finish at he;cases he;exact⟨x,h,rfl,rfl,rfl,rfl,.inr ⟨_,rfl,hs⟩⟩
theorem WB {w:ByteArray} {r:Ws} (h:GU w r=some .atomic):bs w=AF:=by
 unfold GU at h;split at h
 ·unfold HU at h;split at h
  ·cases h
  ·split at h
   ·cases h
   ·cases h
   ·split at h
    ·cases h
    ·split at h
     ·cases h
     ·have:=Dj h;cases this
 split at h
 ·unfold Js at h;split at h
  ·cases h
  ·split at h
   ·cases h
   ·split at h
    ·cases h
    ·have:=Dj h;cases this
 split at h
 ·unfold Jq at h;split at h
  ·cases h
  ·split at h
   ·cases h
   ·split at h
    ·cases h
    ·have:=Dj h;cases this
 split at h
 ·unfold ED at h;split at h
  ·cases h
  ·have:=Dj h;cases this
 split at h
 ·rename_i hk;exact hk
 split at h
 ·unfold ED at h;split at h
  ·cases h
  ·have:=Dj h;cases this
 split at h
 ·unfold I1 at h;split at h
  ·cases h
  ·have:=Dj h;cases this
 ·cases h
theorem FW.Wp {x:qr} (h:FW x) (n:Int):FW {x with Am:=n}:=⟨h.c0,h.sh,h.ll,h.th,h.wo,h.te⟩
theorem U5 {x y:qr} (h:FW x) (k:FN x) {w:ByteArray} {r:Ws} (he:x.AO w r= .ok y):FW y∧FN y:=by
 unfold qr.AO at he;cases hr:GU w r with
 | none=>rw[hr] at he;cases he
 | some s=>
  rw[hr] at he;simp only[] at he;split at he
  ·cases he
  ·rename_i Mb;cases hf:x.finish s with
   | error c=>rw[hf] at he;cases he
   | ok z=>
    rw[hf] at he;simp only[] at he;split at he
    ·cases he
    ·rename_i Eg;cases he;have ht:x.Aa≠[]:=fun h'=>Mb (.inl h')
     have hb:s.Cr=true→x.BE=true:=fun h1=>by
      cases hi:x.BE with
      | true=>rfl
      | false=>exact absurd (.inr (.inl ⟨h1,hi⟩)) Mb
     have ha:s= .atomic→x.BE=false:=fun h1=>by
      subst h1;cases hi:x.BE with
      | false=>rfl
      | true=>exact absurd (.inr (.inr ⟨WB hr,hi⟩)) Mb
     obtain⟨x',g1,g2,g3,g4,g5,iz⟩:=VJ h ht (kC hr) hb ha hf;have V4:x'.Aa≠[]:=by rw[g2];exact ht
     obtain⟨ts,t,p8⟩:=QN V4;have q8:x.Aa=ts++[t]:=by rw[←g2];exact p8
     have Tc:x'.BE=x.BE:=by unfold qr.BE;rw[g3]
     have Qp:=k.qz ts t q8;have dV:=k.s0;rcases iz with⟨f,rfl,c1,c2⟩ | ⟨q,rfl,c1⟩
     ·have AI:(x'.add f).Am=x.Am:=by rw[Pn V4,g4]
      rw[AI] at Eg⊢;have hl:x.Am+1≤14:=by
       apply Classical.byContradiction;intro hh;exact Eg (.inl (by omega))
      refine⟨(g1.add V4 f (by rw[g5,g3,Tc];exact c1)).Wp _,FN.add p8 (fun u hu=>k.all u (by rw[q8];simp[hu])) f _ (by omega) hl ?_⟩;rw[g3,c2];omega
     ·have AI:(x'.DH q).Am=x.Am:=g4;have Xc:(x'.DH q).EI=x.Ai.length+2:=by
       rw[RE (x:=x'.DH q) V4];unfold qr.DH;simp[g3]
      rw[AI,Xc] at Eg;rw[AI];have hl:x.Am+1≤14∧x.Ai.length < 3:=by
       constructor
       ·apply Classical.byContradiction;intro hh;exact Eg (.inl (by omega))
       ·apply Classical.byContradiction;intro hh;exact Eg (.inr (by omega))
      refine⟨(g1.DH V4 q (by rw[Tc];exact c1) (by rw[g3];exact hl.2)).Wp _,⟨by show 0≤x.Am+1;omega,hl.1,fun u hu=>k.all u (by rw[←g2];exact hu),fun us u hu=> ?_⟩⟩;have cG:x'.Aa=us++[u]:=hu;rw[g2] at cG;have:=k.qz us u cG;show JR u+Iv (x'.Ai++[⟨q,.nil⟩])≤x.Am+1;rw[Rm,g3];simp only[Iv,JR];omega
theorem Yp {r:Ws} {z:Int} {q:Ws} (h:(match r with | []=>some ((1:Int),([]:Ws)) | a::r=>Gx 6 (a::r))=some (z,q)):1≤z:=by
 split at h
 ·cases h;omega
 ·unfold Gx at h;split at h
  ·cases h
  ·split at h
   ·rename_i hc;cases h;exact hc.2.1
   ·cases h
theorem FN.fD {y:qr} {n:Int} (h:FN {y with Am:=n}) (e:y.Am=n):FN y:=by subst e;exact h
theorem qr.Yv {x y:qr} (h:FW x) (k:FN x) {l:Ws} (he:x.row l= .ok y):FW y∧FN y:=by
 cases l with
 | nil=>cases he
 | cons w r=>
  unfold qr.row at he;simp only[] at he;split at he
  ·unfold qr.DU at he;split at he
   ·cases he
   ·split at he
    ·cases he
    ·cases he
    ·rename_i hz;split at he
     ·cases he
     ·rename_i ht;split at he
      ·cases he
      ·cases he;have V4:x.Aa=[]:=by simpa using ht
       have EK:=Yp hz;refine⟨⟨by have:=h.c0;simp;omega,fun s hs=> ?_,h.ll,by simp[V4],by simp[h.te V4,jw],fun _=>h.te V4⟩,⟨k.s0,k.s1,k.all,k.qz⟩⟩;simp only[List.mem_append,List.mem_singleton] at hs;have:=h.c0;rcases hs with hs | rfl
       ·have:=h.sh s hs;simp;omega
       ·simp;omega
  split at he
  ·split at he
   ·cases he
   ·split at he
    ·cases he
    ·cases he;refine⟨⟨h.c0,h.sh,by simp,fun t ht=> ?_,trivial,fun hh=>by simp at hh⟩,⟨by simp,by simp,fun t ht=> ?_,fun ts t ht=> ?_⟩⟩
     ·simp only[List.mem_append,List.mem_singleton] at ht;rcases ht with ht | rfl
      ·exact h.th t ht
      ·trivial
     ·simp only[List.mem_append,List.mem_singleton] at ht;rcases ht with ht | rfl
      ·exact k.all t ht
      ·simp[JR]
     ·have V4:x.Aa++[Ck.nil]=ts++[t]:=ht;obtain⟨_,gB⟩:=List.append_inj' V4 rfl;cases gB;simp[JR,Iv]
  split at he
  ·split at he
   ·cases he
   ·cases ho:x.Ai.getLast? with
    | none=>rw[ho] at he;cases he
    | some f=>
     rw[ho] at he;cases he;have BQ:x.Ai≠[]:=fun h'=>by rw[h'] at ho;cases ho
     obtain⟨fs,f',qe⟩:=QN BQ;have:f'=f:=by rw[qe] at ho;simpa using ho
     subst this;have ht:x.Aa≠[]:=fun h'=>BQ (h.te h')
     obtain⟨ts,t,p8⟩:=QN ht;have uV:=h.wo;rw[qe,QV] at uV;obtain⟨w1,w2,w3,w4,_⟩:=uV;have hx:FW {x with Ai:=x.Ai.dropLast}:=⟨h.c0,h.sh,h.ll,h.th,by rw[qe];simpa using w1,fun hh=>absurd hh ht⟩;have Qp:=k.qz ts t p8;refine⟨hx.add ht f'.done ?_,?_⟩
     ·show WF x.cells (f'.done .nil) x.Ai.dropLast.length (x.Ai.dropLast.any _);rw[qe,List.dropLast_concat];rw[Nat.zero_add] at w3 w4;rw[Bool.false_or] at w2 w4;rcases f' with⟨kd,body⟩;cases kd with
      | atomic=>
       have h2:(fs.any fun f=>f.kind.Cr)=false:=w2;exact⟨h2,w3,by simpa[IF.Cr] using w4,trivial⟩
      | ES a=>exact⟨w2,w3,by simpa[IF.Cr] using w4,trivial⟩
      | loop n=>exact⟨w2,w3,by simpa[IF.Cr] using w4,trivial⟩
     ·have AI:(({x with Ai:=x.Ai.dropLast}:qr).add f'.done).Am=x.Am:=Pn (x:={x with Ai:=x.Ai.dropLast}) ht _;have:=FN.add (x:={x with Ai:=x.Ai.dropLast}) p8 (fun u hu=>k.all u (by rw[p8];simp[hu])) f'.done x.Am k.s0 k.s1 (by
        show JR t+Iv x.Ai.dropLast+JR (f'.done .nil)≤x.Am;rw[qe] at Qp⊢;rw[List.dropLast_concat];rw[Rm] at Qp;rcases f' with⟨kd,body⟩;cases kd <;>simp[Fr.done,JR,Iv] at Qp⊢ <;>omega)
      exact FN.fD this AI
  ·exact U5 h k he
structure PS (y:qr) (p:RP):Prop where
 Aa:p.Aa=y.Aa.map (B4 · 0 0)
 cells:p.cells=y.cells
 BZ:Em y=true
 fw:FW y
 fn:FN y
 op:y.Ai=[]
 ne:y.Aa≠[]
def aT (a:Except (Int×Nat) qr) (b:Except (Int×Nat) RP):Prop:=match a,b with
 | .error c,.error d=>c=d
 | .ok y,.ok p=>PS y p
 | _,_=>False
theorem W1 {x:qr} {r:RS} (h:LD x r) (hw:FW x) (ho:x.Ai=[]):
  ((r.p.Aa.any fun t=>decide (3 < (Gt t).1) || decide (8 < (Gt t).2)) || (decide (6 < r.p.cells) || decide (3 < r.p.Aa.length)))= !Em x∧r.p.Aa=x.Aa.map (B4 · 0 0):=by
 have e:r.p.Aa=x.Aa.map (B4 · 0 0):=by
  rcases h.Aa with⟨h0,h1,h2,h3⟩ | ⟨ts,t,b1,b2,b3⟩
  ·rw[h0,h2];rfl
  ·rw[b2,b1,ho];simp[Fo]
 refine⟨?_,e⟩;rw[e,h.cells,List.length_map];unfold Em;have e2:∀l:List Ck,(∀t,t∈l→WF x.cells t 0 false)→((l.map (B4 · 0 0)).any fun t=>decide (3 < (Gt t).1) || decide (8 < (Gt t).2))= !(l.all fun t=>match Az t 1 with | none=>false | some (b,_)=>decide (b≤3)):=by
  intro l hl;induction l with
  | nil=>rfl
  | cons a q ih=>
   simp only[List.map_cons,List.any_cons,List.all_cons];rw[ih fun t ht=>hl t (List.mem_cons_of_mem _ ht),Zr (hl a (List.mem_cons_self ..)),Bool.not_and];rfl
 rw[e2 _ hw.th];generalize (x.Aa.all fun t=>match Az t 1 with | none=>false | some (b,_)=>decide (b≤3))=A;have e3:decide (x.cells≤6)= !decide (6 < x.cells):=by by_cases h:6 < x.cells <;>simp[h] <;>omega
 have e4:decide (x.Aa.length≤3)= !decide (3 < x.Aa.length):=by by_cases h:3 < x.Aa.length <;>simp[h] <;>omega
 rw[e3,e4];cases A <;>cases decide (6 < x.cells) <;>cases decide (3 < x.Aa.length) <;>rfl
theorem Xt {x:qr} {r:RS} (h:LD x r) (hw:FW x) (hn:FN x) (n:Nat):aT (GW n x) (Iq n r):=by
 have ho:r.Ai=[]↔x.Ai=[]:=by
  have:=Jf h;constructor
  ·intro h';rw[h'] at this;exact List.eq_nil_of_length_eq_zero this.symm
  ·intro h';rw[h'] at this;exact List.eq_nil_of_length_eq_zero this
 have ht:=JQ h;unfold GW Iq;by_cases hb:x.Ai≠[]∨x.Aa=[]
 ·rw[if_pos hb,if_pos (show r.Ai≠[]∨r.p.Aa=[] by rw[ht,ne_eq,ho];exact hb)];exact rfl
 ·rw[if_neg hb,if_neg (show¬(r.Ai≠[]∨r.p.Aa=[]) by rw[ht,ne_eq,ho];exact hb)];have II:x.Ai=[]:=by
   apply Classical.byContradiction;intro h';exact hb (.inl h')
  have BQ:x.Aa≠[]:=fun h'=>hb (.inr h')
  obtain⟨l1,l2⟩:=W1 h hw II;rw[l1];cases hl:Em x with
  | true=>exact⟨l2,h.cells,hl,hw,hn,II,BQ⟩
  | false=>exact rfl
theorem go_same (l:List By):∀(n:Nat) (x:qr) (r:RS),LD x r→FW x→FN x→aT (GV l n x) (J6 l n r):=by
 induction l with
 | nil=>intro n x r h hw hn;exact Xt h hw hn n
 | cons p q ih=>
  intro n x r h hw hn;cases q with
  | nil=>
   unfold GV J6;by_cases hp:p=[]∧0 < n
   ·rw[if_pos hp,if_pos hp];exact Xt h hw hn n
   ·rw[if_neg hp,if_neg hp];exact rfl
  | cons q' qs=>
   unfold GV J6;obtain⟨w,l,qV⟩:∃w l,Bv p=w::l:=by
    unfold Bv;cases hs:Ay 32 p with
    | nil=>exact absurd hs (Cc _ _)
    | cons a b=>exact⟨_,_,rfl⟩
   rw[qV];cases hl:Bz (w::l) with
   | false=>rw[dh x w l hl];exact rfl
   | true=>
    have hs:=ZV h w l hl;rw[if_pos rfl];unfold OK at hs;cases hx:x.row (w::l) with
    | error c=>
     cases hr:r.row (w::l) with
     | error d=>rw[hx,hr] at hs;simp only[] at hs⊢;subst hs;exact rfl
     | ok r'=>rw[hx,hr] at hs;exact hs.elim
    | ok y=>
     cases hr:r.row (w::l) with
     | error d=>rw[hx,hr] at hs;exact hs.elim
     | ok r'=>
      rw[hx,hr] at hs;obtain⟨o1,o2⟩:=qr.Yv hw hn hx;exact ih (n+1) y r' hs o1 o2
theorem Ub (s:By):aT (EY s) (GR s):=by
 unfold EY GR;by_cases h:2000 < s.length
 ·rw[if_pos h,if_pos h];exact rfl
 ·rw[if_neg h,if_neg h];exact go_same _ 0 _ _ .Dk .Dk .Dk
end Go.Proofs.YtpdfifdlhpmofaaGreatDoor
