/-
  Part 11 of the proof.
-/
import Derived.Test.YtpdfifdlhpmofaaGreatDoorZ10
set_option linter.unusedVariables false
set_option linter.unusedSimpArgs false
set_option maxHeartbeats 3200000
set_option maxRecDepth 100000
namespace Go.Proofs.YtpdfifdlhpmofaaGreatDoor
open Go.RowKit
open Go.Lib (hid)
theorem mbd {p:Prop} (h:p:=by
 split at h
 ·cases h
 ·have:=DC h;cases this):p:=h
theorem mci {p:Prop} (h:p:=by
 unfold Fc at h;split at h
 ·cases h
 ·rename_i hw;have:=DC h;subst this;exact Ks hw):p:=h
variable {l r:Ws} {w:Wd} {x y:qr} {ts:List Bt} {t:Bt}
def Ww (v:Int):Prop:= -9223372036854775808<=v/\v<=9223372036854775807
theorem ZY (n:Int):Ww (wrap64 n):=by unfold Ww wrap64;omega
theorem XU (b:Bool) (l:By) (v x:Int) (hv:Ww v) (h:Ev b l v=some x):Ww x:=by
 induction l generalizing v with
 | nil=>simp[Ev] at h;subst h;exact hv
 | cons c r ih=>
  unfold Ev at h;split at h
  ·cases h
  ·refine ih _ ?_ h;split <;>exact ZY _
theorem aI {l:By} {v:Int} (h:number l=some v):Ww v:=by
 rw[O4 l (l.headD 0==45) (if (l.headD 0==45)=true then l.tail else l) (if (l.headD 0==45)=true then JY else JX) rfl rfl rfl] at h;generalize (if (l.headD 0==45)=true then l.tail else l)=T at h;generalize (if (l.headD 0==45)=true then JY else JX)=M at h;generalize (l.headD 0==45)=B at h;by_cases hb:F8 B T M=true
 ·rw[In hb] at h;cases h
 ·rw[I hb] at h;exact XU _ _ _ _ (by unfold Ww;omega) h
def NW (w:Wd):Prop:=Ww w.v
theorem lZ (a:ByteArray):NW (DW a):=by
 unfold DW;split
 ·simp[NW,Ww]
 ·unfold NW;cases h:number (bs a) with
  | none=>simp[Ww]
  | some v=>exact aI h
theorem Ks (h:Ff l=some (w,r)):NW w:=by
 cases l with
 | nil=>cases h
 | cons a q=>
  rw[BY] at h;split at h
  ·cases h;exact lZ a
  ·cases h
theorem NW.zero:NW .zero:=by simp[NW,Ww,Wd.zero]
theorem wi (h:xr l=some (w,r)):NW w:=by
 cases l with
 | nil=>cases h;exact .zero
 | cons a q=>
  rw[DB] at h;split at h
  ·exact Ks h
  ·cases h;exact .zero
theorem az (l:List ByteArray) (x:ByteArray) (k:Nat):DZ l x k= -1\/(k<=DZ l x k/\DZ l x k < k+l.length):=by
 induction l generalizing k with
 | nil=>exact .inl rfl
 | cons a r ih=>
  unfold DZ;split
  ·right;simp;omega
  ·rcases ih (k+1) with h | h
   ·exact .inl h
   ·right;simp at h⊢;omega
theorem Og (l:List ByteArray) (x:ByteArray):A6 l x < l.length:=by
 rcases az l x 0 with h | h
 ·unfold A6;omega
 ·unfold A6;omega
theorem sj {a op:ByteArray} (h:kv a=some op):op∈Cj:=by
 unfold kv at h;split at h
 ·rename_i h0;cases h;have hb:=Og Dx a;have e:Dx.length=12:=rfl;have:(A6 Dx a).toNat < Cj.length:=by
   have:Cj.length=12:=rfl;omega
  unfold wd;rw[GE,Id this];exact Qab this
 ·cases h
def AaU:Sg->Prop
 | .set _ a op b=>NW a/\(op.size=0\/op∈Cj)/\NW b
 | .get _ _ a=>NW a
 | .put _ a i=>NW a/\NW i
 | .out a=>NW a
 | .atomic=>True
 | .EA a=>NW a
 | .loop n=>1<=n/\n<=4
theorem DC {α:Type} {x y:α} (h:GK x l=some y):x=y:=by
 cases l with
 | nil=>cases h;rfl
 | cons a r=>cases h
theorem yg {w:ByteArray} {s:Sg} (h:IA w r=some s):AaU s:=by
 unfold IA at h;split at h
 ·unfold I6 at h;split at h
  ·cases h
  ·split at h
   ·cases h
   ·rename_i hw;cases h;exact⟨Ks hw,.inl rfl,.zero⟩
   ·rename_i hw;split at h
    ·cases h
    ·rename_i ho;split at h
     ·cases h
     ·rename_i aX;have:=DC h;subst this;exact⟨Ks hw,.inr (sj ho),Ks aX⟩
 split at h
 ·unfold Kz at h;split at h
  ·cases h
  ·split at h
   ·cases h
   ·split at h
    ·cases h
    ·rename_i ha;have:=DC h;subst this;exact wi ha
 split at h
 ·unfold Kx at h;split at h
  ·cases h
  ·split at h
   ·cases h
   ·rename_i hw;split at h
    ·cases h
    ·rename_i ha;have:=DC h;subst this;exact⟨Ks hw,wi ha⟩
 split at h
 ·exact mci
 split at h
 ·have:=DC h;subst this;trivial
 split at h
 ·exact mci
 split at h
 ·unfold J8 at h;split at h
  ·cases h
  ·rename_i hu;have:=DC h;subst this;unfold Il at hu;split at hu
   ·cases hu
   ·split at hu
    ·rename_i hc;cases hu;exact⟨hc.2.1,hc.2.2⟩
    ·cases hu
 ·cases h
def JJ.ok (k:JJ) (i:Bool):Prop:=match k with
 | .atomic=>i=false
 | .EA a=>FR a
 | .loop n=>1<=n/\n<=4
def wI (cells:Int):List Fr->Nat->Bool->Prop
 | [],_,_=>True
 | f::fs,d,i=>f.kind.ok i/\d < 3/\WF cells f.body (d+1) (i || f.kind.CD)/\wI cells fs (d+1) (i || f.kind.CD)
theorem Vn (cells:Int) (fs gs:List Fr) (d:Nat) (i:Bool):wI cells (fs++gs) d i<->wI cells fs d i/\wI cells gs (d+fs.length) (i || fs.any fun f=>f.kind.CD):=by
 induction fs generalizing d i with
 | nil=>simp[wI]
 | cons f fs ih=>
  simp only[WP,wI,ih,IR,Qdx,Bool.or_assoc,show d+1+fs.length=d+(fs.length+1) by omega,and_assoc]
structure FW (x:qr):Prop where
 c0:0<=x.cells
 sh:∀s,s∈x.As->0<=s.first/\1<=s.size/\s.first+s.size<=x.cells
 ll:x.AA.length<=4
 th:∀t,t∈x.Aa->WF x.cells t 0 false
 wo:wI x.cells x.Af 0 false
 te:x.Aa=[]->x.Af=[]
def Iw:Bt->Int
 | .nil=>0
 | .set _ _ _ _ r=>1+Iw r
 | .get _ _ _ _ r=>1+Iw r
 | .put _ _ _ _ r=>1+Iw r
 | .out _ r=>1+Iw r
 | .atomic b r=>1+Iw b+Iw r
 | .EA _ b r=>1+Iw b+Iw r
 | .loop _ b r=>1+Iw b+Iw r
theorem Z9 (s t:Bt):Iw (s.Fj t)=Iw s+Iw t:=by
 induction s <;>simp_all[Bt.Fj,Iw] <;>omega
def Ju:List Fr->Int
 | []=>0
 | f::fs=>1+Iw f.body+Ju fs
theorem VM (a b:List Fr):Ju (a++b)=Ju a+Ju b:=by
 induction a with
 | nil=>simp[Ju]
 | cons f fs ih=>simp only[WP,Ju,ih];omega
theorem Qj (s:Bt):0<=Iw s:=by induction s <;>simp_all[Iw] <;>omega
theorem aa (l:List Fr):0<=Ju l:=by
 induction l with
 | nil=>simp[Ju]
 | cons f fs ih=>have:=Qj f.body;simp only[Ju];omega
structure FN (x:qr):Prop where
 s0:0<=x.Ah
 s1:x.Ah<=14
 all:∀t,t∈x.Aa->Iw t<=14
 tot:∀ts t,x.Aa=ts++[t]->Iw t+Ju x.Af<=x.Ah
theorem FW.Dl:FW .Dl:=by
 refine⟨?_,?_,?_,?_,?_,?_⟩ <;>simp[qr.Dl,wI]
theorem FN.Dl:FN .Dl:=by
 refine⟨?_,?_,?_,?_⟩ <;>simp[qr.Dl]
theorem ZO (ht:x.Aa=ts++[t]) (s:Bt->Bt):
  (x.Af=[]/\x.add s={x with Aa:=ts++[t.Fj (s .nil)]})\/∃fs f,x.Af=fs++[f]/\x.add s={x with Af:=fs++[{f with body:=f.body.Fj (s .nil)}]}:=by
 rcases f5 x.Af with h0 | ⟨fs,f,h0⟩
 ·left;refine⟨h0,?_⟩;unfold qr.add;simp[h0,ht]
 ·rw[m8] at h0;right;refine⟨fs,f,h0,?_⟩;unfold qr.add;simp[h0]
theorem Vb {α:Type} {l:List α} (h:l≠[]):∃a b,l=a++[b]:=by
 rcases f5 l with h0 | ⟨ts,t,h0⟩
 ·exact UV h0 h
 ·exact mce
theorem FW.add (h:FW x) (ht:x.Aa≠[]) (s:Bt->Bt) (hs:WF x.cells (s .nil) x.Af.length x.Bu):FW (x.add s):=by
 obtain⟨ts,t,ht⟩:=Vb ht;obtain⟨c0,sh,ll,th,wo,te⟩:=h;rcases ZO ht s with⟨h0,e⟩ | ⟨fs,f,h0,e⟩
 ·rw[e];unfold qr.Bu at hs;rw[h0] at hs;refine⟨c0,sh,ll,fun u hu=> ?_,wo,fun hh=>by simp at hh⟩;simp only[Nm,Z] at hu;rcases hu with hu | rfl
  ·exact th u (by rw[ht];simp[hu])
  ·exact WF.Fj (th t (by rw[ht];simp)) hs
 ·rw[e];unfold qr.Bu at hs;rw[h0] at hs wo;rw[Vn] at wo;refine⟨c0,sh,ll,th,?_,fun hh=>by rw[ht] at hh;simp at hh⟩;show wI x.cells (fs++[{f with body:=f.body.Fj (s .nil)}]) 0 false;rw[Vn];refine⟨wo.1,wo.2.1,wo.2.2.1,WF.Fj wo.2.2.2.1 ?_,trivial⟩;simpa using hs
theorem FN.add (ht:x.Aa=ts++[t]) (Ie:∀t,t∈ts->Iw t<=14) (s:Bt->Bt) (n:Int) (h0:0<=n) (Ln:n<=14)
  (UB:Iw t+Ju x.Af+Iw (s .nil)<=n):FN {x.add s with Ah:=n}:=by
 have p9:=aa x.Af;rcases ZO ht s with⟨ho,e⟩ | ⟨fs,f,ho,e⟩
 ·rw[e];rw[ho] at UB;refine⟨h0,Ln,fun u hu=> ?_,fun us u hu=> ?_⟩
  ·simp only[Nm,Z] at hu;rcases hu with hu | rfl
   ·exact Ie u hu
   ·rw[Z9];simp[Ju] at UB;omega
  ·have iK:ts++[t.Fj (s .nil)]=us++[u]:=hu;obtain⟨rfl,uh⟩:=Qca iK rfl;cases uh;show Iw _+Ju x.Af<=n;rw[ho,Z9];simp[Ju] at UB⊢;omega
 ·rw[e];refine⟨h0,Ln,fun u hu=> ?_,fun us u hu=> ?_⟩
  ·have iK:u∈x.Aa:=hu;rw[ht] at iK;simp only[Nm,Z] at iK;rcases iK with iK | rfl
   ·exact Ie u iK
   ·have:=Qj (s .nil);omega
  ·have iK:x.Aa=us++[u]:=hu;rw[ht] at iK;obtain⟨rfl,uh⟩:=Qca iK rfl;cases uh;show Iw t+Ju (fs++[_])<=n;rw[ho] at UB;rw[VM] at UB⊢;simp only[Ju,Z9] at UB⊢;omega
theorem FW.D5 (h:FW x) (ht:x.Aa≠[]) (k:JJ) (hk:k.ok x.Bu) (h3:x.Af.length < 3):FW (x.D5 k):=by
 obtain⟨c0,sh,ll,th,wo,te⟩:=h;refine⟨c0,sh,ll,th,?_,fun hh=>UV hh ht⟩;show wI x.cells (x.Af++[⟨k,.nil⟩]) 0 false;rw[Vn];refine⟨wo,?_,Y,trivial,trivial⟩;simpa[qr.Bu] using hk
theorem Po (h:x.AA.length<=4) {w:Wd} (hw:NW w) {a:At} (he:x.CO w= .ok a):FR a:=by
 unfold qr.CO at he;split at he
 ·cases he;simpa[FR,NW,Ww] using hw
 ·split at he
  ·cases he;have:=Og x.AA w.name;simp[FR];omega
  ·cases he
theorem dK (h:FW x) {n:ByteArray} {v:Int} {y:qr} (he:x.Dy n= .ok (v,y)):FW y/\(0<=v/\v < 4)/\y.Aa=x.Aa/\y.Af=x.Af/\y.Ah=x.Ah/\y.cells=x.cells:=by
 unfold qr.Dy at he;split at he
 ·cases he
 ·split at he
  ·cases he;have:=Og x.AA n;have:=h.ll;exact⟨h,Y,rfl,rfl,rfl,rfl⟩
  ·split at he
   ·cases he
   ·cases he;have:=h.ll;exact⟨⟨h.c0,h.sh,by simp;omega,h.th,h.wo,h.te⟩,Y,rfl,rfl,rfl,rfl⟩
theorem lA (h:FW x) {n:ByteArray} {w:Wd} (hw:NW w) {f z:Int} {a:At} (he:x.cell n w= .ok (f,z,a)):(0<=f/\1<=z/\f+z<=x.cells)/\FR a:=by
 unfold qr.cell at he;cases hf:x.Ti n with
 | none=>rw[hf] at he;cases he
 | some s=>
  rw[hf] at he;simp only[] at he;cases ha:x.CO w with
  | error c=>rw[ha] at he;cases he
  | ok b=>
   rw[ha] at he;cases he;exact⟨h.sh s (List.mem_of_find?_eq_some hf),Po h.ll hw ha⟩
theorem bH (h:FW x) (ht:x.Aa≠[]) {s:Sg} (hs:AaU s) (hb:s.CD=true->x.Bu=true) (ha:s= .atomic->x.Bu=false) (he:x.finish s= .ok y):
  ∃x',FW x'/\x'.Aa=x.Aa/\x'.Af=x.Af/\x'.Ah=x.Ah/\x'.cells=x.cells/\
   ((∃f,y=x'.add f/\WF x.cells (f .nil) x.Af.length x.Bu/\Iw (f .nil)=1)\/∃k,y=x'.D5 k/\k.ok x.Bu):=by
 cases s with
 | set n a op b=>
  unfold qr.finish at he;simp only[] at he;cases h1:x.CO a with
  | error c=>rw[h1] at he;cases he
  | ok a'=>
   rw[h1] at he;simp only[] at he;cases h2:x.CO b with
   | error c=>rw[h2] at he;cases he
   | ok b'=>
    rw[h2] at he;simp only[] at he;cases h3:x.Dy n with
    | error c=>rw[h3] at he;cases he
    | ok q=>
     obtain⟨v,x'⟩:=q;rw[h3] at he;cases he;obtain⟨k1,k2,k3,k4,k5,k6⟩:=dK h h3;exact⟨x',k1,k3,k4,k5,k6,.inl ⟨_,rfl,⟨k2,hs.2.1,Po h.ll hs.1 h1,Po h.ll hs.2.2 h2,trivial⟩,by simp[Iw]⟩⟩
 | get n s AW=>
  unfold qr.finish at he;simp only[] at he;cases h1:x.cell s AW with
  | error c=>rw[h1] at he;cases he
  | ok q=>
   obtain⟨f,z,a⟩:=q;rw[h1] at he;simp only[] at he;cases h3:x.Dy n with
   | error c=>rw[h3] at he;cases he
   | ok q=>
    obtain⟨v,x'⟩:=q;rw[h3] at he;cases he;obtain⟨k1,k2,k3,k4,k5,k6⟩:=dK h h3;obtain⟨c1,c2⟩:=lA h hs h1;exact⟨x',k1,k3,k4,k5,k6,.inl ⟨_,rfl,⟨k2,c1,c2,hb rfl,trivial⟩,by simp[Iw]⟩⟩
 | put s a AW=>
  unfold qr.finish at he;simp only[] at he;cases h1:x.cell s AW with
  | error c=>rw[h1] at he;cases he
  | ok q=>
   obtain⟨f,z,i⟩:=q;rw[h1] at he;simp only[] at he;cases h2:x.CO a with
   | error c=>rw[h2] at he;cases he
   | ok a'=>
    rw[h2] at he;cases he;obtain⟨c1,c2⟩:=lA h hs.2 h1;exact⟨x,h,rfl,rfl,rfl,rfl,.inl ⟨_,rfl,⟨c1,c2,Po h.ll hs.1 h2,hb rfl,trivial⟩,by simp[Iw]⟩⟩
 | out a=>
  unfold qr.finish at he;simp only[] at he;cases h1:x.CO a with
  | error c=>rw[h1] at he;cases he
  | ok a'=>
   rw[h1] at he;cases he;exact⟨x,h,rfl,rfl,rfl,rfl,.inl ⟨_,rfl,⟨Po h.ll hs h1,trivial⟩,by simp[Iw]⟩⟩
 | atomic=>
  unfold qr.finish at he;cases he;exact⟨x,h,rfl,rfl,rfl,rfl,.inr ⟨_,rfl,ha rfl⟩⟩
 | EA a=>
  unfold qr.finish at he;simp only[] at he;cases h1:x.CO a with
  | error c=>rw[h1] at he;cases he
  | ok a'=>
   rw[h1] at he;cases he;exact⟨x,h,rfl,rfl,rfl,rfl,.inr ⟨_,rfl,Po h.ll hs h1⟩⟩
 | loop n=>
  unfold qr.finish at he;cases he;exact⟨x,h,rfl,rfl,rfl,rfl,.inr ⟨_,rfl,hs⟩⟩
theorem df {w:ByteArray} (h:IA w r=some .atomic):bs w=AH:=by
 unfold IA at h;split at h
 ·unfold I6 at h;split at h
  ·cases h
  ·split at h
   ·cases h
   ·cases h
   ·split at h
    ·cases h
    ·exact mbd
 split at h
 ·unfold Kz at h;split at h
  ·cases h
  ·split at h
   ·cases h
   ·exact mbd
 split at h
 ·unfold Kx at h;split at h
  ·cases h
  ·split at h
   ·cases h
   ·exact mbd
 split at h
 ·unfold Fc at h;exact mbd
 split at h
 ·rename_i hk;exact hk
 split at h
 ·unfold Fc at h;exact mbd
 split at h
 ·unfold J8 at h;exact mbd
 ·cases h
theorem FW.cV (h:FW x) (n:Int):FW {x with Ah:=n}:=⟨h.c0,h.sh,h.ll,h.th,h.wo,h.te⟩
theorem Z7 (h:FW x) (k:FN x) {w:ByteArray} {r:Ws} (he:x.AL w r= .ok y):FW y/\FN y:=by
 unfold qr.AL at he;cases hr:IA w r with
 | none=>rw[hr] at he;cases he
 | some s=>
  rw[hr] at he;simp only[] at he;split at he
  ·cases he
  ·rename_i Nl;cases hf:x.finish s with
   | error c=>rw[hf] at he;cases he
   | ok z=>
    rw[hf] at he;simp only[] at he;split at he
    ·cases he
    ·rename_i D3;cases he;have ht:x.Aa≠[]:=fun h'=>Nl (.inl h')
     have hb:s.CD=true->x.Bu=true:=fun h1=>by
      cases hi:x.Bu with
      | true=>rfl
      | false=>exact UV (.inr (.inl ⟨h1,hi⟩)) Nl
     have ha:s= .atomic->x.Bu=false:=fun h1=>by
      subst h1;cases hi:x.Bu with
      | false=>rfl
      | true=>exact UV (.inr (.inr ⟨df hr,hi⟩)) Nl
     obtain⟨x',g1,g2,g3,g4,g5,uZ⟩:=bH h ht (yg hr) hb ha hf;have FI:x'.Aa≠[]:=by rw[g2];exact ht
     obtain⟨ts,t,htt⟩:=Vb FI;have Adu:x.Aa=ts++[t]:=by rw[<-g2];exact htt
     have RV:x'.Bu=x.Bu:=by unfold qr.Bu;rw[g3]
     have UB:=k.tot ts t Adu;have bj:=k.s0;rcases uZ with⟨f,rfl,c1,c2⟩ | ⟨q,rfl,c1⟩
     ·have AD:(x'.add f).Ah=x.Ah:=by rw[Ts FI,g4]
      rw[AD] at D3⊢;have hl:x.Ah+1<=14:=by
       apply Classical.byContradiction;intro hh;exact D3 (.inl Y)
      refine⟨(g1.add FI f (by rw[g5,g3,RV];exact c1)).cV _,FN.add htt (fun u hu=>k.all u (by rw[Adu];simp[hu])) f _ Y hl ?_⟩;rw[g3,c2];omega
     ·have AD:(x'.D5 q).Ah=x.Ah:=g4;have RT:(x'.D5 q).Fg=x.Af.length+2:=by
       rw[Wc (x:=x'.D5 q) FI];unfold qr.D5;simp[g3]
      rw[AD,RT] at D3;rw[AD];have hl:x.Ah+1<=14/\x.Af.length < 3:=by
       constructor
       ·apply Classical.byContradiction;intro hh;exact D3 (.inl Y)
       ·apply Classical.byContradiction;intro hh;exact D3 (.inr Y)
      refine⟨(g1.D5 FI q (by rw[RV];exact c1) (by rw[g3];exact hl.2)).cV _,⟨by show 0<=x.Ah+1;omega,hl.1,fun u hu=>k.all u (by rw[<-g2];exact hu),fun us u hu=> ?_⟩⟩;have iK:x'.Aa=us++[u]:=hu;rw[g2] at iK;have:=k.tot us u iK;show Iw u+Ju (x'.Af++[⟨q,.nil⟩])<=x.Ah+1;rw[VM,g3];simp only[Ju,Iw];omega
theorem gD {z:Int} {q:Ws} (h:(match r with | []=>some ((1:Int),([]:Ws)) | a::r=>Il 6 (a::r))=some (z,q)):1<=z:=by
 split at h
 ·cases h;omega
 ·unfold Il at h;split at h
  ·cases h
  ·split at h
   ·rename_i hc;cases h;exact hc.2.1
   ·cases h
theorem FN.sx {n:Int} (h:FN {y with Ah:=n}) (e:y.Ah=n):FN y:=by subst e;exact h
theorem qr.gJ (h:FW x) (k:FN x) {l:Ws} (he:x.row l= .ok y):FW y/\FN y:=by
 cases l with
 | nil=>cases he
 | cons w r=>
  unfold qr.row at he;simp only[] at he;split at he
  ·unfold qr.D6 at he;split at he
   ·cases he
   ·split at he
    ·cases he
    ·cases he
    ·rename_i hz;split at he
     ·cases he
     ·rename_i ht;split at he
      ·cases he
      ·cases he;have FI:x.Aa=[]:=by simpa using ht
       have Fo:=gD hz;refine⟨⟨by have:=h.c0;simp;omega,fun s hs=> ?_,h.ll,by simp[FI],by simp[h.te FI,wI],fun _=>h.te FI⟩,⟨k.s0,k.s1,k.all,k.tot⟩⟩;simp only[Nm,Z] at hs;have:=h.c0;rcases hs with hs | rfl
       ·have:=h.sh s hs;simp;omega
       ·simp;omega
  split at he
  ·split at he
   ·cases he
   ·split at he
    ·cases he
    ·cases he;refine⟨⟨h.c0,h.sh,EQ,fun t ht=> ?_,trivial,fun hh=>by simp at hh⟩,⟨EQ,EQ,fun t ht=> ?_,fun ts t ht=> ?_⟩⟩
     ·simp only[Nm,Z] at ht;rcases ht with ht | rfl
      ·exact h.th t ht
      ·trivial
     ·simp only[Nm,Z] at ht;rcases ht with ht | rfl
      ·exact k.all t ht
      ·simp[Iw]
     ·have FI:x.Aa++[Bt.nil]=ts++[t]:=ht;obtain⟨_,uh⟩:=Qca FI rfl;cases uh;simp[Iw,Ju]
  split at he
  ·split at he
   ·cases he
   ·cases ho:x.Af.getLast? with
    | none=>rw[ho] at he;cases he
    | some f=>
     rw[ho] at he;cases he;have Bi:x.Af≠[]:=fun h'=>by rw[h'] at ho;cases ho
     obtain⟨fs,f',hfs⟩:=Vb Bi;have:f'=f:=by rw[hfs] at ho;simpa using ho
     subst this;have ht:x.Aa≠[]:=fun h'=>Bi (h.te h')
     obtain⟨ts,t,htt⟩:=Vb ht;have hwo:=h.wo;rw[hfs,Vn] at hwo;obtain⟨w1,w2,w3,w4,_⟩:=hwo;have hx:FW {x with Af:=x.Af.dropLast}:=⟨h.c0,h.sh,h.ll,h.th,by rw[hfs];simpa using w1,fun hh=>UV hh ht⟩;have UB:=k.tot ts t htt;refine⟨hx.add ht f'.done ?_,?_⟩
     ·show WF x.cells (f'.done .nil) x.Af.dropLast.length (x.Af.dropLast.any _);rw[hfs,Qat];rw[Qaw] at w3 w4;rw[Qcj] at w2 w4;rcases f' with⟨kd,body⟩;cases kd with
      | atomic=>
       have h2:(fs.any fun f=>f.kind.CD)=false:=w2;exact⟨h2,w3,by simpa[JJ.CD] using w4,trivial⟩
      | EA a=>exact⟨w2,w3,by simpa[JJ.CD] using w4,trivial⟩
      | loop n=>exact⟨w2,w3,by simpa[JJ.CD] using w4,trivial⟩
     ·have AD:(({x with Af:=x.Af.dropLast}:qr).add f'.done).Ah=x.Ah:=Ts (x:={x with Af:=x.Af.dropLast}) ht _;have:=FN.add (x:={x with Af:=x.Af.dropLast}) htt (fun u hu=>k.all u (by rw[htt];simp[hu])) f'.done x.Ah k.s0 k.s1 (by
        show Iw t+Ju x.Af.dropLast+Iw (f'.done .nil)<=x.Ah;rw[hfs] at UB⊢;rw[Qat];rw[VM] at UB;rcases f' with⟨kd,body⟩;cases kd <;>simp[Fr.done,Iw,Ju] at UB⊢ <;>omega)
      exact FN.sx this AD
  ·exact Z7 h k he
structure PS (y:qr) (p:RP):Prop where
 Aa:p.Aa=y.Aa.map (BP · 0 0)
 cells:p.cells=y.cells
 Cc:Ew y=true
 fw:FW y
 fn:FN y
 op:y.Af=[]
 ne:y.Aa≠[]
def lV (a:Except (Int×Nat) qr) (b:Except (Int×Nat) RP):Prop:=match a,b with
 | .error c,.error d=>c=d
 | .ok y,.ok p=>PS y p
 | _,_=>False
theorem dQ {r:RS} (h:NO x r) (hw:FW x) (ho:x.Af=[]):
  ((r.p.Aa.any fun t=>decide (3 < (Ig t).1) || decide (8 < (Ig t).2)) || (decide (6 < r.p.cells) || decide (3 < r.p.Aa.length)))= !Ew x/\r.p.Aa=x.Aa.map (BP · 0 0):=by
 have e:r.p.Aa=x.Aa.map (BP · 0 0):=by
  rcases h.Aa with⟨h0,h1,h2,h3⟩ | ⟨ts,t,b1,b2,b3⟩
  ·rw[h0,h2];rfl
  ·rw[b2,b1,ho];simp[FV]
 refine⟨?_,e⟩;rw[e,h.cells,z9];unfold Ew;have e2:∀l:List Bt,(∀t,t∈l->WF x.cells t 0 false)->((l.map (BP · 0 0)).any fun t=>decide (3 < (Ig t).1) || decide (8 < (Ig t).2))= !(l.all fun t=>match Aq t 1 with | none=>false | some (b,_)=>decide (b<=3)):=by
  intro l hl;induction l with
  | nil=>rfl
  | cons a q ih=>
   simp only[d8,Qdx,List.all_cons];rw[ih fun t ht=>hl t (U _ ht),jo (hl a (J ..)),Bool.not_and];rfl
 rw[e2 _ hw.th];generalize (x.Aa.all fun t=>match Aq t 1 with | none=>false | some (b,_)=>decide (b<=3))=A;have e3:decide (x.cells<=6)= !decide (6 < x.cells):=by by_cases h:6 < x.cells <;>simp[h] <;>omega
 have e4:decide (x.Aa.length<=3)= !decide (3 < x.Aa.length):=by by_cases h:3 < x.Aa.length <;>simp[h] <;>omega
 rw[e3,e4];cases A <;>cases decide (6 < x.cells) <;>cases decide (3 < x.Aa.length) <;>rfl
theorem eT {r:RS} (h:NO x r) (hw:FW x) (hn:FN x) (n:Nat):lV (IC n x) (G9 n r):=by
 have ho:r.Af=[]<->x.Af=[]:=by
  have:=Kh h;constructor
  ·intro h';rw[h'] at this;exact RK this.symm
  ·intro h';rw[h'] at this;exact RK this
 have ht:=Lc h;unfold IC G9;by_cases hb:x.Af≠[]\/x.Aa=[]
 ·rw[In hb,In (show r.Af≠[]\/r.p.Aa=[] by rw[ht,ne_eq,ho];exact hb)];exact rfl
 ·rw[I hb,I (show¬(r.Af≠[]\/r.p.Aa=[]) by rw[ht,ne_eq,ho];exact hb)];have Kj:x.Af=[]:=by
   apply Classical.byContradiction;intro h';exact hb (.inl h')
  have Bi:x.Aa≠[]:=fun h'=>hb (.inr h')
  obtain⟨l1,l2⟩:=dQ h hw Kj;rw[l1];cases hl:Ew x with
  | true=>exact⟨l2,h.cells,hl,hw,hn,Kj,Bi⟩
  | false=>exact rfl
theorem go_same (l:List By):∀(n:Nat) (x:qr) (r:RS),NO x r->FW x->FN x->lV (IB l n x) (I2 l n r):=by
 induction l with
 | nil=>intro n x r h hw hn;exact eT h hw hn n
 | cons p q ih=>
  intro n x r h hw hn;cases q with
  | nil=>
   unfold IB I2;by_cases hp:p=[]/\0 < n
   ·rw[In hp,In hp];exact eT h hw hn n
   ·rw[I hp,I hp];exact rfl
  | cons q' qs=>
   unfold IB I2;obtain⟨w,l,p5⟩:∃w l,Bn p=w::l:=by
    exact mb6
   rw[p5];cases hl:Br (w::l) with
   | false=>rw[oU x w l hl];exact rfl
   | true=>
    have hs:=ki h w l hl;rw[In rfl];unfold Sk at hs;cases hx:x.row (w::l) with
    | error c=>
     cases hr:r.row (w::l) with
     | error d=>rw[hx,hr] at hs;simp only[] at hs⊢;subst hs;exact rfl
     | ok r'=>rw[hx,hr] at hs;exact hs.elim
    | ok y=>
     cases hr:r.row (w::l) with
     | error d=>rw[hx,hr] at hs;exact hs.elim
     | ok r'=>
      rw[hx,hr] at hs;obtain⟨o1,o2⟩:=qr.gJ hw hn hx;exact ih (n+1) y r' hs o1 o2
theorem YL (s:By):lV (Fv s) (Fp s):=by
 unfold Fv Fp;by_cases h:2000 < s.length
 ·rw[In h,In h];exact rfl
 ·rw[I h,I h];exact go_same _ 0 _ _ .Dl .Dl .Dl
end Go.Proofs.YtpdfifdlhpmofaaGreatDoor
