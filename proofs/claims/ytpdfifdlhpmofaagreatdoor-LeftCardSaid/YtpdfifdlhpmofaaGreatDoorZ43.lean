/-
  Part 43 of the proof.
-/
import Derived.Test.YtpdfifdlhpmofaaGreatDoorZ42
set_option linter.unusedVariables false
set_option linter.unusedSimpArgs false
set_option maxHeartbeats 3200000
set_option maxRecDepth 100000
namespace Go.Proofs.YtpdfifdlhpmofaaGreatDoor
open Go.RowKit
open Go.Lib (hid)
variable {M:Al} {k u N t:Nat} {Ab:Nat->List GI} {mv:Nat->Prop}
def AcM (M:Al) (t:Nat):Prop:=(M.th t).BG≠0/\(M.th t).waits=[]
theorem r6 (hk:k < M.ts.length) (s:C9×List Int) (h:u≠k):(M.put k s).th u=M.th u:=by
 have e:(M.put k s).th u=if u=k then s.1 else M.th u:=Qf hk
 rw[e,I h]
theorem Zy (n:Nat) (s:C9×List Int):(Ul n s).1.waits=s.1.waits.drop n/\(Ul n s).1.BG=s.1.BG:=by
 induction n generalizing s with
 | zero=>exact⟨rfl,rfl⟩
 | succ n ih=>
  obtain⟨h1,h2⟩:=ih (Vl s.1,Zp s.1 s.2);refine⟨h1.trans ?_,h2⟩;show s.1.waits.tail.drop n=_;rw[List.drop_tail]
theorem Zx (hk:k < M.ts.length) (n:Nat):((Al.Dt n M k).th k).waits=(M.th k).waits.drop n/\((Al.Dt n M k).th k).BG=(M.th k).BG/\(∀u,u≠k->(Al.Dt n M k).th u=M.th u)/\(Al.Dt n M k).ts.length=M.ts.length:=by
 have e:Al.Dt n M k=M.put k (Ul n (M.th k,M.mem)):=by
  have:=W5 hk n (M.th k,M.mem);rwa[KA hk] at this
 rw[e,Lx hk];exact⟨(Zy n _).1,(Zy n _).2,fun u hu=>r6 hk _ hu,Jo ..⟩
theorem eV (n:Nat) (M:Al) (k:Nat):Al.Dt (n+1) M k=(Al.Dt n M k).Cy k:=by
 induction n generalizing M with
 | zero=>rfl
 | succ n ih=>exact ih (M.Cy k)
theorem wB {n:Nat} (hk:k < M.ts.length) (h:u≠k):(Al.Df Ab k n M).th u=M.th u:=by
 rw[Pq hk];exact r6 hk _ h
theorem EU.Dt (n:Nat):∀{M:Al},EU Ab M N->k < M.ts.length->EU Ab (Al.Dt n M k) N:=by
 induction n with
 | zero=>intro M h _;exact h
 | succ n ih=>intro M h hk;exact ih (h.Cy hk) (by rw[M8];exact hk)
structure pR (y:qr) (p:RP) (f z:List Int) (k t N:Nat) (M:Al):Prop where
 mj:∃K,K<=41000000+10000*(t:Int)/\MJ y p f z (fun _=>True) K M
 run:EU (EZ y) M N
 len:M.ts.length=y.Aa.length
 FB:∀u,u < t->u≠k->AcM M u
section
variable {y:qr} {p:RP} (h:PS y p) {f z:List Int} (hp:PT p f z)
include h hp
set_option linter.unusedSectionVars false
theorem MJ.Dt (ht:t < y.Aa.length) (hm:mv t) (n:Nat):∀{K:Int} {R:Al},MJ y p f z mv K R->K < 100000000000000000->MJ y p f z mv K (Al.Dt n R t):=by
 induction n with
 | zero=>intro K R hj _;exact hj
 | succ n ih=>intro K R hj hK;exact ih (MJ.Cy h hp hj hK ht hm) hK
theorem MJ.alone (ht:t < y.Aa.length) (hm:mv t) (n:Nat):∀{K:Int} {R:Al},MJ y p f z mv K R->K+n < 100000000000000000->∃K',K'<=K+n/\MJ y p f z mv K' (Al.Df (EZ y) t n R):=by
 induction n with
 | zero=>intro K R hj _;exact⟨K,Y,hj⟩
 | succ n ih=>
  intro K R hj hK;unfold Al.Df;split
  ·obtain⟨K',hk,uR⟩:=ih (MJ.Dt h hp ht hm _ (MJ.step h hp hj Y ht hm) Y) Y;exact⟨K',Y,uR⟩
  ·exact⟨K,Y,hj⟩
theorem MJ.left {K:Int} {R:Al} (hj:MJ y p f z mv K R) (ho:∀t,t < y.Aa.length->t≠k->AcM R t):MJ y p f z (fun t=>t=k) K R:=by
 have _:=hp;obtain⟨A,G,hi,h1,h2⟩:=hj;refine⟨A,G,hi,h1,fun t ht hn=> ?_⟩;have ha:=hi.abs.th t ht;obtain⟨hs,hw⟩:=ho t ht hn;have DO:=hi.l1.FB t ht (by rw[<-ha.st];exact hs);exact⟨by rw[ha.sw,hw];rfl,Hh (by unfold Eh;rw[DO]),by unfold Ba;rw[DO]⟩
theorem pR.start (may:List Bool) (l:List Int) (hl:l.length<=1000000) (hr:EU (EZ y) ((R0 y).IQ (EZ y) may l) (40*l.length)) (hn:((R0 y).IQ (EZ y) may l).ts.length=y.Aa.length):pR y p f z k 0 (40*l.length) ((R0 y).IQ (EZ y) may l):=by
 obtain⟨K',hK,hj⟩:=MJ.IQ h hp (mv:=fun _=>True) (may:=may) (fun _ _ _=>trivial) l (sU h hp _) (Xk h) Y;exact⟨⟨K',Y,hj⟩,hr,hn,fun u hu=>Y⟩
omit h hp in
theorem pR.skip (hj:pR y p f z k k N M):pR y p f z k (k+1) N M:=
 let ⟨K,hK,q⟩:=hj.mj
 ⟨⟨K,Y,q⟩,hj.run,hj.len,fun u hu hn=>hj.FB u Y hn⟩
theorem pR.next (hj:pR y p f z k t N M) (ht:t < y.Aa.length) (ht3:t<=3) (hs:((Al.Df (EZ y) t 10000 M).th t).BG≠0) (hw:((Al.Df (EZ y) t 10000 M).th t).waits.length<=4):
  pR y p f z k (t+1) (N+10000) (Al.Dt 4 (Al.Df (EZ y) t 10000 M) t):=by
 have hl:t < M.ts.length:=by rw[hj.len];exact ht
 have LG:t < (Al.Df (EZ y) t 10000 M).ts.length:=by rw[Tr hl];exact hl
 obtain⟨d1,d2,d3,d4⟩:=Zx LG 4;obtain⟨K,hK,q⟩:=hj.mj;obtain⟨K',hK',q'⟩:=MJ.alone h hp ht trivial 10000 q Y;refine⟨⟨K',Y,MJ.Dt h hp ht trivial 4 q' Y⟩,(hj.run.alone hl).Dt 4 LG,by rw[d4,Tr hl,hj.len],fun u hu hn=> ?_⟩;by_cases fN:u=t
 ·subst fN;exact⟨by rw[d2];exact hs,by rw[d1];exact List.drop_eq_nil_of_le hw⟩
 ·have:=hj.FB u Y hn;unfold AcM;rw[d3 u fN,wB hl fN];exact this
theorem tB (hk:k < y.Aa.length) (hT:y.Aa.length<=3) (hj:pR y p f z k y.Aa.length N M):((M.Df (EZ y) k 200000).th k).BG≠0:=by
 obtain⟨K,hK,q⟩:=hj.mj;exact sV h hp (MJ.left h hp q fun t ht hn=>hj.FB t ht hn) Y hk fun t _ Bi XD=>UV XD Bi
end
end Go.Proofs.YtpdfifdlhpmofaaGreatDoor
