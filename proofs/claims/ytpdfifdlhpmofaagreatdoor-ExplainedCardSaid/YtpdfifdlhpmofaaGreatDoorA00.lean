/- Scripts that stand more than once in the proof, each as a theorem's default. -/
import Derived.Test.YtpdfifdlhpmofaaGreatDoorProg
import Derived.Test.YtpdfifdlhpmofaaGreatDoorB00
import Derived.WalkKit
import Derived.Lib.Hide
import Derived.Deep.QuietTactic
import Derived.BigQuiet
import Derived.LaidEql
import Derived.Stop.Asserts
import Derived.RowKitTokens
import Derived.WalkLawsBesides
import Derived.WalkSpells
import Derived.Lib.Explode
import Derived.Deep.DeepCutAuto
import Derived.Deep.RegionHeld3
import Derived.Deep.AppendLies
import Derived.Deep.CutBlock
import Derived.Lib.ItoaNum
import Derived.Lib.ParseIntBTie
import Derived.Lib.Split
import Derived.Lib.IndexBytes
import Derived.Lib.SlTrimSet
import Derived.Shelf.Strings.SlTrimAscii
import Derived.Maps.Own
import Derived.Maps.OwnOps
import Derived.Laws.EntriesVeiled
import Derived.Recover
import Derived.Defers
import Derived.Lib.ReplaceLaws
import Derived.Tactics
import Derived.Tactics2
import Derived.Deep.RegionLaw
import Derived.Deep.OwnRows
import Derived.Shelf.Strings.Builder1
import Derived.Lib.ItoaLen
import Derived.ProofKit
import Derived.LaidMore
import Derived.Lay
import Derived.Lib.LaidU8
import Derived.HandedShaped
import Derived.Shelf.Vars
import Derived.SevenTiedAt
import Derived.OpenShut
import Derived.Stop.Joined
import Derived.ChangeSlices
import Derived.Carry
set_option linter.unusedVariables false
set_option linter.unusedSimpArgs false
set_option maxHeartbeats 0
set_option maxRecDepth 99999
namespace Go.Proofs.YtpdfifdlhpmofaaGreatDoor
open Go.RowKit
open Value renaming slice->qD,string->qE,bool->qF,tuple->qG,agg->qH,pointer->qI
open Ending renaming returned->qJ
open Obj renaming cells->qK
open Option renaming none->Z,some->U
open Bool renaming true->V,false->I
open Go.Lib renaming hid->D
open List renaming length->J
variable {p:Prop}
abbrev JA:=@World.cell?_alloc_past
abbrev Qt:=@World.cell?_alloc_lt
abbrev QH:=@World.news_of_block
abbrev QX:=@World.frozen?_alloc_old
abbrev jJ:=@World.cell?_of_block
abbrev qB:=@World.var?_cell
theorem mab (h:p:=by
 rw[B0] at he;obtain⟨rfl,g',F',DT,Ef,V7,S4⟩:=he;have iU:=EI B0;have hr:x.Bf nm ws=if 14<y.Ai+1\/4<y.EX then .error 5 else .ok {y with Ai:=y.Ai+1}:=by rw[Hp.out,B0]
 rw[S4.DU.EX] at hr;have PB:True->wrap64 (y.Ai+1)=y.Ai+1:=λ_=>IntWalk.wrap64_in _ Y
 have f4:=Iz S4.Ak;have y6:w4.cell? ⟨g.xb,6,Z⟩=U (iI y.Ai):=DT▸f4.c 6;have y5:w4.cell? ⟨g.xb,5,Z⟩=U (qD (U ⟨g'.ob,0,Z⟩) (J g'.fr+1) g'.oc):=DT▸f4.c 5;have y1:w4.cell? ⟨g.xb,1,Z⟩=U (iI Ae):=DT▸f4.c 1;have yf:=DT▸f4.f 6;have cb:=S4.AK.cell (Ef _ (IR _ MX)) 0;obtain⟨t5,S5⟩:=S4.count (Gm.trans V7);rw[DT] at t5 S5;have Uz:=D t5;have UA:=D S5;have tq:=D DT;have MF:=D Ef;have Uw:=D hr;clear B0 f4 S4 V7 t5 S5 DT Ef hr iU;by_cases O2:14<y.Ai+1
 .have Lz:=Uw.trans (Jd (.inl O2));have ID:=D Lz;clear Lz;go_wp2_with fail;refine(AO _ _ _).mono ?_;rintro e w5 ⟨⟨fb,rfl,hb⟩,hm⟩;go_wp2;rw[ID.out];exact⟨rfl,Ce M8 ⟨⟨fb,rfl,hb⟩,Uz.mod.Aj hm⟩⟩
 .by_cases h4:4<J g'.fr+1
  .have r6:4<(J g'.fr:Int)+1:=Y
   have ID:=D (Uw.trans (Jd (.inr h4)));clear h4;go_wp2_with fail;refine(AO _ _ _).mono ?_;rintro e w5 ⟨⟨fb,rfl,hb⟩,hm⟩;go_wp2;rw[ID.out];exact⟨rfl,Ce M8 ⟨⟨fb,rfl,hb⟩,Uz.mod.Aj hm⟩⟩
  .have r6:¬4<(J g'.fr:Int)+1:=Y
   have ID:=D (Uw.trans (In (λh=>h.elim O2 h4)));clear h4;go_wp2
   go_end0
   rw[ID.out];exact⟨rfl,g',F',NO,tq,λy hy=>MF.out y (Jc _ hy),Uz,UA⟩):p:=h
theorem mai (h:p:=by
 have hr:=D (Hr.trans (EC hN.th));have ks:=D R3;clear p3 he R3 R NN Hr hN hP;go_wp2_with fail;refine(AO _ _ _).mono ?_;rintro e w5 ⟨⟨fb,rfl,hb⟩,hm⟩;go_wp2;rw[hr.out];exact⟨rfl,A3 ⟨⟨fb,rfl,hb⟩,ks.mod.Aj hm⟩⟩):p:=h
theorem maj (h:p:=by
 rw[B0] at he;obtain⟨⟨fb,rfl,hb⟩,hm⟩:=he;have hr:Hid (x.Bf nm ws=.error c):=D (by rw[Hp.out,B0]);clear B0;go_wp2;rw[hr.out];exact⟨rfl,Ce M8 ⟨⟨fb,rfl,hb⟩,Gm.mod.Aj hm⟩⟩):p:=h
theorem mam (h:p:=by
 go_wp2;rw[hr.out];exact⟨rfl,A3 (R.fail ⟨⟨fb,rfl,hb⟩,hm⟩)⟩):p:=h
theorem man (h:p:=by
 cases t' with
 |nil=>rfl
 |set v op a b r=>obtain⟨q,us,h1,_⟩:=Ay;cases h1
 |get v f s a r=>obtain⟨q,us,h1,_⟩:=Ay;cases h1
 |put f s i a r=>obtain⟨q,us,h1,_⟩:=Ay;cases h1
 |out a r=>obtain⟨q,us,h1,_⟩:=Ay;cases h1
 |atomic b r=>obtain⟨q,us,sl,ws,h1,_⟩:=Ay;cases h1
 |Ew a b r=>obtain⟨q,us,sl,ws,h1,_⟩:=Ay;cases h1
 |loop m b r=>obtain⟨q,us,sl,ws,h1,_⟩:=Ay;cases h1):p:=h
theorem maw (h:p:=by
 have k:=h.swap (i:=J L) (o':=.row (qD (U ⟨b,0,Z⟩) n n) T 1 n c.toList) (o:=.Ao b c T) EQ (Aw.refl _ _) ?_ (by simp[Ob.fp,Value.ownBlock]) (λx hx=> .inl (by simpa[Ob.fp,Value.ownBlock] using hx))
 .simpa using k
 .have hb:=h.Ao (i:=J L) (b:=b) (c:=c) (T:=T) EQ;refine⟨by simp[hc],.inr ⟨b,n,c,rfl,Jo _,hb,Jf _,hn,by simp[hc],by simp[hc,JV]⟩⟩):p:=h
theorem maD (h:p:=by
 rintro e v' ⟨rfl,c',a',vs',ls',E',UG,s,kn,an,hl⟩;refine⟨rfl,⟨c',a',AV++vs',h.st.trans s,h.kf.step s,h.kp.step s,λhi=>?_,h.hb.eq hb,?_⟩⟩
 .obtain⟨vs,ls,E,h1,h2,h3,h4,h5⟩:=h.ab hi;exact⟨vs++vs',ls++ls',E'++E,by rw[h1,Jj],Ad1 h2 UG,(h3.step s).gJ kn,h4.FY an Y,by rw[GT];omega⟩
 .have:=h.al;rw[GT];omega):p:=h
theorem maP (h:p:=by
 exact⟨rfl,A3 (hR.fail ⟨⟨fb,rfl,hb⟩,hm⟩)⟩):p:=h
theorem maR (h:p:=by
 have:=S.trans (Ay.trans t1);unfold RG.Az;unfold RG.Az at this;rw[e];exact this):p:=h
theorem maU (h:p:=by
 show U (Ob.row (qD g.t.p (J R.p.Aa) g.t.c) 72 1 (J R.p.Aa) (A4 g.cv R.p.Aa))=_;rw[UF,ht];simp):p:=h
theorem ma3 (h:p:=by
 exact⟨rfl,⟨fb,rfl,hb⟩,hm⟩):p:=h
theorem mbd (h:p:=by
 simp only[AD,Jd h] at hp;rcases Jl.1 hp with rfl|hp
 .exact Jo _
 .have:=ih p hp;simp only[Jg];omega):p:=h
theorem mbf (h:p:=by
 unfold qL.Df at h;split at h
 .cases h
 .split at h
  .cases h;exact⟨rfl,rfl⟩
  .split at h
   .cases h
   .cases h;exact⟨rfl,rfl⟩):p:=h
theorem mbg (h:p:=by
 rcases Jw (AD 10 (bs s)) with h|⟨a,b,h⟩
 .exact Jk h (Cc _ _)
 .exact⟨a,b,by rw[h,Jz]⟩):p:=h
theorem mbq (h:p:=by
 rw[hv,ht,Bm _ _ _ _ hl,Bm _ _ _ _ hl,Qg _ _ (by rw[BT _ _ hl];exact Jf _),BT _ _ hl];simp):p:=h
theorem mbv (h:p:=by
 rw[JN hk,QE];rfl):p:=h
theorem mbM (h:p:=by
 exact((Aw.refl _ _).alloc _)):p:=h
theorem mbO (h:p:=by
 congr 3;apply Array.ext
 .simp[madeCells]
 .intro i h1 h2;simp[madeCells,Nat.mod_one]):p:=h
theorem mbR (h:p:=by
 rw[Ja,QC Y];exact Jo _):p:=h
theorem mbT (h:p:=by
 exact⟨by go_simp,by go_simp⟩):p:=h
theorem mbU (h:p:=by
 exact⟨by go_simp,by go_simp,by go_simp⟩):p:=h
