/- Scripts that stand more than once in the proof, each as a theorem's default. -/
import Derived.Test.YtpdfifdlhpmofaaGreatDoorProg
import Derived.Test.YtpdfifdlhpmofaaGreatDoorD00
import Derived.WalkKit
import Derived.Lib.Hide
import Derived.Deep.QuietTactic
import Derived.BigQuiet
import Derived.LaidEql
import Derived.Stop.Asserts
import Derived.RowKitTokens
import Derived.WalkLawsBesides
import Derived.WalkSpells
import Derived.Lib.Explode
import Derived.Deep.DeepCutAuto
import Derived.Deep.RegionHeld3
import Derived.Deep.AppendLies
import Derived.Deep.CutBlock
import Derived.Lib.ItoaNum
import Derived.Lib.ParseIntBTie
import Derived.Lib.Split
import Derived.Lib.IndexBytes
import Derived.Lib.SlTrimSet
import Derived.Shelf.Strings.SlTrimAscii
import Derived.Maps.Own
import Derived.Maps.OwnOps
import Derived.Laws.EntriesVeiled
import Derived.Recover
import Derived.Defers
import Derived.Lib.ReplaceLaws
import Derived.Tactics
import Derived.Tactics2
import Derived.Deep.RegionLaw
import Derived.Deep.OwnRows
import Derived.Shelf.Strings.Builder1
import Derived.Lib.ItoaLen
import Derived.ProofKit
import Derived.LaidMore
import Derived.Lay
import Derived.Lib.LaidU8
import Derived.HandedShaped
import Derived.Shelf.Vars
import Derived.SevenTiedAt
import Derived.OpenShut
import Derived.Stop.Joined
import Derived.ChangeSlices
import Derived.Carry
set_option linter.unusedVariables false
set_option linter.unusedSimpArgs false
set_option maxHeartbeats 0
set_option maxRecDepth 99999
namespace Go.Proofs.YtpdfifdlhpmofaaGreatDoor
open Go.RowKit
open Value renaming slice->m9,string->qA,bool->qB,tuple->qC,agg->qD,pointer->qE
open Ending renaming returned->qF
open Obj renaming cells->qG
open Option renaming none->Z,some->U
open Bool renaming true->V,false->I
open Go.Lib renaming hid->D
open List renaming length->J
variable {p:Prop}
abbrev Jz:=@World.cell?_alloc_past
abbrev Qp:=@World.cell?_alloc_lt
abbrev Qz:=@World.news_of_block
abbrev QT:=@World.frozen?_alloc_old
abbrev jE:=@World.cell?_of_block
abbrev m7:=@World.var?_cell
theorem mab (h:p:=by
 rw[BZ] at he;obtain⟨rfl,g',F',DS,Eg,VN,S4⟩:=he;have gS:=EI BZ;have hr:x.Bd nm ws=if 14<y.Ah+1\/4<y.EV then .error 5 else .ok {y with Ah:=y.Ah+1}:=by rw[Hp.out,BZ]
 rw[S4.D1.EV] at hr;have Pu:True->wrap64 (y.Ah+1)=y.Ah+1:=λ_=>IntWalk.wrap64_in _ Y
 have f4:=Iv S4.Ak;have y6:w4.cell? ⟨g.xb,6,Z⟩=U (iI y.Ah):=DS▸f4.c 6;have y5:w4.cell? ⟨g.xb,5,Z⟩=U (m9 (U ⟨g'.ob,0,Z⟩) (J g'.fr+1) g'.oc):=DS▸f4.c 5;have y1:w4.cell? ⟨g.xb,1,Z⟩=U (iI Ae):=DS▸f4.c 1;have yf:=DS▸f4.f 6;have cb:=S4.AJ.cell (Eg _ (IR _ MX)) 0;obtain⟨t5,S5⟩:=S4.count (Ge.trans VN);rw[DS] at t5 S5;have Ud:=D t5;have Ue:=D S5;have rT:=D DS;have Mg:=D Eg;have Ub:=D hr;clear BZ f4 S4 VN t5 S5 DS Eg hr gS;by_cases OR:14<y.Ah+1
 .have LB:=Ub.trans (Jb (.inl OR));have IA:=D LB;clear LB;go_wp2_with fail;refine(AP _ _ _).mono ?_;rintro e w5 ⟨⟨fb,rfl,hb⟩,hm⟩;go_wp2;rw[IA.out];exact⟨rfl,Cd Np ⟨⟨fb,rfl,hb⟩,Ud.mod.Aj hm⟩⟩
 .by_cases h4:4<J g'.fr+1
  .have pQ:4<(J g'.fr:Int)+1:=Y
   have IA:=D (Ub.trans (Jb (.inr h4)));clear h4;go_wp2_with fail;refine(AP _ _ _).mono ?_;rintro e w5 ⟨⟨fb,rfl,hb⟩,hm⟩;go_wp2;rw[IA.out];exact⟨rfl,Cd Np ⟨⟨fb,rfl,hb⟩,Ud.mod.Aj hm⟩⟩
  .have pQ:¬4<(J g'.fr:Int)+1:=Y
   have IA:=D (Ub.trans (In (λh=>h.elim OR h4)));clear h4;go_wp2
   go_end0
   rw[IA.out];exact⟨rfl,g',F',Ns,rT,λy hy=>Mg.out y (Jc _ hy),Ud,Ue⟩):p:=h
theorem mai (h:p:=by
 have hr:=D (Hr.trans (EC hN.th));have ij:=D R3;clear p3 he R3 R No Hr hN hP;go_wp2_with fail;refine(AP _ _ _).mono ?_;rintro e w5 ⟨⟨fb,rfl,hb⟩,hm⟩;go_wp2;rw[hr.out];exact⟨rfl,AZ ⟨⟨fb,rfl,hb⟩,ij.mod.Aj hm⟩⟩):p:=h
theorem maj (h:p:=by
 rw[BZ] at he;obtain⟨⟨fb,rfl,hb⟩,hm⟩:=he;have hr:Hid (x.Bd nm ws=.error c):=D (by rw[Hp.out,BZ]);clear BZ;go_wp2;rw[hr.out];exact⟨rfl,Cd Np ⟨⟨fb,rfl,hb⟩,Ge.mod.Aj hm⟩⟩):p:=h
theorem mam (h:p:=by
 go_wp2;rw[hr.out];exact⟨rfl,AZ (R.fail ⟨⟨fb,rfl,hb⟩,hm⟩)⟩):p:=h
theorem man (h:p:=by
 cases t' with
 |nil=>rfl
 |set v op a b r=>obtain⟨q,us,h1,_⟩:=Aw;cases h1
 |get v f s a r=>obtain⟨q,us,h1,_⟩:=Aw;cases h1
 |put f s i a r=>obtain⟨q,us,h1,_⟩:=Aw;cases h1
 |out a r=>obtain⟨q,us,h1,_⟩:=Aw;cases h1
 |atomic b r=>obtain⟨q,us,sl,ws,h1,_⟩:=Aw;cases h1
 |Es a b r=>obtain⟨q,us,sl,ws,h1,_⟩:=Aw;cases h1
 |loop m b r=>obtain⟨q,us,sl,ws,h1,_⟩:=Aw;cases h1):p:=h
theorem mav (h:p:=by
 have k:=h.swap (i:=J L) (o':=.row (m9 (U ⟨b,0,Z⟩) n n) T 1 n c.toList) (o:=.Ao b c T) EQ (Az.refl _ _) ?_ (by simp[Ob.fp,Value.ownBlock]) (λx hx=> .inl (by simpa[Ob.fp,Value.ownBlock] using hx))
 .simpa using k
 .have hb:=h.Ao (i:=J L) (b:=b) (c:=c) (T:=T) EQ;refine⟨by simp[hc],.inr ⟨b,n,c,rfl,Jr _,hb,Jf _,hn,by simp[hc],by simp[hc,J6]⟩⟩):p:=h
theorem maC (h:p:=by
 rintro e v' ⟨rfl,c',a',vs',ls',E',Vj,s,kn,an,hl⟩;refine⟨rfl,⟨c',a',AV++vs',h.st.trans s,h.kf.step s,h.kp.step s,λhi=>?_,h.hb.eq hb,?_⟩⟩
 .obtain⟨vs,ls,E,h1,h2,h3,h4,h5⟩:=h.ab hi;exact⟨vs++vs',ls++ls',E'++E,by rw[h1,Ji],AdA h2 Vj,(h3.step s).fP kn,h4.FQ an Y,by rw[GT];omega⟩
 .have:=h.al;rw[GT];omega):p:=h
theorem maN (h:p:=by
 exact⟨rfl,AZ (hR.fail ⟨⟨fb,rfl,hb⟩,hm⟩)⟩):p:=h
theorem maP (h:p:=by
 have:=S.trans (Aw.trans t1);unfold RG.Ay;unfold RG.Ay at this;rw[e];exact this):p:=h
theorem maS (h:p:=by
 show U (Ob.row (m9 g.t.p (J R.p.Aa) g.t.c) 72 1 (J R.p.Aa) (BF g.cv R.p.Aa))=_;rw[Ul,ht];simp):p:=h
theorem maZ (h:p:=by
 exact⟨rfl,⟨fb,rfl,hb⟩,hm⟩):p:=h
theorem ma9 (h:p:=by
 simp only[AD,Jb h] at hp;rcases Jl.1 hp with rfl|hp
 .exact Jr _
 .have:=ih p hp;simp only[Jg];omega):p:=h
theorem mbb (h:p:=by
 unfold qH.Df at h;split at h
 .cases h
 .split at h
  .cases h;exact⟨rfl,rfl⟩
  .split at h
   .cases h
   .cases h;exact⟨rfl,rfl⟩):p:=h
theorem mbc (h:p:=by
 rcases Jv (AD 10 (bs s)) with h|⟨a,b,h⟩
 .exact Jk h (Cc _ _)
 .exact⟨a,b,by rw[h,Jy]⟩):p:=h
theorem mbm (h:p:=by
 rw[hv,ht,Bu _ _ _ _ hl,Bu _ _ _ _ hl,Qd _ _ (by rw[Ch _ _ hl];exact Jf _),Ch _ _ hl];simp):p:=h
theorem mbr (h:p:=by
 rw[JK hk,Qv];rfl):p:=h
theorem mbH (h:p:=by
 exact((Az.refl _ _).alloc _)):p:=h
theorem mbJ (h:p:=by
 congr 3;apply Array.ext
 .simp[madeCells]
 .intro i h1 h2;simp[madeCells,Nat.mod_one]):p:=h
theorem mbO (h:p:=by
 exact⟨by go_simp,by go_simp⟩):p:=h
theorem mbP (h:p:=by
 exact⟨by go_simp,by go_simp,by go_simp⟩):p:=h
