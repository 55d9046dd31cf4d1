/-
  Scripts that stand more than once in the proof, each as a theorem's default.
-/
import Derived.Test.YtpdfifdlhpmofaaGreatDoorProg
import Derived.Test.YtpdfifdlhpmofaaGreatDoorY00
import Derived.WalkKit
import Derived.Lib.Hide
import Derived.Deep.QuietTactic
import Derived.BigQuiet
import Derived.LaidEql
import Derived.Stop.Asserts
import Derived.RowKitTokens
import Derived.WalkLawsBesides
import Derived.WalkSpells
import Derived.Lib.Explode
import Derived.Deep.DeepCutAuto
import Derived.Deep.RegionHeld3
import Derived.Deep.AppendLies
import Derived.Deep.CutBlock
import Derived.Lib.ItoaNum
import Derived.Lib.ParseIntBTie
import Derived.Lib.Split
import Derived.Lib.IndexBytes
import Derived.Lib.SlTrimSet
import Derived.Shelf.Strings.SlTrimAscii
import Derived.Maps.Own
import Derived.Maps.OwnOps
import Derived.Laws.EntriesVeiled
import Derived.Recover
import Derived.Defers
import Derived.Lib.ReplaceLaws
import Derived.Tactics
import Derived.Tactics2
import Derived.Deep.RegionLaw
import Derived.Deep.OwnRows
import Derived.Shelf.Strings.Builder1
import Derived.Lib.ItoaLen
import Derived.ProofKit
import Derived.LaidMore
import Derived.Lay
import Derived.Lib.LaidU8
import Derived.HandedShaped
import Derived.Shelf.Vars
import Derived.SevenTiedAt
import Derived.OpenShut
import Derived.Stop.Joined
import Derived.ChangeSlices
import Derived.Carry
set_option linter.unusedVariables false
set_option linter.unusedSimpArgs false
set_option maxHeartbeats 3200000
set_option maxRecDepth 100000
namespace Go.Proofs.YtpdfifdlhpmofaaGreatDoor
open Go.RowKit Tryz
open Go.Lib (hid)
abbrev Qac:=@World.cell?_alloc_past
abbrev Qbv:=@World.cell?_alloc_lt
abbrev Qb5:=@World.news_of_block
abbrev Qcl:=@World.frozen?_alloc_old
abbrev Qdf:=@World.cell?_of_block
abbrev Qdi:=@World.shaped_of_ZipB
theorem mab {p:Prop} (h:p:=by
 rw[CN] at he;obtain⟨rfl,g',F',EB,Et,SB,S4⟩:=he;have cq:=ER CN;have hr:x.AL nm ws=if 14 < y.Ah+1\/4 < y.Fg then .error 5 else .ok {y with Ah:=y.Ah+1}:=by rw[Hp.out,CN]
 rw[S4.FB.Fg] at hr;have Nh:True->wrap64 (y.Ah+1)=y.Ah+1:=fun _=>IntWalk.wrap64_in _ Y
 have f4:=GU S4.Am;have y6:w4.cell? ⟨g.xb,6,none⟩=some (i5 y.Ah):=EB▸f4.c 6;have y5:w4.cell? ⟨g.xb,5,none⟩=some (.slice (some ⟨g'.ob,0,none⟩) (g'.fr.length+1) g'.oc):=EB▸f4.c 5;have y1:w4.cell? ⟨g.xb,1,none⟩=some (i5 Ae):=EB▸f4.c 1;have yf:World.frozen? w4 ⟨g.xb,6,none⟩=false:=EB▸f4.f 6;have yl:g.xb < w4.heap.size:=EB▸f4.lt;have cb:=S4.AN.cell (Et _ (D _ MX)) 0;have JK:w.heap.size≠g.xb:=fun e=>by rw[e] at AX;omega
 obtain⟨t5,S5⟩:=S4.count (Gi.trans SB);rw[EB] at t5 S5;have QU:=hid t5;have QV:=hid S5;have jO:=hid EB;have KU:=hid Et;have QR:=hid hr;clear CN f4 S4 SB t5 S5 EB Et hr cq;by_cases Ln:14 < y.Ah+1
 ·have IK:x.AL nm ws= .error 5:=QR.trans (In (.inl Ln));have Gz:=hid IK;clear IK;go_wp2_with fail;refine(AQ _ _ _).mono ?_;rintro e w5 ⟨⟨fb,rfl,hb⟩,hm⟩;go_wp2;rw[Gz.out];exact⟨rfl,Cp Mr ⟨⟨fb,rfl,hb⟩,QU.Bf.Ad hm⟩⟩
 ·by_cases h4:4 < g'.fr.length+1
  ·have jc:(4:Int) < (g'.fr.length:Int)+1:=Y
   have Gz:=hid (QR.trans (In (.inr h4)));clear h4;go_wp2_with fail;refine(AQ _ _ _).mono ?_;rintro e w5 ⟨⟨fb,rfl,hb⟩,hm⟩;go_wp2;rw[Gz.out];exact⟨rfl,Cp Mr ⟨⟨fb,rfl,hb⟩,QU.Bf.Ad hm⟩⟩
  ·have jc:¬(4:Int) < (g'.fr.length:Int)+1:=Y
   have Gz:=hid (QR.trans (I (fun h=>h.elim Ln h4)));clear h4;go_wp2
   go_end0
   rw[Gz.out];exact⟨rfl,g',F',LF,jO,fun y hy=>KU.out y (GT _ hy),QU,QV⟩):p:=h
theorem maf {p:Prop} (h:p:=by
 simp[Value.cells] at Mv;obtain⟨rfl,rfl,rfl⟩:=Mv;simp only[Prod.mk.injEq] at hx;obtain⟨rfl,rfl⟩:=hx;simp only[Qau] at hz;have hlz:((lits (H:=H) .i64 (zs.take len)).length+(lits (H:=H) .i64 (zs.drop len)).length)*8<=reachBytes:=by
  have e:DataW.weights prog 29 (DataW.slice (lits (H:=H) .i64 (zs.take len)) (lits (H:=H) .i64 (zs.drop len)))=((lits (H:=H) .i64 (zs.take len)).length+(lits (H:=H) .i64 (zs.drop len)).length)*8::(DataW.weightsAll prog 3 (lits (H:=H) .i64 (zs.take len))++DataW.weightsAll prog 3 (lits (H:=H) .i64 (zs.drop len))):=by
   unfold DataW.weights;rw[underlying29];show _*prog.bytesOf 3::_=_;rw[Acw]
  have q:=Qa4.1 hwt (((lits (H:=H) .i64 (zs.take len)).length+(lits (H:=H) .i64 (zs.drop len)).length)*8) (GT _ (D _ (e▸J ..)));exact Qbz q
 have hlen:(zs.take len).length=len:=by simp;omega
 have ht:(lits (H:=H) .i64 (zs.take len)).length=len:=by simp[lits];omega
 refine(CN (zs.take len) hlen.symm ?_ ?_ ?_).mono fun e W' ⟨he,hm⟩=>by subst he;exact Ma W' hm
 ·obtain⟨b,off,pa⟩:=a;intro i hi;rw[hlen] at hi;have hc:=Lm i Y;have hsel:pa=none:=by simpa[Addr.add] using World.cell?_spot (Lm 0 Y)
  subst hsel;refine⟨b,off,rfl,?_⟩;rw[show(zs.take len).getD i 0=zs.getD i 0 by rw[GE,GE,List.getElem?_take,In hi]];cases i with
  | zero=>simpa[Addr.add] using hc
  | succ i=>simpa[Addr.add] using hc
 ·intro n hn;have:=hwz n (List.mem_of_mem_take hn);simpa[Lit.wf,i64,ua] using this
 ·rw[hlen];unfold reachBytes at hs9 hlz;omega):p:=h
theorem mag {p:Prop} (h:p:=by
 obtain⟨wvq,p3,_⟩:=R3.px;have x5:w3.cell? ⟨g.xb,5,none⟩=some (.slice none 0 0):=(p3.cell 5).trans (Qao some hN.o);have x1:w3.cell? ⟨g.xb,1,none⟩=some (i5 Ae):=p3.cell 1;have xl:g.xb < w3.heap.size:=p3.lt;have cb:=R3.cell MX 0;have hr:=hid (Hr.trans (EM hN.th));have jQ:=hid R3;clear p3 he R3 R LC Hr hN hP;go_wp2_with fail;refine(AQ _ _ _).mono ?_;rintro e w5 ⟨⟨fb,rfl,hb⟩,hm⟩;go_wp2;rw[hr.out];exact⟨rfl,A7 ⟨⟨fb,rfl,hb⟩,jQ.Bf.Ad hm⟩⟩):p:=h
theorem mam {p:Prop} (h:p:=by
 rw[CN] at he;obtain⟨⟨fb,rfl,hb⟩,hm⟩:=he;have hr:Hid (x.AL nm ws= .error c):=hid (by rw[Hp.out,CN]);clear CN;go_wp2;rw[hr.out];exact⟨rfl,Cp Mr ⟨⟨fb,rfl,hb⟩,Gi.Bf.Ad hm⟩⟩):p:=h
theorem mao {p:Prop} (h:p:=by
 refine⟨_,rfl,_,_,_,[],[]++(p1++[]),[],hW',?_,?_,?_,sT hm _,fun h=>by cases h⟩
 ·rw[e1];exact trodAll_mk1 (shut_bool underlying4 true)
 ·rw[e1];exact trodAll_mk3 (Below.trod aR Fd (Qbz Fd) h0k hb (fun x hx=>by cases hx)) (Below.trod aR Fd (Qbz Fd) h1k hb (fun x hx=>AX x (by simp[hx]))) (Below.trod aR Fd (Qbz Fd) h2k hb (fun x hx=>by cases hx))
 ·rw[e1];rfl):p:=h
theorem mas {p:Prop} (h:p:=by
 go_wp2;rw[hr.out];exact⟨rfl,A7 (R.fail ⟨⟨fb,rfl,hb⟩,hm⟩)⟩):p:=h
theorem mat {p:Prop} (h:p:=by
 cases t' with
 | nil=>rfl
 | set v op a b r=>obtain⟨q,us,h1,_⟩:=AD;cases h1
 | get v f s a r=>obtain⟨q,us,h1,_⟩:=AD;cases h1
 | put f s i a r=>obtain⟨q,us,h1,_⟩:=AD;cases h1
 | out a r=>obtain⟨q,us,h1,_⟩:=AD;cases h1
 | atomic b r=>obtain⟨q,us,sl,ws,h1,_⟩:=AD;cases h1
 | EA a b r=>obtain⟨q,us,sl,ws,h1,_⟩:=AD;cases h1
 | loop m b r=>obtain⟨q,us,sl,ws,h1,_⟩:=AD;cases h1):p:=h
theorem mav {p:Prop} (h:p:=by
 go_wp2;rw[hr.out];exact⟨rfl,Cp Mr ⟨⟨fb,rfl,hb⟩,Gi.Bf.Ad hm⟩⟩):p:=h
theorem maB {p:Prop} (h:p:=by
 simp[Value.cells] at Mv;obtain⟨rfl,rfl,rfl⟩:=Mv;exact(CN [] rfl (fun i hi=>by simp at hi) (fun n hn=>by simp at hn) (by unfold reachBytes at hs9;simp;omega)).mono fun e W' ⟨he,hm⟩=>by subst he;exact Ma W' hm):p:=h
theorem maF {p:Prop} (h:p:=by
 intro v H;go_roundw;case rel=>exact LR.next HG hk H EQ EQ
 case measure=>simp[intOf];omega):p:=h
theorem maG {p:Prop} (h:p:=by
 rintro e v' ⟨rfl,c',a',vs',ls',E',Su,s,kn,an,hl⟩;refine⟨rfl,⟨c',a',AV++vs',h.st.trans s,h.kf.step s,h.kp.step s,fun hi=> ?_,h.hb.eq hb,?_⟩⟩
 ·obtain⟨vs,ls,E,h1,h2,h3,h4,h5⟩:=h.ab hi;exact⟨vs++vs',ls++ls',E'++E,by rw[h1,PP],wG h2 Su,(h3.step s).aS kn,h4.Fj an Y,by rw[V];omega⟩
 ·have:=h.al;rw[V];omega):p:=h
theorem maW {p:Prop} (h:p:=by
 have q:=Qa4.1 hwt s.data.toList.length (D _ (Z.2 rfl));simpa using q):p:=h
theorem ma1 {p:Prop} (h:p:=by
 have:=S.trans (AD.trans t1);unfold RG.Ar;unfold RG.Ar at this;rw[e];exact this):p:=h
theorem ma6 {p:Prop} (h:p:=by
 show some (Ob.row (.slice g.t.p R.p.Aa.length g.t.c) 72 1 R.p.Aa.length (BC g.cv R.p.Aa))=_;rw[PC,ht];simp):p:=h
theorem ma9 {p:Prop} (h:p:=by
 obtain⟨w,r,rfl⟩:=Qbx Bi;have LH:bs w=AK:=hk;simp[Br,Fh,GC,Hj,LH,AK] at hl;rcases hl.2 with h | h
 ·left;simp;omega
 ·right;exact⟨by simp;omega,by rw[Hj];exact h.2⟩):p:=h
theorem mbe {p:Prop} (h:p:=by
 have hb:=h.Au (i:=L.length) (b:=b) (c:=c) (T:=T) EQ;refine⟨by simp[hc],.inr ⟨b,n,c,rfl,d6 _,hb,LE _,hn,by simp[hc],by simp[hc,Qbo]⟩⟩):p:=h
theorem mbg {p:Prop} (h:p:=by
 exact⟨rfl,⟨fb,rfl,hb⟩,hm⟩):p:=h
theorem mbq {p:Prop} (h:p:=by
 exact⟨by go_simp,by go_simp⟩):p:=h
theorem mbw {p:Prop} (h:p:=by
 simp only[Ax,In h] at hp;rcases Pi.1 hp with rfl | hp
 ·exact d6 _
 ·have:=ih p hp;simp only[IR];omega):p:=h
theorem mbx {p:Prop} (h:p:=by
 unfold qr.Dy at h;split at h
 ·cases h
 ·split at h
  ·cases h;exact⟨rfl,rfl⟩
  ·split at h
   ·cases h
   ·cases h;exact⟨rfl,rfl⟩):p:=h
theorem mby {p:Prop} (h:p:=by
 rcases f5 (Ax 10 (bs s)) with h | ⟨a,b,h⟩
 ·exact UV h (Cb _ _)
 ·exact⟨a,b,by rw[h,m8]⟩):p:=h
theorem mbL {p:Prop} (h:p:=by
 rw[hv,ht,Bx _ _ _ _ hl,Bx _ _ _ _ hl,Qa9 _ _ (by rw[Cm _ _ hl];exact LE _),Cm _ _ hl];simp):p:=h
theorem mbR {p:Prop} (h:p:=by
 rw[Qar hk,Qby];rfl):p:=h
theorem mb6 {p:Prop} (h:p:=by
 unfold Bn;cases hs:Ax 32 p with
 | nil=>exact UV hs (Cb _ _)
 | cons a b=>exact⟨_,_,rfl⟩):p:=h
theorem mce {p:Prop} (h:p:=by
 exact⟨ts,t,by rw[h0,m8]⟩):p:=h
theorem mcf {p:Prop} (h:p:=by
 exact((Av.refl _ _).alloc _)):p:=h
theorem mcg {p:Prop} (h:p:=by
 rw[UInt8.toNat_ofNat'];omega):p:=h
theorem mcj {p:Prop} (h:p:=by
 exact Qay.2 ⟨_,J ..,Z.2 rfl⟩):p:=h
theorem mck {p:Prop} (h:p:=by
 exact⟨by go_simp,by go_simp,by go_simp⟩):p:=h
end Go.Proofs.YtpdfifdlhpmofaaGreatDoor
