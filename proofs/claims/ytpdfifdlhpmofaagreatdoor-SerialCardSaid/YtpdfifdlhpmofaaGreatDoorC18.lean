/- Part 18 of the proof. -/
import Derived.Test.YtpdfifdlhpmofaaGreatDoorC14
import Derived.Test.YtpdfifdlhpmofaaGreatDoorC17
set_option linter.unusedVariables false
set_option linter.unusedSimpArgs false
set_option maxHeartbeats 0
set_option maxRecDepth 99999
namespace Go.Proofs.YtpdfifdlhpmofaaGreatDoor
open Go.RowKit Tryz
open Value renaming slice->m9,string->qA,bool->qB,tuple->qC,agg->qD,pointer->qE
open Ending renaming returned->qF
open Obj renaming cells->qG
open Option renaming none->Z,some->U
open Bool renaming true->V,false->I
open Go.Lib renaming hid->D
open List renaming length->J
theorem ma5 {p:Prop} (h:p:=by
 go_wp2_with fail;refine HT.mono ?_;intro e w2 he;obtain⟨Fx,hm⟩:=he;subst Fx;have SQ:=D (HM.Aj hm);clear hm;go_wp2;go_ret3;rw[HR.out];exact⟨SQ,rfl⟩):p:=h
variable {c:Int×Nat}
def FY (y:qH):By:=DM (CE y.cells y.Aa (J y.Aa))
def Alx (res:Except (Int×Nat) qH) (w:World) (e:Ending) (w':World):Prop:=match res with
 |.error c=>∃fb,e= qF (qC #[qA ⟨#[]⟩,.iface 123 (iJ fb)])/\Ci w' fb #[iI c.1,iI c.2] 127/\Az [] w w'
 |.ok y=>e= qF (qC #[qA (AU (FY y)),.nilIface])/\Az [] w w'
theorem eW (mb:Nat) (s:ByteArray) (w:World) (hg:Gl mb w) (hs:s.size<=1000000):
  Calls prog 33 #[qA s] w (Alx (Fl (bs s)) w):=by
 have Hp:=D (pU mb s w hg hs);have HG:=D hg;clear hg;go_enter func33,ntmps33;go_wp2_with fail;refine Hp.mono ?_;intro e w1 he;clear Hp;cases hr:Fl (bs s) with
 |error c=>
  rw[hr] at he;obtain⟨fb,Fx,hb,hm⟩:=he;subst Fx;have Hb:=D hb;have Hm:=D hm;have HR:=D hr;clear hr hb hm;go_wp2;go_ret2;rw[HR.out];exact⟨fb,rfl,Hb,Hm⟩
 |ok y=>
  rw[hr] at he;obtain⟨F,pb,tp,tc,rows,Fx,hm,hK,Mn,EX,Ex⟩:=he;subst Fx;have fY:=cB (bs s);rw[hr] at fY;obtain⟨p,hP⟩:∃p,PS y p:=by
   unfold uI at fY;cases hq:FL (bs s) with
   |error d=>rw[hq] at fY;exact fY.elim
   |ok p=>rw[hq] at fY;exact⟨p,fY⟩
  obtain⟨AjT,AhS,lF,h3⟩:=IT hP;have Alr:=D (Ada F y.cells ⟨hP.fw.c0,lF⟩ y.Aa pb tp tc rows w1 hK Mn EX Ex h3 (λt ht=>⟨(AhS t ht).1,(AhS t ht).2,by have:=hP.fn.all t ht;have:=eY t;omega⟩));have Hth:=D AjT;have Hm:=D hm;have HP:=D hP;have HR:=D hr;clear hr fY hm hK Mn EX Ex AjT AhS hP lF;go_wp2_with fail;refine Alr.mono ?_;intro e w2 he;obtain⟨op,oc,cs,Fx,PG,Aw⟩:=he;subst Fx;have FM:Az [] w1 w2:=Aw.mod.mono λx hx=>by simp[Et] at hx
  have B8:=KJ y.cells y.Aa (J y.Aa);have Cp:Aq w2 (Ky op (CE y.cells y.Aa (J y.Aa)).length oc cs (CE y.cells y.Aa (J y.Aa))):=by rw[B8];exact Aw.Ak
  have AgH:=D (zS _ op oc cs w2 Cp (by rw[B8,PG]) ((HG.quiet Hm).quiet FM).tab (λl hl i hi=>⟨(Hth l hl).2.1 i hi,λe=>by have:=(Hth l hl).2.1 i hi;rw[e] at this;exact this⟩) (XN HP) (by rw[B8];omega) (λl hl=>by have:=(Hth l hl).1;omega));rw[B8] at AgH;have gN:=D (Hm.Aj FM);clear PG Aw FM B8 Cp h3;go_wp2_with fail;refine AgH.mono ?_;intro e w3 he;obtain⟨Fx,gW⟩:=he;subst Fx;have yX:=D (gN.Aj gW);clear gW;go_wp2;go_ret2;rw[HR.out];exact⟨rfl,yX⟩
def rN (res:Except (Int×Nat) qH) (w:World) (e:Ending) (w':World):Prop:=Az [] w w'/\match res with
 |.error c=>e= qF (qC #[qA ⟨#[]⟩,iI c.1,iI c.2])
 |.ok y=>e= qF (qC #[qA (AU (FY y)),iI 0,iI 0])
theorem bL.quiet {w w':World} (h:bL w) (k:Az [] w w'):bL w':=AK k h
theorem fA (mb:Nat) (s:ByteArray) (w:World) (hg:Gl mb w) (ht:bL w) (hs:s.size<=1000000):
  Calls prog 22 #[qA s] w (rN (Fl (bs s)) w):=by
 have Hc:=D (eW mb s w hg hs);have Ht:=D ht;clear hg ht;go_enter func22,ntmps22;go_wp2_with fail;refine Hc.mono ?_;intro e w1 he;cases hr:Fl (bs s) with
 |error c=>
  rw[hr] at he;obtain⟨fb,Fx,hb,hm⟩:=he;subst Fx;have HT:=D (nG fb c.1 c.2 w1 hb (Ht.quiet hm));have HM:=D hm;have HR:=D hr;clear hr hb hm;exact ma5
 |ok y=>
  rw[hr] at he;obtain⟨Fx,hm⟩:=he;subst Fx;have HT:=D (AdZ w1);have HM:=D hm;have HR:=D hr;clear hr hm;exact ma5
theorem W0 {n:Nat} {r:RS} (h:Ku n r=.error c):((c.1:Int) !=0)=V:=by
 unfold Ku at h;split at h
 .cases h;rfl
 split at h
 .cases h;rfl
 .cases h
theorem YH:∀(l:List By) (n:Nat) (r:RS) (c:Int×Nat),Nb l n r=.error c->((c.1:Int) !=0)=V
 |[],n,r,c,h=>W0 h
 |[p],n,r,c,h=>by
  unfold Nb at h;split at h
  .exact W0 h
  .cases h;rfl
 |p::q::l,n,r,c,h=>by
  unfold Nb at h;split at h
  .split at h
   .rename_i hr;cases h;exact iT hr
   .exact YH _ _ _ _ h
  .cases h;rfl
theorem vq {s:By} (h:FL s=.error c):((c.1:Int) !=0)=V:=by
 unfold FL at h;split at h
 .cases h;rfl
 .exact YH _ _ _ _ h
def rX (s:By) (w:World) (e:Ending) (w':World):Prop:=match FL s with
 |.error _=>e= qF (qC #[qA ⟨#[]⟩,qE Z,qB V])/\Az [] w w'
 |.ok p=>∃(y:qH) (g:RG) (R:RS),PS y p/\R.p=p/\C9 g R/\e= qF (qC #[qA (AU (FY y)),iJ g.pb,qB V])/\Ai w [] w' (g.rest R)
theorem gx (mb:Nat) (s:ByteArray) (w:World) (hg:Gl mb w) (ht:bL w) (hs:s.size<=1000000):
  Calls prog 9 #[qA s] w (rX (bs s) w):=by
 have Hc:=D (fA mb s w hg ht hs);have Hs:=D hs;clear hg ht hs;have fY:=cB (bs s);cases hf:Fl (bs s) with
 |error c=>
  rw[hf] at fY;cases hr:FL (bs s) with
  |ok p=>rw[hr] at fY;exact fY.elim
  |error d=>
   rw[hr] at fY;obtain rfl:c=d:=fY;have he:=vq hr;have q1:((c.1:Int) !=c.1)=I:=EQ
   have q2:((c.2:Int) !=(c.2:Int))=I:=EQ
   have HF:=D hf;have HR:=D hr;clear hf hr;go_enter func9,ntmps9;go_wp2_with fail;refine Hc.mono ?_;intro e w1 he;unfold rN at he;rw[HF.out] at he;obtain⟨hm,Fx⟩:=he;subst Fx;have Hr:=D (cy s w1 Hs);have HM:=D hm;clear hm Hc;go_wp2_with fail;refine Hr.mono ?_;intro e w2 he;rw[HR.out] at he;obtain⟨Fx,hm⟩:=he;subst Fx;have SQ:=D (HM.Aj hm);clear hm Hr;go_wp2;go_ret3;unfold rX;rw[HR.out];exact⟨rfl,SQ⟩
 |ok y=>
  rw[hf] at fY;cases hr:FL (bs s) with
  |error d=>rw[hr] at fY;exact fY.elim
  |ok p=>
   rw[hr] at fY;have HP:=D (show PS y p from fY);have HF:=D hf;have HR:=D hr;clear hf hr fY;go_enter func9,ntmps9;go_wp2_with fail;refine Hc.mono ?_;intro e w1 he;unfold rN at he;rw[HF.out] at he;obtain⟨hm,Fx⟩:=he;subst Fx;have Hr:=D (cy s w1 Hs);have HM:=D hm;clear hm Hc;go_wp2_with fail;refine Hr.mono ?_;intro e w2 he;rw[HR.out] at he;obtain⟨g,R,hR,hL,Fx,Aw⟩:=he;subst Fx;have Hl:=D (kO (AU (FY y)) w2 (by rw[Lt];unfold FY;exact XN HP));have SQ:=D Aw;have HL:=D hL;have HRp:=D hR;clear Aw Hr hL hR;go_wp2_with fail;refine Hl.mono ?_;intro e w3 he;rw[show bs (AU (FY y))=FY y from Dk _] at he;unfold FY at he;rw[ZS HP.out] at he;obtain⟨mb,mv,tv,xs,Fx,hM,hm,_⟩:=he;subst Fx;obtain⟨hb,_,hto,hxl,_,_⟩:=hM;obtain⟨tp,tc,rfl,_,_⟩:=Uz hto;have hlen:J xs=J R.p.Aa:=by
    rw[hxl,HRp.out,HP.out.Aa];simp[CE]
   have h3:J R.p.Aa<=3:=by
    have:=(IT HP).2.2.2;rw[HRp.out,HP.out.Aa,JZ];exact this
   have m1:=hb.cell 1;have p0:=((SQ.Ak.Ao (i:=0) rfl).mod hm EQ).cell 0;have HS:=D (show Ai w [] w3 (g.rest R) from(Ai.quiet (Aq.nil w) HM).trans (SQ.trans (Ai.quiet SQ.Ak hm)));rw[hlen] at m1;have q:((J R.p.Aa:Int)==(J R.p.Aa:Int))=V:=EQ
   clear hb hto hxl hm Hl SQ HM hlen;go_upto_region 8 with fail
   refine AO (l:=sq [] 0 19) (λW=>W.cell? ⟨mb,1,Z⟩=U (m9 tp (J R.p.Aa) tc)/\W.cell? ⟨g.pb,0,Z⟩=U (m9 g.t.p (J R.p.Aa) g.t.c)) 19 ⟨m1,p0⟩ ?_;refine Fg ?_;refine A7 rfl (λK hK=>?_);go_simp;refine hK _ _ (λh=>Jk h Do) ?_;clear hK;simp only[Cr];go_wp2;go_ret3;unfold rX;rw[HR.out];exact⟨y,g,R,HP,HRp,HL,rfl,HS.trans (Ai.drew HS.Ak)⟩
