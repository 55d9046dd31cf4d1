/- Part 18 of the proof. -/
import Derived.Test.YtpdfifdlhpmofaaGreatDoorA14
import Derived.Test.YtpdfifdlhpmofaaGreatDoorA17
set_option linter.unusedVariables false
set_option linter.unusedSimpArgs false
set_option maxHeartbeats 0
set_option maxRecDepth 99999
namespace Go.Proofs.YtpdfifdlhpmofaaGreatDoor
open Go.RowKit Tryz
open Value renaming slice->qD,string->qE,bool->qF,tuple->qG,agg->qH,pointer->qI
open Ending renaming returned->qJ
open Obj renaming cells->qK
open Option renaming none->Z,some->U
open Bool renaming true->V,false->I
open Go.Lib renaming hid->D
open List renaming length->J
theorem ma9 {p:Prop} (h:p:=by
 go_wp2_with fail;refine HT.mono ?_;intro e w2 he;obtain⟨FA,hm⟩:=he;subst FA;have SX:=D (HM.Aj hm);clear hm;go_wp2;go_ret3;rw[HR.out];exact⟨SX,rfl⟩):p:=h
variable {c:Int×Nat}
def F7 (y:qL):By:=DK (CG y.cells y.Aa (J y.Aa))
def AlX (res:Except (Int×Nat) qL) (w:World) (e:Ending) (w':World):Prop:=match res with
 |.error c=>∃fb,e= qJ (qG #[qE ⟨#[]⟩,.iface 123 (iJ fb)])/\Ch w' fb #[iI c.1,iI c.2] 127/\Aw [] w w'
 |.ok y=>e= qJ (qG #[qE (AR (F7 y)),.nilIface])/\Aw [] w w'
theorem fU (mb:Nat) (s:ByteArray) (w:World) (hg:Gl mb w) (hs:s.size<=1000000):
  Calls prog 33 #[qE s] w (AlX (Fs (bs s)) w):=by
 have Hp:=D (sa mb s w hg hs);have HG:=D hg;clear hg;go_enter func33,ntmps33;go_wp2_with fail;refine Hp.mono ?_;intro e w1 he;clear Hp;cases hr:Fs (bs s) with
 |error c=>
  rw[hr] at he;obtain⟨fb,FA,hb,hm⟩:=he;subst FA;have Hb:=D hb;have Hm:=D hm;have HR:=D hr;clear hr hb hm;go_wp2;go_ret2;rw[HR.out];exact⟨fb,rfl,Hb,Hm⟩
 |ok y=>
  rw[hr] at he;obtain⟨F,pb,tp,tc,rows,FA,hm,hK,MS,DH,Ex⟩:=he;subst FA;have bT:=dx (bs s);rw[hr] at bT;obtain⟨p,hP⟩:∃p,PS y p:=by
   unfold vL at bT;cases hq:FP (bs s) with
   |error d=>rw[hq] at bT;exact bT.elim
   |ok p=>rw[hq] at bT;exact⟨p,bT⟩
  obtain⟨Akg,Aif,mP,h3⟩:=I0 hP;have AlP:=D (AdD F y.cells ⟨hP.fw.c0,mP⟩ y.Aa pb tp tc rows w1 hK MS DH Ex h3 (λt ht=>⟨(Aif t ht).1,(Aif t ht).2,by have:=hP.fn.all t ht;have:=fX t;omega⟩));have Hth:=D Akg;have Hm:=D hm;have HP:=D hP;have HR:=D hr;clear hr bT hm hK MS DH Ex Akg Aif hP mP;go_wp2_with fail;refine AlP.mono ?_;intro e w2 he;obtain⟨op,oc,cs,FA,Ns,Ay⟩:=he;subst FA;have Fa:Aw [] w1 w2:=Ay.mod.mono λx hx=>by simp[Er] at hx
  have Cs:=KV y.cells y.Aa (J y.Aa);have Co:Aq w2 (KF op (CG y.cells y.Aa (J y.Aa)).length oc cs (CG y.cells y.Aa (J y.Aa))):=by rw[Cs];exact Ay.Ak
  have Ag5:=D (AaC _ op oc cs w2 Co (by rw[Cs,Ns]) ((HG.quiet Hm).quiet Fa).tab (λl hl i hi=>⟨(Hth l hl).2.1 i hi,λe=>by have:=(Hth l hl).2.1 i hi;rw[e] at this;exact this⟩) (Yd HP) (by rw[Cs];omega) (λl hl=>by have:=(Hth l hl).1;omega));rw[Cs] at Ag5;have X8:=D (Hm.Aj Fa);clear Ns Ay Fa Cs Co h3;go_wp2_with fail;refine Ag5.mono ?_;intro e w3 he;obtain⟨FA,iY⟩:=he;subst FA;have vB:=D (X8.Aj iY);clear iY;go_wp2;go_ret2;rw[HR.out];exact⟨rfl,vB⟩
def sY (res:Except (Int×Nat) qL) (w:World) (e:Ending) (w':World):Prop:=Aw [] w w'/\match res with
 |.error c=>e= qJ (qG #[qE ⟨#[]⟩,iI c.1,iI c.2])
 |.ok y=>e= qJ (qG #[qE (AR (F7 y)),iI 0,iI 0])
theorem cK.quiet {w w':World} (h:cK w) (k:Aw [] w w'):cK w':=AH k h
theorem gx (mb:Nat) (s:ByteArray) (w:World) (hg:Gl mb w) (ht:cK w) (hs:s.size<=1000000):
  Calls prog 22 #[qE s] w (sY (Fs (bs s)) w):=by
 have Hc:=D (fU mb s w hg hs);have Ht:=D ht;clear hg ht;go_enter func22,ntmps22;go_wp2_with fail;refine Hc.mono ?_;intro e w1 he;cases hr:Fs (bs s) with
 |error c=>
  rw[hr] at he;obtain⟨fb,FA,hb,hm⟩:=he;subst FA;have HT:=D (oQ fb c.1 c.2 w1 hb (Ht.quiet hm));have HM:=D hm;have HR:=D hr;clear hr hb hm;exact ma9
 |ok y=>
  rw[hr] at he;obtain⟨FA,hm⟩:=he;subst FA;have HT:=D (Aep w1);have HM:=D hm;have HR:=D hr;clear hr hm;exact ma9
theorem Xi {n:Nat} {r:RS} (h:KB n r=.error c):((c.1:Int) !=0)=V:=by
 unfold KB at h;split at h
 .cases h;rfl
 split at h
 .cases h;rfl
 .cases h
theorem Y8:∀(l:List By) (n:Nat) (r:RS) (c:Int×Nat),NA l n r=.error c->((c.1:Int) !=0)=V
 |[],n,r,c,h=>Xi h
 |[p],n,r,c,h=>by
  unfold NA at h;split at h
  .exact Xi h
  .cases h;rfl
 |p::q::l,n,r,c,h=>by
  unfold NA at h;split at h
  .split at h
   .rename_i hr;cases h;exact lh hr
   .exact Y8 _ _ _ _ h
  .cases h;rfl
theorem wS {s:By} (h:FP s=.error c):((c.1:Int) !=0)=V:=by
 unfold FP at h;split at h
 .cases h;rfl
 .exact Y8 _ _ _ _ h
def tz (s:By) (w:World) (e:Ending) (w':World):Prop:=match FP s with
 |.error _=>e= qJ (qG #[qE ⟨#[]⟩,qI Z,qF V])/\Aw [] w w'
 |.ok p=>∃(y:qL) (g:RG) (R:RS),PS y p/\R.p=p/\C5 g R/\e= qJ (qG #[qE (AR (F7 y)),iJ g.pb,qF V])/\Af w [] w' (g.rest R)
theorem ir (mb:Nat) (s:ByteArray) (w:World) (hg:Gl mb w) (ht:cK w) (hs:s.size<=1000000):
  Calls prog 9 #[qE s] w (tz (bs s) w):=by
 have Hc:=D (gx mb s w hg ht hs);have Hs:=D hs;clear hg ht hs;have bT:=dx (bs s);cases hf:Fs (bs s) with
 |error c=>
  rw[hf] at bT;cases hr:FP (bs s) with
  |ok p=>rw[hr] at bT;exact bT.elim
  |error d=>
   rw[hr] at bT;obtain rfl:c=d:=bT;have he:=wS hr;have q1:((c.1:Int) !=c.1)=I:=EQ
   have q2:((c.2:Int) !=(c.2:Int))=I:=EQ
   have HF:=D hf;have HR:=D hr;clear hf hr;go_enter func9,ntmps9;go_wp2_with fail;refine Hc.mono ?_;intro e w1 he;unfold sY at he;rw[HF.out] at he;obtain⟨hm,FA⟩:=he;subst FA;have Hr:=D (dt s w1 Hs);have HM:=D hm;clear hm Hc;go_wp2_with fail;refine Hr.mono ?_;intro e w2 he;rw[HR.out] at he;obtain⟨FA,hm⟩:=he;subst FA;have SX:=D (HM.Aj hm);clear hm Hr;go_wp2;go_ret3;unfold tz;rw[HR.out];exact⟨rfl,SX⟩
 |ok y=>
  rw[hf] at bT;cases hr:FP (bs s) with
  |error d=>rw[hr] at bT;exact bT.elim
  |ok p=>
   rw[hr] at bT;have HP:=D (show PS y p from bT);have HF:=D hf;have HR:=D hr;clear hf hr bT;go_enter func9,ntmps9;go_wp2_with fail;refine Hc.mono ?_;intro e w1 he;unfold sY at he;rw[HF.out] at he;obtain⟨hm,FA⟩:=he;subst FA;have Hr:=D (dt s w1 Hs);have HM:=D hm;clear hm Hc;go_wp2_with fail;refine Hr.mono ?_;intro e w2 he;rw[HR.out] at he;obtain⟨g,R,hR,hL,FA,Ay⟩:=he;subst FA;have Hl:=D (lY (AR (F7 y)) w2 (by rw[LF];unfold F7;exact Yd HP));have SX:=D Ay;have HL:=D hL;have HRp:=D hR;clear Ay Hr hL hR;go_wp2_with fail;refine Hl.mono ?_;intro e w3 he;rw[show bs (AR (F7 y))=F7 y from Di _] at he;unfold F7 at he;rw[aF HP.out] at he;obtain⟨mb,mv,tv,xs,FA,hM,hm,_⟩:=he;subst FA;obtain⟨hb,_,hto,hxl,_,_⟩:=hM;obtain⟨tp,tc,rfl,_,_⟩:=UW hto;have hlen:J xs=J R.p.Aa:=by
    rw[hxl,HRp.out,HP.out.Aa];simp[CG]
   have h3:J R.p.Aa<=3:=by
    have:=(I0 HP).2.2.2;rw[HRp.out,HP.out.Aa,JY];exact this
   have m1:=hb.cell 1;have p0:=((SX.Ak.Ao (i:=0) rfl).mod hm EQ).cell 0;have HS:=D (show Af w [] w3 (g.rest R) from(Af.quiet (Aq.nil w) HM).trans (SX.trans (Af.quiet SX.Ak hm)));rw[hlen] at m1;have q:((J R.p.Aa:Int)==(J R.p.Aa:Int))=V:=EQ
   clear hb hto hxl hm Hl SX HM hlen;go_upto_region 8 with fail
   refine AU (l:=sq [] 0 19) (λW=>W.cell? ⟨mb,1,Z⟩=U (qD tp (J R.p.Aa) tc)/\W.cell? ⟨g.pb,0,Z⟩=U (qD g.t.p (J R.p.Aa) g.t.c)) 19 ⟨m1,p0⟩ ?_;refine FC ?_;refine Bb rfl (λK hK=>?_);go_simp;refine hK _ _ (λh=>Jk h Do) ?_;clear hK;simp only[Ct];go_wp2;go_ret3;unfold tz;rw[HR.out];exact⟨y,g,R,HP,HRp,HL,rfl,HS.trans (Af.drew HS.Ak)⟩
