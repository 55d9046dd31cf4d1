/-
  Part 19 of the proof.
-/
import Derived.Test.YtpdfifdlhpmofaaGreatDoorZ18
set_option linter.unusedVariables false
set_option linter.unusedSimpArgs false
set_option maxHeartbeats 3200000
set_option maxRecDepth 100000
namespace Go.Proofs.YtpdfifdlhpmofaaGreatDoor
open Go.RowKit Tryz
open Go.Lib (hid)
theorem ma8 {p:Prop} (h:p:=by
 cases Aq r n with
 | none=>rfl
 | some p=>obtain⟨x,y⟩:=p;simp[OT];omega):p:=h
theorem mbc {p:Prop} (h:p:=by
 rw[Pb] at he;obtain⟨⟨fb,rfl,hb⟩,CS⟩:=he;have bq:=hid (show Aq t n=none by rw[Ty.out];simp only[Aq];rw[Pb];rfl);clear Pb;go_wp2;rw[bq.out];exact⟨rfl,⟨fb,rfl,hb⟩,HM.Ad CS⟩):p:=h
theorem mbu {p:Prop} (h:p:=by
 split at h
 ·cases h
 ·split at h
  ·cases h
  ·rename_i hl;cases h;obtain⟨a1,a2⟩:=T7 hl;exact⟨(KR _ _).1.trans a1,(KR _ _).2.trans a2⟩):p:=h
theorem mbv {p:Prop} (h:p:=by
 have Hq:=hid (show Value.bool (decide (0 < k0))= .bool tr by rw[HTR.out];simp[hk]);rw[fT] at r0;clear he fT hk;go_wp2
 go_meet
 exact⟨rfl,Hq⟩):p:=h
theorem mbz {p:Prop} (h:p:=by
 exact Mg Do Do h1 h2 hb h3 hr Y):p:=h
theorem mbB {p:Prop} (h:p:=by
 go_wp2_with fail;refine(AQ _ _ _).mono ?_;rintro e w5 ⟨⟨fb,rfl,hb⟩,hm⟩;go_wp2;rw[bq.out];exact⟨rfl,⟨fb,rfl,hb⟩,LD.Ad hm⟩):p:=h
theorem mbO {p:Prop} (h:p:=by
 unfold BM at h2;rw[he,h2] at h1;simp only[Option.some.injEq,Obj.cells.injEq] at h1;exact⟨h1.1.symm,h1.2.1.symm⟩):p:=h
variable {r:Bt} {n b o b1 o1 Ae:Int} {k pB eB rb mb:Nat} {ts:List Bt} {w w5 w0 W wr:World} {T rows:Array Value} {Post:Ending->World->Prop} {pv wv:Value} {tp te:TypeId} {g:FG} {x y:qr} {os:List Fr} {F:List (Nat×Obj)} {s:By} {vs:List Value}
def OT (b o:Int):Option (Int×Int)->Option (Int×Int)
 | none=>none
 | some (x,y)=>some (b+x,o+y)
def Agh (r:Option (Int×Int)) (w:World) (e:Ending) (w':World):Prop:=match r with
 | none=>F1 [] 5 0 w e w'
 | some (b,o)=>e= .returned (.tuple #[i5 b,i5 o])/\Av [] w w'
theorem wE (b o:Int):OT b o (some (0,0))=some (b,o):=by simp[OT]
theorem pM (c:Option (Int×Int)):OT 0 0 c=c:=by
 cases c with
 | none=>rfl
 | some p=>obtain⟨x,y⟩:=p;simp[OT]
theorem vQ (a:At) (r:Bt) (n b o:Int):OT b o (Aq (.out a r) n)=OT b (o+n) (Aq r n):=by
 simp only[Aq];exact ma8
theorem zZ {a:At} {bd:Bt} (h:Aq bd n=some (b1,o1)):OT b o (Aq (.EA a bd r) n)=OT (b+b1) (o+o1) (Aq r n):=by
 simp only[Aq,h];exact ma8
theorem vR {k:Int} {bd:Bt} (h:Aq bd (n*k)=some (b1,o1)):OT b o (Aq (.loop k bd r) n)=OT (b+b1) (o+o1) (Aq r n):=by
 simp only[Aq,h];exact ma8
theorem ju {bd:Bt} (h:Aq bd 1=some (b1,o1)) (h8:¬8 < o1):OT b o (Aq (.atomic bd r) n)=OT (b+n) o (Aq r n):=by
 simp only[Aq,h,I h8];exact ma8
theorem TA {a:Int} (h0:0<=a) (h1:a<=1000000):True->wrap64 a=a:=fun _=>IntWalk.wrap64_in _ Y
theorem jg (F:List (Nat×Obj)) (cl:Int) (N:Nat) (hn9:N<=1000):∀(t:Bt) (sl:Value) (vs:List Value) (n:Int) (d:Nat) (B4:Bool) (w:World),A5 w [] F->FH t<=N->EE F sl vs->Ef F t vs->WF cl t d B4->d<=3->0<=n->n<=Pw d->
  Calls prog 102 #[sl,i5 n] w (Agh (Aq t n) w):=by
 induction N using Nat.strongRecOn with
 | _ N ih=>
 intro t sl vs n d B4 w hK hn hr hs hw hd Gu K8;have hlen:vs.length<=1000:=by have:=hs.len;omega
 have hp:=(O2 hd).1;have AgH:n<=64:=Y
 obtain⟨p,c,rfl⟩:=hr.KO;have Hr:=hid hr;have Hs:=hid hs;have HK:=hid hK;have IH:=hid ih;have HW:=hid hw;have Hn1:=hid K8;clear hr hs hK ih hw K8 hp;go_enter func102,ntmps102;go_wp2;go_loopw [4,5,18] (fun b o i wr=>∃(k:Nat) (t':Bt) (b0 o0:Int),i= i5 k/\b= i5 b0/\o= i5 o0/\k<=vs.length/\Ef F t' (vs.drop k)/\WF cl t' d B4/\Aq t n=OT b0 o0 (Aq t' n)/\FH t'<=N/\0<=b0/\b0+64*FH t'<=64*FH t/\0<=o0/\o0+64*FH t'<=64*FH t/\Av [] w wr) (fun _ _ i _=>vs.length - (intOf i).toNat);case atStart=>exact⟨0,t,0,0,rfl,rfl,rfl,d6 _,Hs,HW,(pM _).symm,hn,Y,Y,Y,Y,Av.refl _ _⟩
 case round=>
  obtain⟨k,t',b0,o0,rfl,rfl,rfl,hk,AD,hw,fO,Ia,FT,J2,ho0,RR,hm⟩:=hrel;have Ty:=hid fO;have HM:=hid hm;have AbM:=hn;clear fO hm;cases fV:vs.drop k with
  | nil=>
   rw[fV] at AD;have Jc:¬(k:Int) < (vs.length:Int):=by have:=Qcu.1 fV;omega
   have ht:Aq t' n=some (0,0):=by
    exact mat
   have Ht:=hid (Ty.trans (by rw[ht,wE]));clear ht AD fV;go_wp2;go_ret2;rw[Ht.out];exact⟨rfl,HM⟩
  | cons v us=>
   have K:=HK.quiet HM.out;obtain⟨_,Sr,b,hp,Lm⟩:=Hr.AW K fV;subst hp;have Jc:(k:Int) < (vs.length:Int):=Y
   have PG:(0:Int)<=(k:Int):=Y
   have bB:us=vs.drop (k+1):=by rw[<-Qc4,fV];rfl
   rw[fV] at AD;have lQ:=hid bB;clear fV bB;have inc:True->wrap64 ((k:Int)+1)=k+1:=fun _=>Wv k Y
   have P0:=TA (a:=b0) FT Y;have hwo:=TA (a:=o0) ho0 Y;cases t' with
   | nil=>cases AD
   | set v0 op a b1 r=>
    obtain⟨q,us',h1,h2,h3⟩:=AD;cases h1;have ta0:=gp;have ta1:=Yr;have ta2:=TE;have ta3:=XJ;have H3:=hid h3;have Hw:=hid hw.2.2.2.2;simp only[FH] at Ia J2 RR;clear h3 h2 hw K;go_wp2_with fail;go_roundw;case rel=>exact⟨k+1,r,b0,o0,by (try rw[inc trivial]);rfl,rfl,rfl,Y,lQ.out▸H3.out,Hw,by rw[Ty.out];exact rfl,Y,Y,Y,Y,Y,HM⟩
    case measure=>(try rw[inc trivial]);simp[intOf];omega
   | get v0 f s a r=>
    obtain⟨q,us',h1,h2,h3⟩:=AD;cases h1;have ta0:=gx;have ta1:=Yw;have ta2:=TM;have ta3:=XN;have H3:=hid h3;have Hw:=hid hw.2.2.2.2;simp only[FH] at Ia J2 RR;clear h3 h2 hw K;go_wp2_with fail;go_roundw;case rel=>exact⟨k+1,r,b0,o0,by (try rw[inc trivial]);rfl,rfl,rfl,Y,lQ.out▸H3.out,Hw,by rw[Ty.out];exact rfl,Y,Y,Y,Y,Y,HM⟩
    case measure=>(try rw[inc trivial]);simp[intOf];omega
   | put f s i a r=>
    obtain⟨q,us',h1,h2,h3⟩:=AD;cases h1;have ta0:=gr;have ta1:=Ys;have ta2:=TF;have ta3:=XL;have H3:=hid h3;have Hw:=hid hw.2.2.2.2;simp only[FH] at Ia J2 RR;clear h3 h2 hw K;go_wp2_with fail;go_roundw;case rel=>exact⟨k+1,r,b0,o0,by (try rw[inc trivial]);rfl,rfl,rfl,Y,lQ.out▸H3.out,Hw,by rw[Ty.out];exact rfl,Y,Y,Y,Y,Y,HM⟩
    case measure=>(try rw[inc trivial]);simp[intOf];omega
   | out a r=>
    obtain⟨q,us',h1,h2,h3⟩:=AD;cases h1;have ta0:=Qh;have ta1:=Yt;have ta2:=TH;have ta3:=XM;have H3:=hid h3;have Hw:=hid hw.2;simp only[FH] at Ia J2 RR;have hwn:=TA (a:=o0+n) Y Y;clear h3 h2 hw K;go_wp2_with fail;go_roundw;case rel=>exact⟨k+1,r,b0,(o0+n),by (try rw[inc trivial]);rfl,rfl,rfl,Y,lQ.out▸H3.out,Hw,by rw[Ty.out];exact vQ ..,Y,Y,Y,Y,Y,HM⟩
    case measure=>(try rw[inc trivial]);simp[intOf];omega
   | EA a bd r=>
    obtain⟨q,us',sl',ws,h1,h2,h3,h4,h5⟩:=AD;cases h1;have ta0:=Yv;have ta1:=VJ;have ta2:=VI;have ta3:=Z5;have H3:=hid h3;have H4:=hid h4;have H5:=hid h5;have kq:=K.cell h2;have Hw:=hid hw.2.2.2;simp only[FH] at Ia J2 RR AbM;have X0:d < 3:=hw.2.1;have uz:n<=Pw (d+1):=by have:=Hn1.out;have:=(O2 hd).2;show n<=4*Pw d;omega
    have PD:0<=n:=Gu;obtain⟨p',c',rfl⟩:=H3.KO;have Hc:=hid (fun (W:World) (hW:Av [] w W)=>IH.out (FH bd) Y Y bd _ ws n (d+1) B4 W (HK.quiet hW) (LE _) H3 H4 hw.2.2.1 Y PD uz);have Hbd:=hid (fun (b1 o1:Int)=>OP (c:=cl) bd (d+1) B4 n b1 o1 hw.2.2.1 Y PD uz);clear h3 h4 h5 h2 hw K uz PD;go_wp2_with fail;refine(Hc _ HM).mono ?_;intro e w1 he;clear kq;cases Pb:Aq bd n with
    | none=>
     exact mbc
    | some q9=>
     obtain⟨b1,o1⟩:=q9;rw[Pb] at he;obtain⟨rfl,CS⟩:=he;obtain⟨⟨g1,g2⟩,g3,g4⟩:=Hbd.out b1 o1 Pb;have wS:=hid Pb;have LD:=hid (HM.Ad CS);clear Pb CS;have Pz:=TA (a:=b0+b1) Y Y;have aX:=TA (a:=o0+o1) Y Y;go_wp2_with fail;go_roundw;case rel=>exact⟨k+1,r,(b0+b1),(o0+o1),by (try rw[inc trivial]);rfl,rfl,rfl,Y,lQ.out▸H5.out,Hw,by rw[Ty.out];exact zZ wS,Y,Y,Y,Y,Y,LD⟩
     case measure=>(try rw[inc trivial]);simp[intOf];omega
   | loop m bd r=>
    obtain⟨q,us',sl',ws,h1,h2,h3,h4,h5⟩:=AD;cases h1;have ta0:=TL;have ta1:=Qi;have ta2:=MH;have ta3:=VH;have H3:=hid h3;have H4:=hid h4;have H5:=hid h5;have kq:=K.cell h2;have Hw:=hid hw.2.2.2;simp only[FH] at Ia J2 RR AbM;have X0:d < 3:=hw.2.1;obtain⟨CS,XE⟩:=hw.1;have PD:0<=n*m:=Qdq Gu Y;have WH:n*m<=n*4:=Qco XE Gu;have uz:n*m<=Pw (d+1):=by have:=Hn1.out;show n*m<=4*Pw d;omega
    have hwm:True->IntKind.i64.wrap (n*m)=n*m:=fun _=>IntWalk.i64_in _ Y
    obtain⟨p',c',rfl⟩:=H3.KO;have Hc:=hid (fun (W:World) (hW:Av [] w W)=>IH.out (FH bd) Y Y bd _ ws (n*m) (d+1) B4 W (HK.quiet hW) (LE _) H3 H4 hw.2.2.1 Y PD uz);have Hbd:=hid (fun (b1 o1:Int)=>OP (c:=cl) bd (d+1) B4 (n*m) b1 o1 hw.2.2.1 Y PD uz);clear h3 h4 h5 h2 hw K uz PD WH CS XE;have H2:=hid kq;go_upto_region 14 with fail
    refine Ap (l:=[(0,true),(1,true),(2,true),(3,true),(4,true),(5,true),(6,true),(7,true),(8,true),(9,true),(10,false),(11,true),(12,true),(13,true),(14,true),(15,false)]) (fun W=>W.cell? ⟨q,0,none⟩=some (i5 m)/\W.cell? ⟨q,1,none⟩=some (.slice p' ws.length c')) 15 ⟨kq 0,kq 1⟩ ?_;refine detE ?_;intro K hK;refine(Hc _ HM.drew).mono ?_;intro e w1 he;cases Pb:Aq bd (n*m) with
    | none=>
     rw[Pb] at he;obtain⟨⟨fb,rfl,hb⟩,CS⟩:=he;have bq:=hid (show Aq t n=none by rw[Ty.out];simp only[Aq];rw[Pb];rfl);clear Pb hK;go_wp2;rw[bq.out];exact⟨rfl,⟨fb,rfl,hb⟩,HM.drew.Ad CS⟩
    | some q9=>
     obtain⟨b1,o1⟩:=q9;rw[Pb] at he;obtain⟨rfl,CS⟩:=he;obtain⟨⟨g1,g2⟩,g3,g4⟩:=Hbd.out b1 o1 Pb;have wS:=hid Pb;have LD:=hid (HM.drew.Ad CS);have C4:Av [] wr w1:=((Av.refl [] wr).drew).Ad CS;refine hK _ w1 (fun _=>⟨AU C4 (H2 0),AU C4 (H2 1)⟩) ?_;clear hK;refine detE ?_;intro K hK;refine hK _ _ (fun h=>UV rfl h) ?_;clear hK Pb CS C4 kq hwm;simp only[BB];have Pz:=TA (a:=b0+b1) Y Y;have aX:=TA (a:=o0+o1) Y Y;go_wp2_with fail;go_roundw;case rel=>exact⟨k+1,r,(b0+b1),(o0+o1),by (try rw[inc trivial]);rfl,rfl,rfl,Y,lQ.out▸H5.out,Hw,by rw[Ty.out];exact vR wS,Y,Y,Y,Y,Y,LD⟩
     case measure=>(try rw[inc trivial]);simp[intOf];omega
   | atomic bd r=>
    obtain⟨q,us',sl',ws,h1,h2,h3,h4,h5⟩:=AD;cases h1;have ta0:=PY;have ta1:=MN;have ta2:=Kv;have ta3:=LQ;have H3:=hid h3;have H4:=hid h4;have H5:=hid h5;have kq:=K.cell h2;have Hw:=hid hw.2.2.2;simp only[FH] at Ia J2 RR AbM;have X0:d < 3:=hw.2.1;have uz:(1:Int)<=Pw (d+1):=by have:=(O2 hd).2;show(1:Int)<=4*Pw d;omega
    have PD:(0:Int)<=1:=AC
    obtain⟨p',c',rfl⟩:=H3.KO;have Hc:=hid (fun (W:World) (hW:Av [] w W)=>IH.out (FH bd) Y Y bd _ ws 1 (d+1) true W (HK.quiet hW) (LE _) H3 H4 hw.2.2.1 Y PD uz);have Hbd:=hid (fun (b1 o1:Int)=>OP (c:=cl) bd (d+1) true 1 b1 o1 hw.2.2.1 Y PD uz);clear h3 h4 h5 h2 hw K uz PD;go_wp2_with fail;refine(Hc _ HM).mono ?_;intro e w1 he;clear kq;cases Pb:Aq bd 1 with
    | none=>
     exact mbc
    | some q9=>
     obtain⟨b1,o1⟩:=q9;rw[Pb] at he;obtain⟨rfl,CS⟩:=he;obtain⟨⟨g1,g2⟩,g3,g4⟩:=Hbd.out b1 o1 Pb;have wS:=hid Pb;have LD:=hid (HM.Ad CS);clear Pb CS;by_cases h8:8 < o1
     ·have bq:=hid (show Aq t n=none by rw[Ty.out];simp only[Aq];rw[wS.out];simp only[];rw[In h8];rfl);exact mbB
     ·have Pz:=TA (a:=b0+n) Y Y;go_wp2_with fail;go_roundw;case rel=>exact⟨k+1,r,(b0+n),o0,by (try rw[inc trivial]);rfl,rfl,rfl,Y,lQ.out▸H5.out,Hw,by rw[Ty.out];exact ju wS Y,Y,Y,Y,Y,Y,LD⟩
      case measure=>(try rw[inc trivial]);simp[intOf];omega
def I1 (t:Bt):Bool:=match Aq t 1 with | none=>true | some (b,_)=>decide (3 < b)
theorem iB (x:qr):Ew x=(decide (x.cells<=6) && (decide (x.Aa.length<=3) && !(x.Aa.any I1))):=by
 unfold Ew;congr 2;rw[List.not_any_eq_all_not];congr 1;funext t;unfold I1;cases Aq t 1 with
 | none=>rfl
 | some p=>
  obtain⟨b,o⟩:=p;by_cases h:b<=3
  ·have h2:¬3 < b:=Y
   simp[h,h2]
  ·have h2:3 < b:=Y
   simp[h,h2]
def Aex (ok:Bool) (w:World) (e:Ending) (w':World):Prop:=if ok=true then e= .returned (.tuple #[])/\Av [] w w' else F1 [] 5 0 w e w'
theorem qY (hk:k < ts.length) (h:((ts.take k).any I1)=false) (h2:I1 (ts.getD k .nil)=false):((ts.take (k+1)).any I1)=false:=by
 rw[Qar hk,List.any_append,h];rw[GE,Id hk] at h2;simp only[Qbp] at h2;simp[h2]
theorem wq (hk:k < ts.length) (h2:I1 (ts.getD k .nil)=true):(ts.any I1)=true:=by
 rw[GE,Id hk] at h2;exact Qb9.2 ⟨_,Qab hk,h2⟩
theorem eN (F:List (Nat×Obj)) (x:qr) (w:World) (L:List Ob) (pb:Nat) (tp:Option Addr) (tc:Nat) (rows:List Value) (h:Az w L) (h1:L[1]?=some (.Au pb #[.slice tp rows.length tc,i5 x.cells] 146)) (h3:L[3]?=some (.row (.slice tp rows.length tc) 165 1 rows.length rows)) (hK:A5 w L F) (ht:GX F x.Aa rows) (hw:FW x) (Ia:∀t,t∈x.Aa->FH t<=1000):
  Calls prog 76 #[i6 pb] w (Aex (Ew x) w):=by
 have hb:=h.Au h1;have Ve:=hb.cell;have Cq:=hb.lt;have hlen:=ht.len;have H3:=hid (h.row h3);have HT:=hid ht;have HW:=hid hw;have HZ:=hid Ia;have HL:=hid hlen;have HKe:=hid (hK.sub (fun _ hx=>hx));have HK0:Hid (A5 w [] F):=hid ⟨hK.heap,fun b o _ hl=>by simp[D4] at hl⟩;have D3:=iB x;have wQ:=hid D3;clear h hb h1 h3 hK ht hw Ia D3 hlen;by_cases c6:6 < x.cells
 ·have hr:=hid (show Ew x=false by
     rw[wQ.out];have:¬x.cells<=6:=Y
     simp[this])
  go_enter func76,ntmps76;go_wp2_with fail;refine(AQ _ _ _).mono ?_;rintro e w5 ⟨⟨fb,rfl,hb⟩,hm⟩;go_wp2;rw[hr.out];exact mbg
 by_cases c3:3 < (rows.length:Int)
 ·have hr:=hid (show Ew x=false by
     rw[wQ.out];have:¬x.Aa.length<=3:=by rw[<-HL.out];omega
     simp[this])
  go_enter func76,ntmps76;go_wp2_with fail;refine(AQ _ _ _).mono ?_;rintro e w5 ⟨⟨fb,rfl,hb⟩,hm⟩;go_wp2;rw[hr.out];exact mbg
 have Hr:=hid (show Ew x= !(x.Aa.any I1) by
   rw[wQ.out];have e1:x.cells<=6:=Y
   have e2:x.Aa.length<=3:=by rw[<-HL.out];omega
   simp[e1,e2])
 go_enter func76,ntmps76;go_wp2;go_loopw [25] (fun i wr=>∃k:Nat,i= i5 k/\k<=rows.length/\((x.Aa.take k).any I1)=false/\Av [] w wr) (fun i _=>rows.length - (intOf i).toNat);case atStart=>exact⟨0,rfl,d6 _,rfl,Av.refl _ _⟩
 case round=>
  clear Ve Cq c6;obtain⟨k,rfl,hk,Ie,hm⟩:=hrel;have HM:=hid hm;have HA:=hid Ie;clear hm Ie;by_cases Jc:(k:Int) < (rows.length:Int)
  ·have LH:k < x.Aa.length:=by rw[<-HL.out];omega
   obtain⟨sl,ws,us,hd,hri,hsi⟩:=HT.AW k LH;have hv:rows[k]?=some sl:=by
    have:=Qao List.head? hd;rwa[List.head?_drop,List.head?_cons] at this
   have IN:=Ce H3 HM (fun g hg=>EQ);obtain⟨tb,tcap,Ou,_,tlt,tcc,tcm,tcel,tfr⟩:=AG IN Y;simp only[Value.slice.injEq] at Ou;obtain⟨rfl,_,rfl⟩:=Ou;have Lm:wr.cell? ⟨tb,k,none⟩=some sl:=Mi tcel hv;have PG:(0:Int)<=(k:Int):=Y
   have La:x.Aa.getD k .nil∈x.Aa:=by
    rw[GE,Id LH];exact Qab LH
   have inc:True->wrap64 ((k:Int)+1)=k+1:=fun _=>Wv k Y
   have Hc:=hid (jg F x.cells 1000 (LE _) (x.Aa.getD k .nil) sl ws 1 0 false wr (HK0.quiet HM) (HZ _ La) hri hsi (HW.th _ La) Y AC AC);obtain⟨p',c',rfl⟩:=hri.KO;have Hk':=hid LH;clear hd hri hsi hv IN tcel tfr La LH tcc tcm;go_wp2_with fail;refine Hc.mono ?_;intro e w1 he;clear Lm;cases Pb:Aq (x.Aa.getD k .nil) 1 with
   | none=>
    rw[Pb] at he;obtain⟨⟨fb,rfl,hb⟩,CS⟩:=he;have bq:=hid (show Ew x=false by rw[Hr.out,wq Hk'.out (by unfold I1;rw[Pb])];rfl);clear Pb;go_wp2;rw[bq.out];exact⟨rfl,⟨fb,rfl,hb⟩,HM.Ad CS⟩
   | some q9=>
    obtain⟨b1,o1⟩:=q9;rw[Pb] at he;obtain⟨rfl,CS⟩:=he;have LD:=hid (HM.Ad CS);have wS:=hid Pb;clear Pb CS;by_cases h3:3 < b1
    ·have bq:=hid (show Ew x=false by rw[Hr.out,wq Hk'.out (by unfold I1;rw[wS.out];simpa using h3)];rfl);exact mbB
    ·have hb9:I1 (x.Aa.getD k .nil)=false:=by unfold I1;rw[wS.out];simpa using h3
     have Hb9:=hid (qY Hk' HA hb9);clear hb9;go_wp2_with fail;go_roundw;case rel=>exact⟨k+1,by (try rw[inc trivial]);rfl,Y,Hb9,LD⟩
     case measure=>(try rw[inc trivial]);simp[intOf];omega
  ·have bq:=hid (show Ew x=true by
      rw[Hr.out];have e:x.Aa.take k=x.Aa:=Qbo (by rw[<-HL.out];omega);have h:=HA.out;rw[e] at h;rw[h];rfl)
   go_wp2
   go_end0
   rw[bq.out];exact⟨rfl,HM⟩
theorem Acy {b:Nat} {l:List ByteArray} {T:TypeId} {ok:Nat->Prop} (h:BM w b (l.map Value.string).toArray T) (hl:l.length<=maxLen) (hb:ok b) (n c:Nat) (hn:n=l.length) (hc:n<=c/\c<=maxLen):Sl w ok (.slice (some ⟨b,0,none⟩) n c) (A3 l):=by
 have e:(A3 l).length=l.length:=by simp[A3]
 refine⟨by rw[e];exact hl,.inr ⟨b,0,c,by rw[e,hn],by rw[e];omega,hc.2,hb,h.lt,fun i hi=> ?_⟩⟩;rw[Qaw,h.cell i];simp only[A3] at hi⊢;simp[Qbd,hi]
theorem cB (p:By):(Bn p).length=Lib.count p [32]+1:=by
 unfold Bn;rw[z9];exact GL 32 _ p (LE _)
theorem mr (mb:Nat) (p:ByteArray) (w:World) (hg:Gl mb w) (hp:p.size<=1000000):
  Calls prog 72 #[.string p,.string ⟨#[32]⟩] w fun e w'=>∃v,e= .returned v/\Av [] w w'/\Sl w' (fun b=>w.heap.size<=b) v (A3 (Bn (bs p))):=by
 obtain⟨m,hm⟩:=hg.BH;refine(strings_Split p ⟨#[32]⟩ m w Y hm AC).mono ?_;rintro e w' ⟨rfl,rfl⟩;have h1:=YC 32 p 0 (.inl rfl);rw[In rfl] at h1;have h2:Lib.countB p ⟨#[32]⟩+1=(Bn (bs p)).length:=(cB (bs p)).symm;have h3:=Lib.count_le (bs p) [32];have h4:Lib.countB p ⟨#[32]⟩<=p.size+1:=by have:=Bw p;show Lib.count (bs p) [32]<=_;omega
 refine⟨_,rfl,(Av.refl _ _).alloc _,Acy (l:=Bn (bs p)) (T:=9) ?_ (by rw[<-h2];unfold maxLen;omega) (LE _) _ _ h2 ⟨LE _,by unfold maxLen;omega⟩⟩;rw[h1];exact BM.new _ _ _
theorem VN (mb:Nat) (s:ByteArray) (w:World) (hg:Gl mb w) (hs:s.size<=1000000):
  Calls prog 70 #[.string s,.string ⟨#[10]⟩] w fun e w'=>∃b n,e= .returned (.slice (some ⟨b,0,none⟩) n n)/\n=(Ax 10 (bs s)).length/\Av [] w w'/\w.heap.size<=b/\BM w' b (A3 ((OM 10 (Ax 10 (bs s))).map Ay)).toArray 9:=by
 obtain⟨m,hm⟩:=hg.BH;have h1:=YC 10 s 1 (.inr rfl);rw[I AC] at h1;have h2:(Ax 10 (bs s)).length=Lib.countB s ⟨#[10]⟩+1:=GL 10 _ (bs s) (LE _);have h4:Lib.countB s ⟨#[10]⟩<=s.size:=by
  have:=Lib.countB_mul_le ⟨#[10]⟩ AC s.size s (LE _);have e:(⟨#[10]⟩:ByteArray).size=1:=rfl;rw[e] at this;omega
 have Hc:=hid (strings_genSplit s ⟨#[10]⟩ 1 (-1) (Lib.countB s ⟨#[10]⟩+1) m w Y hm AC AC AC AC (by rw[In AC];omega));have H1:=hid h1;have H2:=hid h2;have H4:=hid h4;clear h1 h2 h4 hm hg;go_enter func70,ntmps70;go_wp2_with fail;refine Hc.mono ?_;rintro e w1 ⟨rfl,rfl⟩;have h1:=H1.out;have h2:=H2.out;rw[Nat.add_sub_cancel,h1];have hl:(List.map Ay (OM 10 (Ax 10 (bs s)))).length=Lib.countB s ⟨#[10]⟩+1:=by rw[z9,o9,h2]
 rw[hl];have he:Lib.cellsOf (List.map Ay (OM 10 (Ax 10 (bs s)))) (Lib.countB s ⟨#[10]⟩+1)=(A3 ((OM 10 (Ax 10 (bs s))).map Ay)).toArray:=by
  unfold Lib.cellsOf A3;rw[hl];simp
 rw[he];have H3:=hid h2;clear h1 h2 hl he;go_wp2;go_ret;exact⟨_,_,rfl,H3.symm,(Av.refl _ _).alloc _,LE _,BM.new _ _ _⟩
theorem Aa9 (p:Value) (w:World):(Instr.typeAssert (.iface 123 p) 20 123 true).run prog w= .ok (.tuple #[p,.bool true]) w:=Fd
theorem xQ (w:World):(Instr.typeAssert .nilIface 20 123 true).run prog w= .ok (.tuple #[.pointer none,.bool false]) w:=Fd
theorem UO (pB eB:Nat) (pv v0 v1:Value) (older:List PanicEntry) (w:World) (hc:w.cell? ⟨pB,0,none⟩=some v0) (hz:w.frozen? ⟨pB,0,none⟩=false) (hd:w.cell? ⟨eB,0,none⟩=some v1) (hy:w.frozen? ⟨eB,0,none⟩=false) (Bi:eB≠pB):
  CallsD prog 68 #[i6 pB,i6 eB] (.panicking ({v:= .iface 123 pv,recovered:=false}::older)) w fun e u' w'=>
   e= .returned (.tuple #[])/\u'= .panicking ({v:= .iface 123 pv,recovered:=true}::older)/\w'=(w.setCell ⟨pB,0,none⟩ (.pointer none)).setCell ⟨eB,0,none⟩ (.iface 123 pv):=by
 have ta:=Aa9 pv;refine callsD_of_wpS func68 rfl fun c₀ cs hu=> ?_
 apply wpS_seq;apply wpS_region;simp[wpOpsS,go_sem,recoverD,hu,ntmps68,Exit.thenS,ta];apply wpS_seq;apply wpS_region;simp[wpOpsS,go_sem,ntmps68,Exit.thenS];refine wpS_cond (t:=true) (by simp[Act.eval,Array.replicate]) ?_;simp only[Qau];apply wpS_region;simp[wpOpsS,go_sem,hc,hz,hd,hy,Bi,bodyPostS,results,results68]
theorem jB (pB eB:Nat) (w:World):
  CallsD prog 68 #[i6 pB,i6 eB] .returning w fun e u' w'=>e= .returned (.tuple #[])/\u'= .returning/\w'=w:=by
 have ta:=xQ;refine callsD_of_wpS func68 rfl fun c₀ cs hu=> ?_
 apply wpS_seq;apply wpS_region;simp[wpOpsS,go_sem,recoverD,hu,ntmps68,Exit.thenS,ta];apply wpS_seq;apply wpS_region;simp[wpOpsS,go_sem,ntmps68,Exit.thenS];refine wpS_cond (t:=false) (by simp[Act.eval,Array.replicate]) ?_;simp only[Qah,y4];refine wpS_of_wp (wp_skip ?_);cases c₀;simp_all[bodyPostS,results,results68]
theorem TT {b:Nat} {v0 v:Value} {T:TypeId} (h:BM w b #[v0] T):BM (w.setCell ⟨b,0,none⟩ v) b #[v] T:=h.set 0 v
theorem jl (h2:T[2]?=some (i6 pB)) (h3:T[3]?=some (i6 eB))
  (hp:BM w5 pB #[.pointer none] tp) (he:BM w5 eB #[.nilIface] te) (Bi:eB≠pB) (PC:te=85) (yT:tp=117)
  (h:Post (.returned (.tuple #[.pointer none,.iface 123 pv])) ((w5.setCell ⟨pB,0,none⟩ (.pointer none)).setCell ⟨eB,0,none⟩ (.iface 123 pv))):
  bodyPostD prog f50 Post (Exit.panic [{v:= .iface 123 pv,recovered:=false}]) {tmps:=T,defers:=[{target:=Target.fn (Fn.func 68) #[i6 pB,i6 eB],args:= #[]}]} w5:=by
 subst PC;subst yT;have c1:=hp.cell 0;have c2:=he.cell 0;have B1:BM ((w5.setCell ⟨pB,0,none⟩ (.pointer none)).setCell ⟨eB,0,none⟩ (.iface 123 pv)) pB #[.pointer none] 117:=(TT hp).Em (fun e=>Bi e.symm) _;have B2:BM ((w5.setCell ⟨pB,0,none⟩ (.pointer none)).setCell ⟨eB,0,none⟩ (.iface 123 pv)) eB #[.iface 123 pv] 85:=TT (he.Em Bi _);have d1:=B1.cell 0;have d2:=B2.cell 0;refine leaves_cons (f:=68) (args:= #[i6 pB,i6 eB]) EQ (by simp[go_sem]) ?_;refine(UO pB eB pv _ _ [] w5 c1 (hp.free 0) c2 (he.free 0) Bi).mono ?_;rintro e u' w'' ⟨rfl,rfl,rfl⟩;generalize (w5.setCell ⟨pB,0,none⟩ (.pointer none)).setCell ⟨eB,0,none⟩ (.iface 123 pv)=w6 at*;simp[Leaves,settle,results,results50,go_sem,h2,h3,d1,d2];exact h
theorem zR (h2:T[2]?=some (i6 pB)) (h3:T[3]?=some (i6 eB))
  (hp:BM w5 pB #[pv] tp) (he:BM w5 eB #[.nilIface] te) (PC:te=85) (yT:tp=117)
  (h:Post (.returned (.tuple #[pv,.nilIface])) w5):
  bodyPostD prog f50 Post Exit.ret {tmps:=T,defers:=[{target:=Target.fn (Fn.func 68) #[i6 pB,i6 eB],args:= #[]}]} w5:=by
 subst PC;subst yT;have c1:=hp.cell 0;have c2:=he.cell 0;refine leaves_cons (f:=68) (args:= #[i6 pB,i6 eB]) EQ (by simp[go_sem]) ?_;refine(jB pB eB w5).mono ?_;rintro e u' w'' ⟨rfl,rfl,rfl⟩;simp[Leaves,settle,results,results50,go_sem,h2,h3,c1,c2];exact h
def jM (res:Except (Int×Nat) qr) (w:World) (e:Ending) (w':World):Prop:=match res with
 | .error c=>∃fb,e= .returned (.tuple #[.pointer none,.iface 123 (i6 fb)])/\BM w' fb #[i5 c.1,i5 c.2] 127/\Av [] w w'
 | .ok y=>∃F pb tp tc rows,e= .returned (.tuple #[i6 pb,.nilIface])/\Av [] w w'/\A5 w' [] F/\(pb,Obj.cells #[.slice tp y.Aa.length tc,i5 y.cells] 146 (0,0))∈F/\EE F (.slice tp y.Aa.length tc) rows/\GX F y.Aa rows
def dq (w0:World) (rb:Nat) (rows:Array Value):List (Nat×Obj):=
 [(w0.heap.size,.cells #[.pointer none] 117 (0,0)),(w0.heap.size+1,.cells #[.nilIface] 85 (0,0)),(rb,.cells rows 9 (0,0))]
structure qw (w0:World) (mb rb:Nat) (rows:Array Value) (s:By) (k:Nat) (g:FG) (F:List (Nat×Obj)) (wv:Value) (Ae:Int) (x:qr) (wr:World):Prop where
 pa:PA F g x wv Ae wr
 AN:A5 wr (g.QX x wv Ae) (dq w0 rb rows)
 gl:GlK mb wr (g.QX x wv Ae)
 new:∀b,b∈D4 (g.QX x wv Ae)->w0.heap.size<=b
 Bf:Av [] w0 wr
 fw:FW x
 fn:FN x
 cl:x.cells<=6*k
 tl:x.Aa.length<=k
 go:Fv s=IB ((Ax 10 s).drop k) k x
 bd:Xq g
 tv:g.tv.length<=3000
def PI (w0:World) (mb rb:Nat) (rows:Array Value) (s:By) (xb:Nat) (k:Nat) (wr:World):Prop:=∃g F wv Ae x,g.xb=xb/\qw w0 mb rb rows s k g F wv Ae x wr
theorem ay {b:Nat} (h:b∈PM g x wv Ae):b∈D4 (g.QX x wv Ae):=by
 unfold PM at h;by_cases hx:x.Aa=[]
 ·rw[In hx] at h;rw[GO hx];rw[Z] at h;rw[h];exact mcj
 ·rw[I hx] at h;rw[F7 hx];exact h
theorem Z8 (t:Bt):(FH t:Int)=Iw t:=by
 induction t <;>simp only[FH,Iw] <;>omega
theorem ra {o:Fr} (h:o∈os):Iw o.body<=Ju os:=by
 induction os with
 | nil=>cases h
 | cons f fs ih=>
  have h1:=Qj f.body;have h2:=aa fs;simp only[Ju];rcases Pi.1 h with rfl | h
  ·omega
  ·have:=ih h;omega
theorem rh (os:List Fr):(os.length:Int)<=Ju os:=by
 induction os with
 | nil=>simp[Ju]
 | cons f fs ih=>have:=Qj f.body;simp only[Ju,IR];omega
theorem JH.us {fs:List Jk} (h:JH F fs os):∀f,f∈fs->∃o,o∈os/\f.us.length<=FH o.body:=by
 induction fs generalizing os with
 | nil=>intro f hf;cases hf
 | cons f fs ih=>
  obtain⟨o,r,rfl,h2,h3⟩:=h;intro f' hf;rcases Pi.1 hf with rfl | hf
  ·exact⟨o,J ..,h2.st.len⟩
  ·obtain⟨o',h4,h5⟩:=ih h3 f' hf;exact⟨o',U _ h4,h5⟩
theorem PA.bd (h:PA F g x wv Ae w) (hn:FN x) (ht:x.Aa.length<=2500):
  ∃g',g'.xb=g.xb/\PA F g' x wv Ae w/\g'.QX x wv Ae=g.QX x wv Ae/\Xq g'/\g'.tv.length<=3000:=by
 by_cases hx:x.Aa=[]
 ·have e:FG.QX {g with cs:=[],fr:=[],tv:=[]} x wv Ae=g.QX x wv Ae:=by rw[GO hx,GO hx];rfl
  exact⟨{g with cs:=[],fr:=[],tv:=[]},rfl,⟨by rw[e];exact h.Am,by rw[e];exact h.AN,fun hy=>UV hx hy,h.none⟩,e,⟨EQ,EQ,EQ⟩,EQ⟩
 ·have hf:=h.FB hx;obtain⟨⟨ts,t,h1,h2,h3⟩,h4⟩:=hf;have UB:=hn.tot ts t h1;have hs:=hn.s1;have e1:=Qj t;have e2:=aa x.Af;refine⟨g,rfl,h,rfl,⟨?_,fun f hf=> ?_,?_⟩,?_⟩
  ·have:=h3.len;have:=Z8 t;omega
  ·obtain⟨o,h5,h6⟩:=h4.us f hf;have:=ra h5;have:=Z8 o.body;omega
  ·have:=rh x.Af;have:=h4.len;omega
  ·have:=h2.len;rw[h1] at ht;simp at ht;omega
theorem KR (x:qr) (s:Bt->Bt):(x.add s).cells=x.cells/\(x.add s).Aa.length=x.Aa.length:=by
 unfold qr.add;split
 ·exact⟨rfl,rfl⟩
 ·split
  ·rename_i t ht;obtain⟨ts,h⟩:=List.getLast?_eq_some_iff.1 ht;simp[h]
  ·exact⟨rfl,rfl⟩
theorem T7 {n:ByteArray} {v:Int} (h:x.Dy n= .ok (v,y)):y.cells=x.cells/\y.Aa.length=x.Aa.length:=by
 exact mbx
theorem bI {s:Sg} (h:x.finish s= .ok y):y.cells=x.cells/\y.Aa.length=x.Aa.length:=by
 cases s with
 | set n a op b=>
  simp only[qr.finish] at h;split at h
  ·cases h
  ·exact mbu
 | get n s i=>
  simp only[qr.finish] at h;exact mbu
 | put n a i=>
  simp only[qr.finish] at h;split at h
  ·cases h
  ·split at h
   ·cases h
   ·cases h;exact KR _ _
 | out a=>
  simp only[qr.finish] at h;split at h
  ·cases h
  ·cases h;exact KR _ _
 | atomic=>simp only[qr.finish] at h;cases h;exact⟨rfl,rfl⟩
 | EA a=>
  simp only[qr.finish] at h;split at h
  ·cases h
  ·cases h;exact⟨rfl,rfl⟩
 | loop n=>simp only[qr.finish] at h;cases h;exact⟨rfl,rfl⟩
theorem rQ {l:Ws} (h:x.row l= .ok y):y.cells<=x.cells+6/\y.Aa.length<=x.Aa.length+1:=by
 cases l with
 | nil=>cases h
 | cons w r=>
  by_cases h0:bs w=AK
  ·rw[Ir h0] at h;unfold qr.D6 at h;split at h
   ·cases h
   ·split at h
    ·cases h
    ·cases h
    ·rename_i sz hz;split at h
     ·cases h
     ·split at h
      ·cases h
      ·cases h;refine⟨?_,EQ⟩;show x.cells+_<=x.cells+6;split at hz
       ·cases hz;omega
       ·have:=Vy hz;omega
  by_cases h1:bs w=AE
  ·rw[Lo h1] at h;split at h
   ·cases h
   ·split at h
    ·cases h
    ·cases h;simp;omega
  by_cases h2:bs w=Ey
  ·rw[WX h2] at h;split at h
   ·cases h
   ·split at h
    ·cases h
    ·cases h;obtain⟨a1,a2⟩:=KR {x with Af:=x.Af.dropLast} (Fr.done _);rw[a1,a2];simp;omega
  ·rw[WW h0 h1 h2] at h;cases hr:IA w r with
   | none=>rw[Ck hr] at h;cases h
   | some s=>
    rw[FM hr] at h;unfold qr.Oe at h;split at h
    ·cases h
    ·split at h
     ·cases h
     ·rename_i y' hf;split at h
      ·cases h
      ·cases h;obtain⟨a1,a2⟩:=bI hf;show y'.cells<=_/\y'.Aa.length<=_;omega
theorem jh (c:UInt8) (l:List By) (p:By):OM c (l++[p])=l.map (· ++[c])++[p]:=by
 induction l with
 | nil=>rfl
 | cons a l ih=>
  cases l with
  | nil=>rfl
  | cons b q=>simp only[WP,OM,d8] at ih⊢;rw[ih]
theorem gB (c:UInt8) (s:By):∀p,p∈Ax c s->c∉p:=by
 induction s with
 | nil=>intro p hp;simp[Ax] at hp;subst hp;simp
 | cons x r ih=>
  intro p hp;by_cases h:x=c
  ·simp only[Ax,In h] at hp;rcases Pi.1 hp with rfl | hp
   ·simp
   ·exact ih p hp
  ·rw[Hy c x r h] at hp;cases hs:Ax c r with
   | nil=>exact UV hs (Cb _ _)
   | cons q qs=>
    rw[hs] at hp;rcases Pi.1 hp with rfl | hp
    ·intro hm;rcases Nm.1 hm with hm | hm
     ·rw[Z] at hm;exact h hm.symm
     ·exact ih q (by rw[hs];exact J ..) hm
    ·exact ih p (by rw[hs];exact U _ hp)
theorem MT (c:UInt8) (s:By):∀p,p∈Ax c s->p.length<=s.length:=by
 induction s with
 | nil=>intro p hp;simp[Ax] at hp;subst hp;exact LE _
 | cons x r ih=>
  intro p hp;by_cases h:x=c
  ·exact mbw
  ·rw[Hy c x r h] at hp;cases hs:Ax c r with
   | nil=>exact UV hs (Cb _ _)
   | cons q qs=>
    rw[hs] at hp;rcases Pi.1 hp with rfl | hp
    ·have:=ih q (by rw[hs];exact J ..);simp;omega
    ·have:=ih p (by rw[hs];exact U _ hp);simp only[IR];omega
theorem zT (p:By):Lib.hasSuffix (p++[10]) [10]=true/\Lib.trimSuffix (p++[10]) [10]=p:=by
 have h:Lib.hasSuffix (p++[10]) [10]=true:=by unfold Lib.hasSuffix;rw[List.isSuffixOf_iff_suffix];exact⟨p,rfl⟩
 refine⟨h,?_⟩;unfold Lib.trimSuffix;rw[In h];simp
theorem Acr {p:By} (hp:(10:UInt8)∉p):Lib.hasSuffix p [10]=false/\Lib.trimSuffix p [10]=p:=by
 have h:Lib.hasSuffix p [10]=false:=by
  rw[<-Bool.not_eq_true];unfold Lib.hasSuffix;rw[List.isSuffixOf_iff_suffix];rintro⟨q,rfl⟩;exact hp EQ
 refine⟨h,?_⟩;unfold Lib.trimSuffix;rw[h];rfl
theorem Mg {res:Except (Int×Nat) qr} {c:Int} {n fb:Nat} (h2:T[2]?=some (i6 w0.heap.size)) (h3:T[3]?=some (i6 (w0.heap.size+1)))
  (hp:BM W w0.heap.size #[.pointer none] 117) (he:BM W (w0.heap.size+1) #[.nilIface] 85) (hfb:W.heap[fb]?=some (.cells #[i5 c,i5 Ae] 127 (0,0))) (hm:Av [] w0 W) (AF:res= .error (c,n)) (hl:Ae=n):
  bodyPostD prog f50 (jM res w0) (Exit.panic [{v:= .iface 123 (i6 fb),recovered:=false}]) {tmps:=T,defers:=[{target:=Target.fn (Fn.func 68) #[i6 w0.heap.size,i6 (w0.heap.size+1)],args:= #[]}]} W:=by
 refine jl h2 h3 hp he Y rfl rfl ?_;subst hl;subst AF;have n1:fb≠w0.heap.size:=by rintro rfl;unfold BM at hp;rw[hp] at hfb;simp at hfb
 have n2:fb≠w0.heap.size+1:=by rintro rfl;unfold BM at he;rw[he] at hfb;simp at hfb
 exact⟨fb,rfl,BM.Em (BM.Em hfb n1 _) n2 _,(hm.setCell (.inr (LE _)) _).setCell (.inr (Qan _)) _⟩
theorem V4 {L:List Ob} (K:A5 W L (dq w0 rb rows)):BM W w0.heap.size #[.pointer none] 117/\BM W (w0.heap.size+1) #[.nilIface] 85/\BM W rb rows 9:=
 ⟨K.heap _ _ (by simp[dq]),K.heap _ _ (by simp[dq]),K.heap _ _ (by simp[dq])⟩
theorem se {wc:World} (K:A5 wc [] (dq w rb rows)) (hm:Av [] w wc) (hg:Gl mb wc) (hl:¬2000 < s.length):
  PI w mb rb rows s (wc.heap.size+2) 0 (((wc.alloc (.cells #[.slice none 0 0,i5 0] 146)).alloc (.map #[] 0)).alloc (.cells #[.slice none 0 0,i5 0,i6 wc.heap.size,.map (some (wc.heap.size+1)),.map none,.slice none 0 0,i5 0] 151)):=by
 have a1:=Ak.new (Az.nil wc) (.cells #[.slice none 0 0,i5 0] 146);have a2:=a1.trans (Ak.new a1.Am (.map #[] 0));have a3:=a2.trans (Ak.Ry a2.Am (.cells #[.slice none 0 0,i5 0,i6 wc.heap.size,.map (some (wc.heap.size+1)),.map none,.slice none 0 0,i5 0] 151));rw[Jh,Jh] at a3;have e:FG.QX ⟨wc.heap.size+1+1,wc.heap.size,wc.heap.size+1,0,0,0,[],⟨none,0⟩,[],0,0,[]⟩ .Dl (.slice none 0 0) 0=[.Au (wc.heap.size+1+1) #[.slice none 0 0,i5 0,i6 wc.heap.size,.map (some (wc.heap.size+1)),.map none,.slice none 0 0,i5 0] 151,.Au wc.heap.size #[.slice none 0 0,i5 0] 146,.SH (wc.heap.size+1) (.map #[] 0)]:=rfl;have hg3:GlK mb wc []:=⟨hg,fun b _ h=>by simp[D4] at h⟩;refine⟨⟨wc.heap.size+1+1,wc.heap.size,wc.heap.size+1,0,0,0,[],⟨none,0⟩,[],0,0,[]⟩,[],.slice none 0 0,0,.Dl,rfl,⟨⟨?_,A5.nil _ _,fun h=>UV rfl h,fun _=>⟨rfl,rfl,rfl⟩⟩,?_,?_,?_,?_,.Dl,.Dl,?_,?_,?_,⟨EQ,EQ,EQ⟩,EQ⟩⟩
 ·rw[e];exact a3.Am
 ·rw[e];exact K.step a3
 ·rw[e];exact hg3.step a3
 ·intro b hb;rw[e] at hb;have:=hm.size;rcases a3.fp b hb with h | h
  ·simp[D4] at h
  ·omega
 ·exact hm.Ad (a3.Bf.mono fun x hx=>by simp[D4] at hx)
 ·simp[qr.Dl]
 ·simp[qr.Dl]
 ·unfold Fv;rw[I hl];rfl
theorem qw.row (h:qw w0 mb rb rows s k g F wv Ae x wr) {wv':Value} {line':Int} (hW:b9 W g.xb (g.mR x) wv' line') (hm:Av [g.xb] wr W):
  qw w0 mb rb rows s k g F wv' line' x W:=by
 obtain⟨h1,h2⟩:=h.pa.re hW hm;refine⟨h1,h.AN.step h2,h.gl.step h2,fun b hb=> ?_,h.Bf.trans h2.Bf fun b hb=> .inr (h.new b hb),h.fw,h.fn,h.cl,h.tl,h.go,h.bd,h.tv⟩;rcases h2.fp b hb with h3 | h3
 ·exact h.new b h3
 ·have:=h.Bf.size;omega
theorem qw.quiet (h:qw w0 mb rb rows s k g F wv Ae x wr) (hm:Av [] wr W):qw w0 mb rb rows s k g F wv Ae x W:=
 h.row (h.pa.yi.px.Bf hm EQ) hm.nil
theorem qw.fail (h:qw w0 mb rb rows s k g F wv Ae x wr) (hm:Av (PM g x wv Ae) wr W):
  BM W w0.heap.size #[.pointer none] 117/\BM W (w0.heap.size+1) #[.nilIface] 85/\Av [] w0 W:=
 ⟨hm.heap (V4 h.AN).1 (fun hb=>h.AN.out _ _ (J ..) (ay hb)),hm.heap (V4 h.AN).2.1 (fun hb=>h.AN.out _ _ (U _ (J ..)) (ay hb)),h.Bf.trans hm fun b hb=> .inr (h.new b (ay hb))⟩
theorem qw.next (h:qw w0 mb rb rows s k g F wv Ae x wr) {l:Ws} (hr:x.row l= .ok y) (iT:Fv s=IB ((Ax 10 s).drop (k+1)) (k+1) y) (hk:k<=2400)
  {g':FG} {F':List (Nat×Obj)} {wv':Value} (ow:g'.xb=g.xb) (st:Ak wr (g.QX x wv Ae) W (g'.QX y wv' Ae)) (hp:PA F' g' y wv' Ae W):PI w0 mb rb rows s g.xb (k+1) W:=by
 obtain⟨hw,hn⟩:=qr.gJ h.fw h.fn hr;obtain⟨c1,c2⟩:=rQ hr;have XY:=h.tl;have Db:=h.cl;obtain⟨g2,e1,p2,e2,b2,t2⟩:=hp.bd hn Y;rw[<-e2] at st;refine⟨g2,F',wv',Ae,y,by rw[e1,ow],⟨p2,h.AN.step st,h.gl.step st,fun b hb=> ?_,h.Bf.trans st.Bf fun b hb=> .inr (h.new b hb),hw,hn,Y,Y,iT,b2,t2⟩⟩;rcases st.fp b hb with h3 | h3
 ·exact h.new b h3
 ·have:=h.Bf.size;omega
theorem yI {ini:List By} {pl:By} {m:Nat} (hP:Ax 10 s=ini++[pl]) (hk:k < m) (hm:m<=ini.length+1) (hl:ini.length < m->¬(pl=[]/\0 < ini.length)):
  ∃(q p:By) (en:Bool),(A3 (List.map Ay (List.map (fun x=>x++[10]) ini++[pl])))[k]?=some (.string (Ay q))/\Lib.hasSuffix q [10]=en/\Lib.trimSuffix q [10]=p/\q.length<=s.length+1/\p.length<=s.length/\
   (en=true->∀x,IB ((Ax 10 s).drop k) k x=match x.row (Bn p) with | .error c=> .error (c,k+1) | .ok y=>IB ((Ax 10 s).drop (k+1)) (k+1) y)/\(en=false->∀x,IB ((Ax 10 s).drop k) k x= .error (2,k+1)):=by
 have hlen:∀p,p∈Ax 10 s->p.length<=s.length:=MT 10 s;by_cases h:k < ini.length
 ·obtain⟨c1,c2⟩:=zT ini[k];have XB:ini[k]∈Ax 10 s:=by rw[hP];exact D _ (Qab h)
  refine⟨ini[k]++[10],ini[k],true,?_,c1,c2,?_,hlen _ XB,fun _ x=> ?_,(fun h=>by cases h)⟩
  ·simp only[A3,Qdo,Qaz,d8,Qch];rw[m9 (by simpa using h),Qax,Id h];rfl
  ·have:=hlen _ XB;simp;omega
  ·rw[hP];have e1:(ini++[pl]).drop k=ini[k]::(ini++[pl]).drop (k+1):=by
    rw[Qa6 (by simp;omega),List.getElem_append_left h]
   rw[e1];cases hd:(ini++[pl]).drop (k+1) with
   | nil=>have:=Qao List.length hd;simp at this;omega
   | cons a r=>rfl
 ·have LH:k=ini.length:=Y
  subst LH;have RT:(10:UInt8)∉pl:=gB 10 s pl (by rw[hP];simp);obtain⟨c1,c2⟩:=Acr RT;have XB:pl∈Ax 10 s:=by rw[hP];simp
  refine⟨pl,pl,false,?_,c1,c2,?_,hlen _ XB,(fun h=>by cases h),fun _ x=> ?_⟩
  ·simp[A3]
  ·have:=hlen _ XB;omega
  ·rw[hP,List.drop_left];show(if _ then _ else _)=_;rw[I (hl Y)]
def o4 (p e:Nat) (F:List (Nat×Obj)):List (Nat×Obj):=F.filter fun q=>decide (q.1≠p/\q.1≠e)
structure wW (p e:Nat) (F:List (Nat×Obj)) (w:World):Prop where
 k:∀b o,(b,o)∈F->w.heap[b]?=some o
 p:BM w p #[.pointer none] 117
 e:BM w e #[.nilIface] 85
section
variable {p e:Nat} {F:List (Nat×Obj)} {w:World}
theorem wW.mem (h:wW p e F w) {b:Nat} {c:Array Value} {T:TypeId} (hb:(b,Obj.cells c T (0,0))∈F) (n1:¬(c= #[.pointer none]/\T=117)) (n2:¬(c= #[.nilIface]/\T=85)):(b,Obj.cells c T (0,0))∈o4 p e F:=by
 refine List.mem_filter.2 ⟨hb,?_⟩;rw[Qad];refine⟨fun (he:b=p)=>n1 ?_,fun (he:b=e)=>n2 ?_⟩
 ·have h1:=h.k _ _ hb;have h2:=h.p;exact mbO
 ·have h1:=h.k _ _ hb;have h2:=h.e;exact mbO
theorem wW.dD (h:wW p e F w) {b:Nat} {c:Array Value} {T:TypeId} (hb:(b,Obj.cells c T (0,0))∈F) (n1:T≠117) (n2:T≠85):(b,Obj.cells c T (0,0))∈o4 p e F:=h.mem hb (fun h=>n1 h.2) (fun h=>n2 h.2)
theorem wW.row (h:wW p e F w) {sl:Value} {ws:List Value} (hr:EE F sl ws) (hw:∀v,v∈ws->v≠ .pointer none/\v≠ .nilIface):EE (o4 p e F) sl ws:=by
 rcases hr with hr | ⟨b,c,T,cur,h1,h2,h3⟩
 ·exact .inl hr
 ·cases ws with
  | nil=>exact .inl ⟨rfl,_,c,h1⟩
  | cons v us=>
   have hv:v∈cur.toList:=by
    have:v∈cur.toList.take (v::us).length:=by rw[<-h3];exact J ..
    exact List.take_subset _ _ this
   refine .inr ⟨b,c,T,cur,h1,h.mem h2 ?_ ?_,h3⟩
   ·rintro⟨rfl,_⟩;simp at hv;exact(hw v (J ..)).1 hv
   ·rintro⟨rfl,_⟩;simp at hv;exact(hw v (J ..)).2 hv
theorem Ef.ifc {t:Bt} (h:Ef F t vs):∀v,v∈vs->v≠ .pointer none/\v≠ .nilIface:=by
 induction t generalizing vs with
 | nil=>rw[show vs=[] from h];intro v hv;cases hv
 | set _ _ _ _ r ih=>obtain⟨q,us,rfl,_,h3⟩:=h;intro v hv;rcases Pi.1 hv with rfl | hv;exact⟨EQ,EQ⟩;exact ih h3 v hv
 | get _ _ _ _ r ih=>obtain⟨q,us,rfl,_,h3⟩:=h;intro v hv;rcases Pi.1 hv with rfl | hv;exact⟨EQ,EQ⟩;exact ih h3 v hv
 | put _ _ _ _ r ih=>obtain⟨q,us,rfl,_,h3⟩:=h;intro v hv;rcases Pi.1 hv with rfl | hv;exact⟨EQ,EQ⟩;exact ih h3 v hv
 | out _ r ih=>obtain⟨q,us,rfl,_,h3⟩:=h;intro v hv;rcases Pi.1 hv with rfl | hv;exact⟨EQ,EQ⟩;exact ih h3 v hv
 | atomic _ r _ ih=>obtain⟨q,us,_,_,rfl,_,_,_,h3⟩:=h;intro v hv;rcases Pi.1 hv with rfl | hv;exact⟨EQ,EQ⟩;exact ih h3 v hv
 | EA _ _ r _ ih=>obtain⟨q,us,_,_,rfl,_,_,_,h3⟩:=h;intro v hv;rcases Pi.1 hv with rfl | hv;exact⟨EQ,EQ⟩;exact ih h3 v hv
 | loop _ _ r _ ih=>obtain⟨q,us,_,_,rfl,_,_,_,h3⟩:=h;intro v hv;rcases Pi.1 hv with rfl | hv;exact⟨EQ,EQ⟩;exact ih h3 v hv
theorem wW.st (h:wW p e F w) {t:Bt} {vs:List Value} (hs:Ef F t vs):Ef (o4 p e F) t vs:=by
 induction t generalizing vs with
 | nil=>exact hs
 | set v op a b r ih=>obtain⟨q,us,h1,h2,h3⟩:=hs;exact⟨q,us,h1,h.dD h2 AC AC,ih h3⟩
 | get v f s a r ih=>obtain⟨q,us,h1,h2,h3⟩:=hs;exact⟨q,us,h1,h.dD h2 AC AC,ih h3⟩
 | put f s i a r ih=>obtain⟨q,us,h1,h2,h3⟩:=hs;exact⟨q,us,h1,h.dD h2 AC AC,ih h3⟩
 | out a r ih=>obtain⟨q,us,h1,h2,h3⟩:=hs;exact⟨q,us,h1,h.dD h2 AC AC,ih h3⟩
 | atomic b r ib ih=>obtain⟨q,us,sl,ws,h1,h2,h3,h4,h5⟩:=hs;exact⟨q,us,sl,ws,h1,h.dD h2 AC AC,h.row h3 h4.ifc,ib h4,ih h5⟩
 | EA a b r ib ih=>obtain⟨q,us,sl,ws,h1,h2,h3,h4,h5⟩:=hs;exact⟨q,us,sl,ws,h1,h.dD h2 AC AC,h.row h3 h4.ifc,ib h4,ih h5⟩
 | loop n b r ib ih=>obtain⟨q,us,sl,ws,h1,h2,h3,h4,h5⟩:=hs;exact⟨q,us,sl,ws,h1,h.dD h2 AC AC,h.row h3 h4.ifc,ib h4,ih h5⟩
theorem wW.xI (h:wW p e F w) {ts:List Bt} {vs:List Value} (hs:GX F ts vs):GX (o4 p e F) ts vs:=by
 induction ts generalizing vs with
 | nil=>exact hs
 | cons t r ih=>obtain⟨sl,ws,us,h1,h2,h3,h4⟩:=hs;exact⟨sl,ws,us,h1,h.row h2 h3.ifc,h.st h3,ih h4⟩
theorem GX.sls (h:GX F ts vs):∀v,v∈vs->v≠ .pointer none/\v≠ .nilIface:=by
 induction ts generalizing vs with
 | nil=>rw[show vs=[] from h];intro v hv;cases hv
 | cons t r ih=>
  obtain⟨sl,ws,us,rfl,h2,_,h4⟩:=h;intro v hv;rcases Pi.1 hv with rfl | hv
  ·obtain⟨p,c,rfl⟩:=h2.KO;exact⟨EQ,EQ⟩
  ·exact ih h4 v hv
end
theorem mY {w6:World} {F':List (Nat×Obj)} {lv ov sv:Value} {tp:Option Addr} {tc:Nat} {rs:List Value}
  (hI:qw w0 mb rb rows s k g F wv Ae x w5) (hF:AeK F g x wv Ae w5 lv ov sv tp tc rs F') (hm:Av [] w5 w6):
  jM (.ok x) w0 (.returned (.tuple #[i6 g.pb,.nilIface])) ((w6.setCell ⟨w0.heap.size,0,none⟩ (i6 g.pb)).setCell ⟨w0.heap.size+1,0,none⟩ .nilIface):=by
 obtain⟨E,K,hr⟩:=Qm (A:=[_,_,_]) (B:=[]) hF.st.Am hF.AN;have J1:=hF.st.Am.Au (i:=1) rfl;obtain⟨kp,ke,_⟩:=V4 hI.AN;have zj:wW w0.heap.size (w0.heap.size+1) ((g.pb,Obj.cells #[.slice tp rs.length tc,i5 x.cells] 146 (0,0))::(E++F')) w6:=by
  refine⟨fun b o hb=> ?_,kp.Bf hm EQ,ke.Bf hm EQ⟩;rcases Pi.1 hb with hb | hb
  ·cases hb;exact hm.heap J1 EQ
  ·exact hm.heap (K.heap b o hb) EQ
 have hlen:=hF.xI.len;have Ae8:=hF.xI.sub (E:=(g.pb,Obj.cells #[.slice tp rs.length tc,i5 x.cells] 146 (0,0))::(E++F')) (fun _ h=>U _ (GT _ h));have IN:=hr.sub (E:=(g.pb,Obj.cells #[.slice tp rs.length tc,i5 x.cells] 146 (0,0))::(E++F')) (fun _ h=>U _ h);refine⟨o4 w0.heap.size (w0.heap.size+1) ((g.pb,Obj.cells #[.slice tp rs.length tc,i5 x.cells] 146 (0,0))::(E++F')),g.pb,tp,tc,rs,rfl,?_,⟨fun b o hb=> ?_,fun b o _ h=>by simp[D4] at h⟩,?_,?_,zj.xI Ae8⟩
 ·exact((hI.Bf.Ad hm).setCell (.inr (LE _)) _).setCell (.inr (Qan _)) _
 ·obtain⟨h1,h2⟩:=List.mem_filter.1 hb;rw[Qad] at h2;rw[Below.heap_setCell _ _ _ _ h2.2,Below.heap_setCell _ _ _ _ h2.1];exact zj.k b o h1
 ·rw[<-hlen];exact zj.dD (J ..) AC AC
 ·rw[<-hlen];exact zj.row IN hF.xI.sls
theorem je (mb:Nat) (s:ByteArray) (w:World) (hg:Gl mb w) (hs:s.size<=1000000):
  Calls prog 50 #[.string s] w (jM (Fv (bs s)) w):=by
 have oF:∀(fn:Fn) (first cap:Array Value) (w:World),(Instr.makeFunc fn first cap).run prog w= .ok (.func fn first cap) w:=fun _ _ _ _=>rfl
 have oD:= @run_makeMap prog;have K0:A5 ((w.alloc (.cells #[.pointer none] 117)).alloc (.cells #[.nilIface] 85)) [] [(w.heap.size,.cells #[.pointer none] 117 (0,0)),(w.heap.size+1,.cells #[.nilIface] 85 (0,0))]:=by
  have a:=(A5.new (A5.new (A5.nil w []) (Az.nil w) (.cells #[.pointer none] 117)) (Az.nil _) (.cells #[.nilIface] 85));rw[Jh] at a;exact a.sub (fun x hx=>by simp only[Pi,Qcb,or_false] at hx⊢;exact hx.symm)
 have m0:Av [] w ((w.alloc (.cells #[.pointer none] 117)).alloc (.cells #[.nilIface] 85)):=((Av.refl [] w).alloc _).alloc _;have HK0:=hid K0;have HM0:=hid m0;have HG:=hid hg;clear K0 m0 hg;by_cases hl:2000 < s.size
 ·have kN:(2000:Int) < (s.size:Int):=Y
  have Hr:=hid (show Fv (bs s)= .error (1,0) by unfold Fv;rw[In (by rw[Bw];exact hl)]);clear hl;go_enter_defers func50,ntmps50;go_wp2_with fail;refine(AQ _ _ _).mono ?_;rintro e w5 ⟨⟨fb,rfl,hb⟩,hm⟩;go_wp2;have K:=HK0.quiet hm;exact Mg Do Do (K.heap _ _ (J ..)) (K.heap _ _ (U _ (J ..))) hb (HM0.Ad hm) Hr rfl
 have kN:¬(2000:Int) < (s.size:Int):=Y
 go_enter_defers func50,ntmps50;go_wp2_with fail;refine(VN mb s _ (HG.quiet HM0) hs).mono ?_;intro e w1 he;obtain⟨rb,n,rfl,hn,CS,dZ,hB⟩:=he;obtain⟨ini,pl,hP⟩:∃ini pl,Ax 10 (bs s)=ini++[pl]:=by
  exact mby
 obtain⟨k0,PG⟩:∃k,k=ini.length:=⟨_,rfl⟩;have K8:n=k0+1:=by rw[hn,hP,PG];simp
 subst K8;have Ta:k0<=2001:=by
  have:=GL 10 _ (bs s) (LE _);have h3:=Lib.count_le (bs s) [10];rw[Bw] at h3;omega
 rw[hP,jh] at hB;have K1:A5 w1 [] (dq w rb (A3 (List.map Ay (List.map (fun x=>x++[10]) ini++[pl]))).toArray):=by
  have a:=HK0.quiet CS;have Ia:=HM0.size;refine⟨fun b o hb=> ?_,fun b o _ h=>by simp[D4] at h⟩;simp only[dq,Pi,Qcb,or_false] at hb;rcases hb with hb | hb | hb
  ·cases hb;exact a.heap _ _ EQ
  ·cases hb;exact a.heap _ _ EQ
  ·cases hb;exact hB
 have P2:(A3 (List.map Ay (List.map (fun x=>x++[10]) ini++[pl]))).length=k0+1:=by simp[A3,PG]
 have FJ:(A3 (List.map Ay (List.map (fun x=>x++[10]) ini++[pl])))[k0]?=some (.string (Ay pl)):=by simp[A3,PG]
 have r0:w1.cell? ⟨rb,k0,none⟩=some (.string (Ay pl)):=by rw[hB.cell,Qbd];exact FJ
 have HP:=hid hP;have HK:=hid PG;have HK1:=hid K1;have LD:=hid (HM0.Ad CS);have HRL:=hid P2;clear hn hP PG hB CS dZ K1 P2 FJ;have hw:True->wrap64 (k0:Int)=k0:=fun _=>IntWalk.wrap64_in _ Y
 have Ab8:(0:Int)<=(k0:Int):=Y
 have Afx:(k0:Int) < (k0:Int)+1:=Y
 obtain⟨tr,htr⟩:∃b,b=decide (pl=[]/\0 < k0):=⟨_,rfl⟩;have HTR:=hid htr;clear htr;go_upto_region 6 with fail
 go_cut [29] from 18 to 29 (fun q w'=>w'=w1/\q= .bool tr)
 case first=>
  by_cases Cq:pl=[]
  ·subst Cq;have he:(Ay []).toList=[]:=by rw[ByteArray.toList_eq];rfl
   have fT:(Ay [])=⟨#[]⟩:=rfl;by_cases hk:0 < k0
   ·have oG:(0:Int) < (k0:Int):=Y
    exact mbv
   ·have oG:¬(0:Int) < (k0:Int):=Y
    exact mbv
  ·have he:¬(Ay pl).toList=[]:=by rw[ByteArray.toList_eq];exact Cq
   have fT:(Ay pl).toList.isEmpty=false:=by rw[<-Bool.not_eq_true,List.isEmpty_iff];exact he
   have Hq:=hid (show tr=false by rw[HTR.out];simp[Cq]);clear Cq;go_wp2
   go_meet
   rw[Hq.out];exact⟨rfl,rfl⟩
 case rest=>
  obtain⟨Pz,hq⟩:=hcut;subst Pz;subst hq;clear r0
  go_upto_if 29 with(fail)
  go_cut [4] from 30 to 32 (fun q w'=>w'=wc/\q= .slice (some ⟨rb,0,none⟩) (if tr=true then k0 else k0+1) (k0+1))
  case first=>
   have AgS:k0<=k0+1:=Y
   cases tr with
   | true=>
    go_wp2
    go_meet
    exact⟨rfl,rfl⟩
   | false=>
    go_wp2
    go_meet
    exact⟨rfl,rfl⟩
  case rest=>
   obtain⟨Pz,hq⟩:=hcut;subst Pz;subst hq;obtain⟨m,hm⟩:∃m,m=(if tr=true then k0 else k0+1):=⟨_,rfl⟩;rw[<-hm];have qg:m<=k0+1:=by rw[hm];split <;>omega
   have hex:∀x,IB ((ini++[pl]).drop m) m x=IC m x:=fun x=>by
    by_cases ht:tr=true
    ·rw[In ht] at hm;rw[HTR.out,Qad] at ht;obtain⟨rfl,h0⟩:=ht;rw[hm,HK.out,List.drop_left];show(if _ then _ else _)=_;rw[In ⟨rfl,by rw[<-HK.out];exact h0⟩]
    ·rw[I ht] at hm;rw[hm,HK.out,Qbc EQ];rfl
   have uK:k0 < m->¬(pl=[]/\0 < k0):=fun h hc=>by
    have ht:tr=true:=by rw[HTR.out,Qad];exact hc
    rw[In ht] at hm;omega
   have HEX:=hid hex;have HLK:=hid uK;clear hm hex uK;have WI:(0:Int)<=(m:Int):=Y
   go_wp2;go_loopw [39] (fun i wr=>∃k:Nat,i= i5 k/\k<=m/\PI w mb rb (A3 (List.map Ay (List.map (fun x=>x++[10]) ini++[pl]))).toArray (bs s) (wc.heap.size+2) k wr) (fun i _=>m - (intOf i).toNat);case atStart=>exact⟨0,rfl,d6 _,se HK1 LD (HG.quiet LD) (by rw[Bw];exact hl)⟩
   case round=>
    clear HK0 HM0 HK1 LD oD hw Ab8 Afx;obtain⟨k,rfl,hk,g,F,wv,Ae,x,ow,hI⟩:=hrel;have HI:=hid hI;have AgT:(0:Int)<=(k:Int):=Y
    have Nh:True->wrap64 ((k:Int)+1)=k+1:=fun _=>IntWalk.wrap64_in _ Y
    rw[<-ow];have Hxb:=hid ow;clear ow hI;by_cases hkm:(k:Int) < (m:Int)
    ·have AdW:k < m:=Y
     obtain⟨q,p,en,IN,hsf,htr,hql,Cq,AdZ,AdY⟩:=yI HP AdW (by rw[<-HK.out];exact qg) (by rw[<-HK.out];exact HLK.out);rw[Bw] at hql Cq;have UC:(Ay q).size<=1000001:=by rw[<-Bw,Cw];omega
     have Ug:(Ay p).size<=1000000:=by rw[<-Bw,Cw];omega
     have r0:wr.cell? ⟨rb,k,none⟩=some (.string (Ay q)):=by rw[(V4 HI.out.AN).2.2.cell,Qbd];exact IN
     have hcut:Calls prog 71 #[.string (Ay q),.string ⟨#[10]⟩] wr fun e w'=>e= .returned (.tuple #[.string (Ay p),.bool en])/\w'=wr:=by
      refine(strings_CutSuffix (Ay q) ⟨#[10]⟩ wr Y).mono ?_;rintro e w' ⟨rfl,rfl⟩;refine⟨?_,rfl⟩;show Ending.returned (.tuple #[.string ⟨(Lib.trimSuffix (bs (Ay q)) [10]).toArray⟩,.bool (Lib.hasSuffix (bs (Ay q)) [10])])=_;rw[Cw,hsf,htr];rfl
     have HPL:=hid Cq;have pX:=hid hcut;have HG1:=hid AdZ;have HG2:=hid AdY;have Hsp:=hid (mr mb (Ay p) wr HI.gl.gl Ug);clear IN hsf htr hql Cq AdZ AdY UC Ug hcut AdW;go_wp2_with fail;refine pX.mono ?_;intro e w2 he;obtain⟨II,fT⟩:=he;replace fT:=fT.symm;subst II;subst fT;go_wp2_with fail;refine Hsp.mono ?_;intro e w3 he;obtain⟨v,II,Q0,iM⟩:=he;obtain⟨sp,sc,hv,_,_⟩:=iM.KO;obtain⟨sn,hsn⟩:∃n,n=(A3 (Bn (bs (Ay p)))).length:=⟨_,rfl⟩;rw[<-hsn] at hv;subst II;subst hv;clear hsn;have I3:=HI.quiet Q0;have hpx:=I3.pa.yi.px;obtain⟨hc,hf,AX⟩:=LY hpx;have hB4:b9 (World.setCell (World.setCell w3 ⟨g.xb,0,none⟩ (.slice sp sn sc)) ⟨g.xb,1,none⟩ (i5 ((k:Int)+1))) g.xb (g.mR x) (.slice sp sn sc) ((k:Int)+1):=(hpx.set 0 (.slice sp sn sc)).set 1 (i5 ((k:Int)+1));have XE:Av [g.xb] w3 (World.setCell (World.setCell w3 ⟨g.xb,0,none⟩ (.slice sp sn sc)) ⟨g.xb,1,none⟩ (i5 ((k:Int)+1))):=((Av.refl _ _).setCell (.inl EQ) _).setCell (.inl EQ) _;have I4:=I3.row hB4 XE;have HB4:=hid hB4;have lS:=hid I4;have hxr:g.xb < wr.heap.size:=BA HI.pa.yi.px;have JZ:g.xb∉Td mb:=fun h=>HI.gl.out _ h (ay (Aax EQ))
     have AdB:Sl (World.setCell (World.setCell w3 ⟨g.xb,0,none⟩ (.slice sp sn sc)) ⟨g.xb,1,none⟩ (i5 ((k:Int)+1))) (fun b=>b≠g.xb) (.slice sp sn sc) (A3 (Bn p)):=by
      rw[Cw] at iM;exact(iM.mono (fun b _ hb=>(by omega:b≠g.xb))).Bf XE (fun b hb hm=>by rw[Z] at hm;exact hb hm)
     have Af0:=hid AdB;have Hxg:=hid JZ;clear I3 hpx hB4 XE I4 iM AdB Q0 hxr JZ r0 Hsp pX;cases en with
     | false=>
      have hr:=hid (show Fv (bs s)= .error (2,k+1) by rw[HI.out.go];exact HG2.out rfl x);have Hnn:=hid (Fi _ g.xb (g.mR x) (.slice sp sn sc) ((k:Int)+1) HB4);go_wp2_with fail;refine Hnn.mono ?_;intro e w5 he;obtain⟨⟨fb,II,hb⟩,hm⟩:=he;subst II;clear hc hf AX;go_wp2;obtain⟨h1,h2,h3⟩:=lS.fail (hm.mono (fun y hy=>by cases hy));exact mbz
     | true=>
      have Adq:Bn p≠[]:=fun h=>Cb 32 p (Qdl.1 h)
      have hwz:∀a,a∈Bn p->a.size<=1000000:=fun a ha=>by
       obtain⟨y,hy,rfl⟩:=Qbg.1 ha;have:=MT 32 p y hy;have h2:=HPL.out;rw[<-Bw,Cw];omega
      have ch:=hid (vi (Bn p) Adq mb _ g x (.slice sp sn sc) ((k:Int)+1) F lS.pa Af0 hwz lS.gl.gl Hxg lS.bd (by have:=lS.fn;exact⟨this.s0,by have:=this.s1;omega⟩) (by have:=lS.cl;have:=lS.fw.c0;omega) (by have:=lS.tl;omega) lS.tv);clear Adq hwz;have HG3:=hid (HG1 rfl x);clear HG1 HG2;go_wp2_with fail;refine ch.mono ?_;intro e w5 he;clear hc hf AX;cases hr:x.row (Bn p) with
      | error c=>
       rw[hr] at he;obtain⟨⟨fb,II,hb⟩,hm⟩:=he;subst II;have hr:=hid (show Fv (bs s)= .error (c,k+1) by rw[HI.out.go,HG3.out,hr]);go_wp2;obtain⟨h1,h2,h3⟩:=lS.fail hm;exact mbz
      | ok y=>
       rw[hr] at he;obtain⟨II,g',F',wv',Adp,_,st,hp⟩:=he;subst II;have hN:=hid (lS.next hr (by rw[HI.out.go,HG3.out,hr]) Y Adp st hp);clear hr st hp Adp;go_wp2;go_roundw;case rel=>exact⟨k+1,by (try rw[Nh trivial]);rfl,Y,hN⟩
       case measure=>(try rw[Nh trivial]);simp[intOf];omega
    ·have hke:k=m:=Y
     subst hke;have iT:Fv (bs s)=IC k x:=by rw[HI.out.go,HP.out];exact HEX.out x
     have HGO:=hid iT;have hpx:=HI.pa.yi.px;obtain⟨hc,hf,AX⟩:=LY hpx;have I4:=HI.row (W:=World.setCell wr ⟨g.xb,1,none⟩ (i5 ((k:Int)+1))) (wv':=wv) (line':=(k:Int)+1) (hpx.set 1 (i5 ((k:Int)+1))) ((Av.refl _ _).setCell (.inl EQ) _);have He:=hid (ks I4.pa I4.bd.fr);have lS:=hid I4;clear iT hpx I4;go_wp2_with fail;refine He.mono ?_;intro e w5 he;clear hc hf AX He;by_cases ho:x.Af=[];rotate_left
     ·rw[I ho] at he;obtain⟨⟨fb,II,hb⟩,hm⟩:=he;subst II;have hr:=hid (show Fv (bs s)= .error (3,k+1) by rw[HGO.out];unfold IC;rw[In (.inl ho)]);clear ho;go_wp2;obtain⟨h1,h2,h3⟩:=lS.fail (hm.mono (fun y hy=>by cases hy));exact mbz
     rw[In ho] at he;obtain⟨II,hm⟩:=he;subst II;have I5:=lS.quiet hm;by_cases hx:x.Aa=[]
     ·have Ct:=I5.pa.Am;rw[GO hx] at Ct;obtain⟨hc,hf,AX,Ve,uA,bt,IT⟩:=W0 Ct;have hr:=hid (show Fv (bs s)= .error (3,k+1) by rw[HGO.out];unfold IC;rw[In (.inr hx)]);have HI5:=hid I5;clear Ct IT hx ho I5 hm;go_wp2_with fail;refine(AQ _ _ _).mono ?_;intro e w6 he;obtain⟨⟨fb,II,hb⟩,hm⟩:=he;subst II;clear hc hf AX Ve uA bt;go_wp2;obtain⟨h1,h2,h3⟩:=HI5.fail (hm.mono (fun y hy=>by cases hy));exact mbz
     ·obtain⟨lv,ov,sv,tp,tc,rows,F',hF⟩:=lf I5.pa ho;have hF1:=hF.st.Am.Au (i:=0) rfl;have hF2:=hF.st.Am.Au (i:=1) rfl;have hxc:=hF1.cell;have Ve:=hF2.cell;have Afd:0 < rows.length:=by rw[hF.xI.len];exact Qae.2 hx
      have P2:((rows.length:Int)==0)=false:=by rw[NE];omega
      have Fa:=hF1.lt;have Cq:=hF2.lt;have wQ:=hid (eN F' x w5 _ g.pb tp tc rows hF.st.Am rfl rfl hF.AN hF.xI I5.fw (fun t ht=>by have:=I5.fn.all t ht;have:=Z8 t;omega));have HF:=hid hF;have HI5:=hid I5;have Hno:=hid (show Fv (bs s)=if Ew x then .ok x else .error (5,0) by rw[HGO.out];unfold IC;rw[I (fun h=>h.elim (fun h=>h ho) hx)]);clear hF1 hF2 hF I5 hx ho hm Afd;go_wp2_with fail;refine wQ.mono ?_;intro e w6 he;clear hxc Ve P2 Fa Cq;unfold Aex at he;cases y9:Ew x with
      | false=>
       rw[y9,I EQ] at he;obtain⟨⟨fb,II,hb⟩,hm⟩:=he;subst II;have hr:=hid (Hno.trans (by rw[y9]));go_wp2;obtain⟨h1,h2,h3⟩:=HI5.fail (hm.mono (fun y hy=>by cases hy));exact Mg Do Do h1 h2 hb h3 hr rfl
      | true=>
       rw[y9,In rfl] at he;obtain⟨II,hm⟩:=he;subst II;have hr:=hid (Hno.trans (by rw[y9]));have fP:=mY HI5 HF hm;have FT:=(HF.st.Am.quiet hm).Au (i:=0) rfl;have xc:=FT.cell;have xl:=FT.lt;obtain⟨kp,ke,_⟩:=V4 (HI5.AN.quiet hm);have pc:=kp.cell 0;have pf:=kp.free 0;have pl:=kp.lt;have ec:=ke.cell 0;have ef:=ke.free 0;have el:=ke.lt;have qm:BM (World.setCell (World.setCell w6 ⟨w.heap.size,0,none⟩ (i6 g.pb)) ⟨w.heap.size+1,0,none⟩ .nilIface) w.heap.size #[i6 g.pb] 117:=BM.Em (kp.set 0 _) EQ _;have hB2:BM (World.setCell (World.setCell w6 ⟨w.heap.size,0,none⟩ (i6 g.pb)) ⟨w.heap.size+1,0,none⟩ .nilIface) (w.heap.size+1) #[.nilIface] 85:=(ke.Em EQ _).set 0 _;have HPE:=hid fP;have Ps:=hid qm;have HB2:=hid hB2;clear fP FT kp ke qm hB2 hm y9;go_wp2;refine zR Do Do Ps HB2 rfl rfl ?_;rw[hr.out];exact HPE.out
end Go.Proofs.YtpdfifdlhpmofaaGreatDoor
