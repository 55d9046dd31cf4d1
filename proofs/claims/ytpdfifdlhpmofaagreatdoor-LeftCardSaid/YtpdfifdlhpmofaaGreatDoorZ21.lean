/-
  Part 21 of the proof.
-/
import Derived.Test.YtpdfifdlhpmofaaGreatDoorZ20
set_option linter.unusedVariables false
set_option linter.unusedSimpArgs false
set_option maxHeartbeats 3200000
set_option maxRecDepth 100000
namespace Go.Proofs.YtpdfifdlhpmofaaGreatDoor
open Go.RowKit Tryz
open Go.Lib (hid)
theorem maE {p:Prop} (h:p:=by
 rw[hr] at he;obtain⟨rfl,hm⟩:=he;have Hr:=hid hr;have Hm:=hid hm;clear hr hm Cu A8 C6 Bv c0;go_wp2;go_ret;rw[Hr.out];exact⟨rfl,Hm⟩):p:=h
variable {g:RG} {R:RS} {vs:List SG} {c:SG} {ts:List (List Nd)} {l:List Nd} {w W w':World} {lb lc tb tc AW mb:Nat} {mv tv:Value}
theorem EN (l:List Nd):(Bz l).length=l.length*14:=by
 induction l with
 | nil=>rfl
 | cons a r ih=>
  have:(Nd.cells a).length=14:=rfl;simp only[Bz,Qas,V,IR] at ih⊢;omega
theorem Jz (l:List Nd) (i j:Nat) (hi:i < l.length) (hj:j < 14):(Bz l)[i*14+j]?=(Nd.cells (l.getD i (.of 0)))[j]?:=by
 induction l generalizing i with
 | nil=>simp at hi
 | cons a r ih=>
  have Ln:(Nd.cells a).length=14:=rfl;cases i with
  | zero=>
   simp only[Bz,Qas,Nat.zero_mul,Qaw,Qdm];rw[m9 Y]
  | succ i=>
   simp only[Bz,Qas,Qdn];rw[Qag Y,Ln,show(i+1)*14+j - 14=i*14+j by omega];exact ih i (by simpa using hi)
theorem dA (l:List Nd) (i:Nat) (hi:i < l.length) (n:Int):(Bz l).set (i*14+11) (i5 n)=Bz (l.set i {l.getD i (.of 0) with Dg:=n}):=by
 induction l generalizing i with
 | nil=>simp at hi
 | cons a r ih=>
  cases i with
  | zero=>rfl
  | succ i=>
   have Ln:(Nd.cells a).length=14:=rfl;simp only[Bz,Qas,Qdn,Qbl];rw[Qa9 _ _ Y,Ln,show(i+1)*14+11 - 14=i*14+11 by omega];congr 1;exact ih i (by simpa using hi)
theorem Gp (l:List Nd) (x:Nd):Bz l++x.cells=Bz (l++[x]):=by simp[Bz]
theorem SW:(prog.info? 110).map (fun i=>(i.zero,i.size,i.bytes))=some (some (Nd.of 0).val,14,120):=Fd
def RG.ten (g:RG) (R:RS):List Ob:=
 [.Au g.rb #[i6 g.pb,.slice g.s.p R.As.length g.s.c,.slice g.f.p R.first.length g.f.c,.slice g.z.p R.size.length g.z.c,.slice g.l.p R.AA.length g.l.c,.slice g.o.p R.Af.length g.o.c,i5 R.Ah,.bool false,i5 0] 94,
  .Au g.pb #[.slice g.t.p R.p.Aa.length g.t.c,i5 R.p.cells,.slice g.u.p R.p.Ao.length g.u.c,.slice g.q.p R.p.BJ.length g.q.c] 53,
  Kw g.s R.As,Oo g.f R.first,Oo g.z R.size,Kw g.l R.AA,Qw g.o R.Af,
  .row (.slice g.t.p R.p.Aa.length g.t.c) 72 1 R.p.Aa.length (BC g.cv R.p.Aa),
  .row (.slice g.u.p R.p.Ao.length g.u.c) 51 1 R.p.Ao.length (BC g.dv R.p.Ao),
  Cd g.q R.p.BJ]
theorem V9 (hv:g.cv=vs++[c]) (ht:R.p.Aa=ts++[l]) (hl:vs.length=ts.length):
  g.Ar R=(g.ten R++List.zipWith DQ vs ts)++DQ c l::List.zipWith Cd g.dv R.p.Ao:=by
 show g.ten R++(List.zipWith DQ g.cv R.p.Aa++List.zipWith Cd g.dv R.p.Ao)=_;rw[hv,ht,Qb4 hl];simp
theorem xO (g:RG) (R:RS):(g.ten R).length=10:=rfl
theorem Zc (g:RG) (R:RS) {vs:List SG} {ts:List (List Nd)} (hl:vs.length=ts.length):(g.ten R++List.zipWith DQ vs ts).length=ts.length+10:=by
 simp[xO,hl];omega
theorem lu (hv:g.cv=vs++[c]) (ht:R.p.Aa=ts++[l]) (hl:vs.length=ts.length) (a:Ob) (c':SG) (l':List Nd):
  (((g.Ar R).set (ts.length+10) a).set (ts.length+10) (DQ c' l')).set 7 (.row (.slice g.t.p R.p.Aa.length g.t.c) 72 1 R.p.Aa.length (BC (vs++[c']) (ts++[l'])))=RG.Ar {g with cv:=vs++[c']} (R.Be l'):=by
 have e1:(R.Be l').p.Aa=ts++[l']:=Ld ht;have e2:(R.Be l').p.Aa.length=R.p.Aa.length:=by rw[e1,ht];simp
 rw[V9 (g:={g with cv:=vs++[c']}) (R:=R.Be l') rfl e1 hl,V9 hv ht hl];rw[<-Zc g R hl,aO,aO];unfold RG.ten;rw[e2,e1];rfl
theorem No (hv:g.cv=vs++[c]) (ht:R.p.Aa=ts++[l]) (h:Dq g R) (c':SG) (l':List Nd) (o:SG):Dq {g with cv:=vs++[c'],o:=o} (R.Be l'):=by
 have e1:(R.Be l').p.Aa=ts++[l']:=Ld ht;have e2:(R.Be l').p.Aa.length=R.p.Aa.length:=by rw[e1,ht];simp
 refine⟨?_,h.dl,h.ql.trans e2.symm,h.tl.trans e2.symm,h.fl,h.zl,h.ll⟩;rw[e2,<-h.cl,hv];simp
theorem aL {L:List Ob} (h:Az w L) {i j b c:Nat} {e e':TypeId} {s s' n n' m m' cap cap':Nat} {xs ys:List Value} (hi:L[i]?=some (.row (.slice (some ⟨b,0,none⟩) m cap) e s n xs)) (hj:L[j]?=some (.row (.slice (some ⟨c,0,none⟩) m' cap') e' s' n' ys)) (oH:i≠j):b≠c:=fun h'=>by
 have:=h.xq hi hj oH b (by simp[Ob.fp,Value.ownBlock]);exact this (by rw[h'];simp[Ob.fp,Value.ownBlock])
theorem J6 {α:Type} {L:List α} {i:Nat} {o x:α} (h:L[i]?=some o):(L.set i x)[i]?=some x:=by
 rw[List.getElem?_set_self];exact(d9.1 h).1
theorem Tj {w6:World} {m:List Nd} {AZ g6:Nat} (hv:g.cv=vs++[c]) (ht:R.p.Aa=ts++[l]) (hl:vs.length=ts.length) (FA:AW < m.length)
  (hit:(g.Ar R)[ts.length+10]?=some (.row (.slice (some ⟨lb,0,none⟩) l.length lc) 110 14 l.length (Bz l)))
  (PC:Value.slice g.t.p R.p.Aa.length g.t.c= .slice (some ⟨tb,0,none⟩) (ts.length+1) tc)
  (AD:Ak W (g.Ar R) w6 ((g.Ar R).set (ts.length+10) (.row (.slice (some ⟨g6,0,none⟩) m.length AZ) 110 14 m.length (Bz m)))):
  Ak W (g.Ar R) ((w6.setCell ⟨g6,AW*14+11,none⟩ (i5 m.length)).setCell ⟨tb,ts.length,none⟩ (.slice (some ⟨g6,0,none⟩) m.length AZ))
   (RG.Ar {g with cv:=vs++[⟨some ⟨g6,0,none⟩,AZ⟩]} (R.Be (m.set AW {m.getD AW (.of 0) with Dg:=m.length}))):=by
 have t1:=AD.Am.HU (J6 hit) (AW*14+11) (by rw[EN];omega) (i5 m.length);rw[dA _ _ FA] at t1;have h7:∀L:Ob,∀M:Ob,(((g.Ar R).set (ts.length+10) L).set (ts.length+10) M)[7]?=some (.row (.slice (some ⟨tb,0,none⟩) (ts.length+1) tc) 72 1 (ts.length+1) (BC g.cv R.p.Aa)):=fun L M=>by
  exact ma6
 have t2:=t1.Am.HU (h7 _ _) ts.length (by rw[hv,ht,Bx _ _ _ _ hl,V,Cm _ _ hl];simp) (.slice (some ⟨g6,0,none⟩) m.length AZ);have e3:(BC g.cv R.p.Aa).set ts.length (.slice (some ⟨g6,0,none⟩) m.length AZ)=BC (vs++[⟨some ⟨g6,0,none⟩,AZ⟩]) (ts++[m.set AW {m.getD AW (.of 0) with Dg:=m.length}]):=by
  exact mbL
 rw[e3] at t2;have e4:Ob.row (.slice (some ⟨g6,0,none⟩) m.length AZ) 110 14 m.length (Bz (m.set AW {m.getD AW (.of 0) with Dg:=m.length}))=DQ ⟨some ⟨g6,0,none⟩,AZ⟩ (m.set AW {m.getD AW (.of 0) with Dg:=m.length}):=by
  unfold DQ;rw[Qaa]
 rw[e4] at t1 t2;have e5:Ob.row (.slice (some ⟨tb,0,none⟩) (ts.length+1) tc) 72 1 (ts.length+1) (BC (vs++[⟨some ⟨g6,0,none⟩,AZ⟩]) (ts++[m.set AW {m.getD AW (.of 0) with Dg:=m.length}]))=
   .row (.slice g.t.p R.p.Aa.length g.t.c) 72 1 R.p.Aa.length (BC (vs++[⟨some ⟨g6,0,none⟩,AZ⟩]) (ts++[m.set AW {m.getD AW (.of 0) with Dg:=m.length}])):=by
  rw[PC,ht];simp
 rw[e5,lu hv ht hl] at t2;exact AD.trans (t1.trans t2)
theorem ji (hv:g.cv=vs++[c]) (ht:R.p.Aa=ts++[l]) (hl:vs.length=ts.length) (FA:AW < l.length)
  (hit:(g.Ar R)[ts.length+10]?=some (.row (.slice (some ⟨lb,0,none⟩) l.length lc) 110 14 l.length (Bz l)))
  (PC:Value.slice g.t.p R.p.Aa.length g.t.c= .slice (some ⟨tb,0,none⟩) (ts.length+1) tc) (Am:Az W (g.Ar R)):
  Ak W (g.Ar R) ((W.setCell ⟨lb,AW*14+11,none⟩ (i5 l.length)).setCell ⟨tb,ts.length,none⟩ (.slice (some ⟨lb,0,none⟩) l.length lc))
   (RG.Ar {g with cv:=vs++[⟨some ⟨lb,0,none⟩,lc⟩]} (R.Be (l.set AW {l.getD AW (.of 0) with Dg:=l.length}))):=by
 refine Tj (m:=l) hv ht hl FA hit PC ?_;obtain⟨AX,he⟩:=d9.1 hit;rw[<-he,List.set_getElem_self];exact Ak.refl Am
theorem rY (w:World) (g:RG) (R:RS) (n:Nat) (h:Az w (g.Ar R)) (hL:Dq g R) (hI:Mo R n) (hO:Tv R):
  Calls prog 60 #[i6 g.rb] w (FE R.Np g R w):=by
 obtain⟨j0,hj,KW,Fo,K7⟩:=info_parts SW;obtain⟨Cu,A8,C6,Bv,AX,Cq,Bi⟩:=AI h;have AF:R.Np=R.Np:=rfl
 conv at AF=>rhs;unfold RS.Np
 rcases f5 R.Af with h0 | ⟨os,AW,h0⟩
 ·rw[h0] at AF;simp only[List.getLast?_nil] at AF;rw[h0] at Cu;have H:=hid h;have AJ:=hid AF;clear h hL hI hO AF h0 hj KW Fo K7;simp only[m7] at Cu;go_enter func60,ntmps60;go_wp2_with fail;go_ret;rw[AJ.out];exact⟨rfl,Av.refl _ _⟩
 ·rw[m8] at h0;rw[h0] at AF;simp only[Qa3,Qav,Qbm,Qat] at AF;have hT:=hO.ne (by rw[h0];simp);obtain⟨vs,c,ts,l,hv,ht,NG⟩:=L8 hL.cl hT;have FJ:R.CM=l:=DH ht;rw[FJ] at AF;have FA:AW < l.length:=by rw[<-FJ];exact hO.lt AW (by rw[h0];simp)
  have fS:l.length<=100:=by rw[<-FJ];exact hO.nl
  have XC:os.length<=2:=by have:=hO.ol;rw[h0] at this;simp at this;omega
  have oy:ts.length<=2500:=by have:=hI.bn;have:=hI.nn;rw[ht] at*;simp at*;omega
  have UD:=V9 hv ht NG;have AaF:=h.row (i:=6) rfl;obtain⟨ob,oc,xi,_,y7,Afl,AgD,Oy,uC⟩:=AG AaF (by rw[h0];simp);rw[h0,V,d5] at Afl;have eg:w.cell? ⟨ob,os.length,none⟩=some (i5 (AW:Int)):=by
   rw[Oy os.length (by simp[Es,Qv,h0])];simp[Es,Qv,h0]
  have AaE:=h.row (i:=7) rfl;obtain⟨tb,tc,PC,_,yU,_,Agw,Ov,ui⟩:=AG AaE (by rw[ht];simp);have aZ:w.cell? ⟨tb,ts.length,none⟩=some (.slice c.p l.length c.c):=by
   rw[Ov ts.length (by rw[hv,ht,Bx _ _ _ _ NG,V,Cm _ _ NG];simp)];simp only[hv,ht,Bx _ _ _ _ NG];rw[Qcf (by rw[Cm _ _ NG];omega)];simp
  have hit:(g.Ar R)[ts.length+10]?=some (DQ c l):=by rw[UD,<-Zc g R NG];exact O6
  have AaB:=h.row hit;obtain⟨lb,lc,hle,_,za,_,AgP,OA,uJ⟩:=AG AaB Y;have GQ:∀j,j < 14->w.cell? ⟨lb,AW*14+j,none⟩=(Nd.cells (l.getD AW (.of 0)))[j]?:=fun j hj=>by
   have AX:AW*14+j < (Bz l).length:=by rw[EN];omega
   rw[OA _ AX,<-Id,Jz l AW j FA hj]
  rw[xi,h0] at Cu;rw[PC,ht] at A8;rw[hle] at aZ;simp only[V,d5] at Cu A8;generalize hx:l.getD AW (.of 0)=x at*;have Gu:w.cell? ⟨lb,AW*14,none⟩=some (.int .u8 x.kind):=GQ 0 Y;have AdQ:w.cell? ⟨lb,AW*14+13,none⟩=some (i5 x.Aj):=GQ 13 Y;have uS:(g.Ar R)[ts.length+10]?=some (.row (.slice (some ⟨lb,0,none⟩) l.length lc) 110 14 l.length (Bz l)):=by rw[hit];unfold DQ;rw[hle]
  have h6r:(g.Ar R)[6]?=some (.row (.slice (some ⟨ob,0,none⟩) (os.length+1) oc) 3 1 (os.length+1) (Es (Qv R.Af))):=by
   show some (Qw g.o R.Af)=_;unfold Qw;rw[xi,h0];simp
  have h7r:(g.Ar R)[7]?=some (.row (.slice (some ⟨tb,0,none⟩) (ts.length+1) tc) 72 1 (ts.length+1) (BC g.cv R.p.Aa)):=by
   exact ma6
  have n1:g.rb≠lb:=HY h (i:=0) rfl uS Y;have n2:g.rb≠tb:=HY h (i:=0) rfl h7r Y;have n3:g.pb≠lb:=HY h (i:=1) rfl uS Y;have n4:lb≠tb:=fun e=>by
   have:=h.xq uS h7r Y lb (by simp[Ob.fp,Value.ownBlock]);exact this (by rw[e];simp[Ob.fp,Value.ownBlock])
  have Af8:=hid uS;have H6r:=hid h6r;have H7r:=hid h7r;clear uS h6r h7r;have H:=hid h;have HL:=hid hL;have AJ:=hid AF;have H0:=hid h0;have Hv:=hid hv;have Ht:=hid ht;have jP:=hid NG;have Hoe:=hid xi;have Yh:=hid PC;have Hle:=hid hle;have Hit:=hid hit;have Hx:=hid hx;have Pr:=hid GQ;clear h hL hI hO AF h0 hv ht xi PC hle hit UD AaF AaE AaB Oy Ov OA hT FJ hx GQ;have ja:(0:Int)<=(AW:Int):=Qa2 _;have Ag2:(AW:Int) < (l.length:Int):=Y
  have ho0:(0:Int)<=(os.length:Int):=Qa2 _;have SY:(os.length:Int)<=(oc:Int):=Y
  have RR:(os.length:Int) < ((os.length:Int)+1):=Y
  have kL:(ts.length:Int) < ((ts.length:Int)+1):=Y
  go_enter func60,ntmps60;go_upto_region 9 with fail
  have S:Hid (Ak w (g.Ar R) (w.setCell ⟨g.rb,5,none⟩ (.slice (some ⟨ob,0,none⟩) os.length oc)) (RG.Ar {g with o:=⟨some ⟨ob,0,none⟩,oc⟩} {R with Af:=os})):=by
   refine hid ?_;have t1:=H.set (i:=0) rfl 5 (.slice (some ⟨ob,0,none⟩) os.length oc);have t2:=t1.Am.take (i:=6) H6r os.length Y;have e:(Es (Qv R.Af)).take (os.length*1)=Es (Qv os):=by rw[H0.out];simp[Es,Qv]
   rw[e] at t2;exact t1.trans t2
  have Htp:=hid (show Value.slice g.t.p R.p.Aa.length g.t.c= .slice (some ⟨tb,0,none⟩) (ts.length+1) tc by rw[Yh.out,Ht.out];simp);have ZR:=hid (show ts.length < (BC g.cv R.p.Aa).length by rw[Hv.out,Ht.out,Bx _ _ _ _ jP.out,V,Cm _ _ jP.out];simp);have Si:Hid ((RG.Ar {g with o:=⟨some ⟨ob,0,none⟩,oc⟩} {R with Af:=os})[ts.length+10]?=some (.row (.slice (some ⟨lb,0,none⟩) l.length lc) 110 14 l.length (Bz l))):=hid Af8.out;by_cases k40:x.kind=40
  ·have hk:((x.kind:Int)==40)=true:=by rw[k40];rfl
   have K:=hid k40;clear k40;go_upto_region 13 with(first | (at_builtin;refine Jb 120 _ _ _ j0 _ #[.int .u8 41,i5 0,.string ⟨#[]⟩,.bool false,i5 0,.bool false,i5 0,.bool false,i5 0,i5 0,i5 0,i5 0,i5 0,i5 0] _ w.heap.size EQ S.Am (k:=ts.length+10) Si Do Do underlying72 hj KW Fo K7 rfl Y Do Do rfl (by simp[Value.oneCell']) (by unfold maxLen;omega) Y ?_;intro g6 AZ w6 AD _))
   rw[show Bz l++(#[.int .u8 41,i5 0,.string ⟨#[]⟩,.bool false,i5 0,.bool false,i5 0,.bool false,i5 0,i5 0,i5 0,i5 0,i5 0,i5 0]:Array Value).toList=Bz (l++[Nd.of 41]) from Gp l (Nd.of 41)] at AD;obtain⟨qc,qf,ql⟩:=Bm (AD.Am.row (J6 Si));have qv:∃v,w6.cell? ⟨g6,AW*14+11,none⟩=some v:=⟨_,qc _ (by rw[EN];simp;omega)⟩;obtain⟨qv,qv1⟩:=qv;replace qf:=qf (AW*14+11);have r0:=(AD.Am.Au (i:=0) rfl).cell 0;have r1:=(AD.Am.Au (i:=1) rfl).cell 0;obtain⟨tcl,tf,tl⟩:=Bm (AD.Am.row (i:=7) H7r);have tv:∃v,w6.cell? ⟨tb,ts.length,none⟩=some v:=⟨_,tcl ts.length ZR⟩;obtain⟨tv,tv1⟩:=tv;replace tf:=tf ts.length;have m1:=HY AD.Am (i:=0) (j:=ts.length+10) rfl (J6 Si) Y;have m2:=HY AD.Am (i:=1) (j:=ts.length+10) rfl (J6 Si) Y;have m3:g6≠tb:=aL AD.Am (i:=ts.length+10) (j:=7) (J6 Si) H7r Y;rw[Htp.out] at r1;have rl0:=(AD.Am.Au (i:=0) rfl).lt;have rl1:=(AD.Am.Au (i:=1) rfl).lt;have KT:=hid AD;clear AD qc tcl Cu A8 C6 Bv AX Cq Bi eg aZ Gu AdQ n1 n2 n3 n4 y7 yU za uC ui uJ;go_wp2;go_ret;have hlen:(l++[Nd.of 41]).length=l.length+1:=EQ
   have AfC:(l++[Nd.of 41]).getD AW (.of 0)=x:=by rw[<-Hx.out];simp[GE,m9 FA]
   have AD:=KT.out;rw[<-hlen] at AD;have hm:=Tj (g:={g with o:=⟨some ⟨ob,0,none⟩,oc⟩}) (R:={R with Af:=os}) (m:=l++[Nd.of 41]) (AW:=AW) (c:=c) Hv Ht jP (by simp;omega) Si Htp AD;have hr:R.Np= .ok (RS.Be {R with Af:=os} ((l++[Nd.of 41]).set AW {(l++[Nd.of 41]).getD AW (.of 0) with Dg:=((l++[Nd.of 41]).length:Int)})):=by rw[AJ.out];simp[K.out]
   rw[hr];refine⟨rfl,{g with cv:=vs++[⟨some ⟨g6,0,none⟩,AZ⟩],o:=⟨some ⟨ob,0,none⟩,oc⟩},rfl,No (R:={R with Af:=os}) Hv Ht ⟨HL.cl,HL.dl,HL.ql,HL.tl,HL.fl,HL.zl,HL.ll⟩ _ _ _,?_⟩;have hq:=S.trans hm;rw[hlen] at hq⊢;exact hq
  ·have hk:((x.kind:Int)==40)=false:=by rw[NE];omega
   by_cases k108:x.kind=108
   ·have Ss:((x.kind:Int)==108)=true:=by rw[k108];rfl
    have K:=hid k108;clear k108 k40;have kJ:IntKind.i64.wrap ((AW:Int)+1)=(AW:Int)+1:=IntWalk.i64_in _ Y;go_upto_region 13 with(first | (at_builtin;refine Jb 120 _ _ _ j0 _ #[.int .u8 98,i5 0,.string ⟨#[]⟩,.bool false,i5 0,.bool false,i5 0,.bool false,i5 0,i5 0,i5 0,i5 ((AW:Int)+1),i5 0,i5 x.Aj] _ w.heap.size EQ S.Am (k:=ts.length+10) Si Do Do underlying72 hj KW Fo K7 rfl Y Do Do rfl (by simp[Value.oneCell']) (by unfold maxLen;omega) Y ?_;intro g6 AZ w6 AD _))
    rw[show Bz l++(#[.int .u8 98,i5 0,.string ⟨#[]⟩,.bool false,i5 0,.bool false,i5 0,.bool false,i5 0,i5 0,i5 0,i5 ((AW:Int)+1),i5 0,i5 x.Aj]:Array Value).toList=Bz (l++[({Nd.of 98 with Dg:=(AW:Int)+1,Aj:=x.Aj}:Nd)]) from Gp l ({Nd.of 98 with Dg:=(AW:Int)+1,Aj:=x.Aj}:Nd)] at AD;obtain⟨qc,qf,ql⟩:=Bm (AD.Am.row (J6 Si));have qv:∃v,w6.cell? ⟨g6,AW*14+11,none⟩=some v:=⟨_,qc _ (by rw[EN];simp;omega)⟩;obtain⟨qv,qv1⟩:=qv;replace qf:=qf (AW*14+11);have r0:=(AD.Am.Au (i:=0) rfl).cell 0;have r1:=(AD.Am.Au (i:=1) rfl).cell 0;obtain⟨tcl,tf,tl⟩:=Bm (AD.Am.row (i:=7) H7r);have tv:∃v,w6.cell? ⟨tb,ts.length,none⟩=some v:=⟨_,tcl ts.length ZR⟩;obtain⟨tv,tv1⟩:=tv;replace tf:=tf ts.length;have m1:=HY AD.Am (i:=0) (j:=ts.length+10) rfl (J6 Si) Y;have m2:=HY AD.Am (i:=1) (j:=ts.length+10) rfl (J6 Si) Y;have m3:g6≠tb:=aL AD.Am (i:=ts.length+10) (j:=7) (J6 Si) H7r Y;rw[Htp.out] at r1;have rl0:=(AD.Am.Au (i:=0) rfl).lt;have rl1:=(AD.Am.Au (i:=1) rfl).lt;have KT:=hid AD;clear AD qc tcl Cu A8 C6 Bv AX Cq Bi eg aZ Gu AdQ n1 n2 n3 n4 y7 yU za uC ui uJ;go_wp2;go_ret;have hlen:(l++[({Nd.of 98 with Dg:=(AW:Int)+1,Aj:=x.Aj}:Nd)]).length=l.length+1:=EQ
    have AfC:(l++[({Nd.of 98 with Dg:=(AW:Int)+1,Aj:=x.Aj}:Nd)]).getD AW (.of 0)=x:=by rw[<-Hx.out];simp[GE,m9 FA]
    have AD:=KT.out;rw[<-hlen] at AD;have hm:=Tj (g:={g with o:=⟨some ⟨ob,0,none⟩,oc⟩}) (R:={R with Af:=os}) (m:=l++[({Nd.of 98 with Dg:=(AW:Int)+1,Aj:=x.Aj}:Nd)]) (AW:=AW) (c:=c) Hv Ht jP (by simp;omega) Si Htp AD;have hr:R.Np= .ok (RS.Be {R with Af:=os} ((l++[({Nd.of 98 with Dg:=(AW:Int)+1,Aj:=x.Aj}:Nd)]).set AW {(l++[({Nd.of 98 with Dg:=(AW:Int)+1,Aj:=x.Aj}:Nd)]).getD AW (.of 0) with Dg:=((l++[({Nd.of 98 with Dg:=(AW:Int)+1,Aj:=x.Aj}:Nd)]).length:Int)})):=by rw[AJ.out];simp[K.out,Hx.out]
    rw[hr];refine⟨rfl,{g with cv:=vs++[⟨some ⟨g6,0,none⟩,AZ⟩],o:=⟨some ⟨ob,0,none⟩,oc⟩},rfl,No (R:={R with Af:=os}) Hv Ht ⟨HL.cl,HL.dl,HL.ql,HL.tl,HL.fl,HL.zl,HL.ll⟩ _ _ _,?_⟩;have hq:=S.trans hm;rw[hlen] at hq⊢;exact hq
   ·have Ss:((x.kind:Int)==108)=false:=by rw[NE];omega
    have K:=hid k108;have K4:=hid k40;clear k108 k40;go_upto_region 13 with fail
    obtain⟨qc,qf,ql⟩:=Bm (S.Am.row Si);have qv:∃v,(w.setCell ⟨g.rb,5,none⟩ (.slice (some ⟨ob,0,none⟩) os.length oc)).cell? ⟨lb,AW*14+11,none⟩=some v:=⟨_,qc _ (by rw[EN];omega)⟩;obtain⟨qv,qv1⟩:=qv;have AdR:∃v,w.cell? ⟨lb,AW*14+11,none⟩=some v:=⟨_,Pr 11 Y⟩;obtain⟨v11,AdR⟩:=AdR;clear qc qf ql qv1;go_wp2;go_ret;have hm:=ji (g:={g with o:=⟨some ⟨ob,0,none⟩,oc⟩}) (R:={R with Af:=os}) (AW:=AW) (c:=c) Hv Ht jP FA Si Htp S.Am;have hr:R.Np= .ok (RS.Be {R with Af:=os} (l.set AW {l.getD AW (.of 0) with Dg:=(l.length:Int)})):=by rw[AJ.out];simp only[K.out,K4.out,y4,Hx.out]
    rw[hr];exact⟨rfl,{g with cv:=vs++[⟨some ⟨lb,0,none⟩,lc⟩],o:=⟨some ⟨ob,0,none⟩,oc⟩},rfl,No (R:={R with Af:=os}) Hv Ht ⟨HL.cl,HL.dl,HL.ql,HL.tl,HL.fl,HL.zl,HL.ll⟩ _ _ _,S.trans hm⟩
theorem rA {l:Ws} (hl:Br l=true) (Bi:l≠[]) (hk:bs (wd l 0)=AK):l.length=2\/(l.length=3/\Fx (bs (wd l 2)) 6=true):=by
 exact ma9
theorem cW (l:Ws) (lw:Value) (w:World) (g:RG) (R:RS) (n:Nat) (h:Az w (g.Ar R)) (hL:Dq g R) (hI:Mo R n)
  (hw:Sl w (fun b=>b∉D4 (g.Ar R)) lw (A3 l)) (hs:∀a,a∈l->a.size<=maxLen) (Bi:l≠[]) (NH:Br l=true) (hk:bs (wd l 0)=AK):
  Calls prog 37 #[i6 g.rb,lw] w (FE (R.row l) g R w):=by
 have hl:=rA NH Bi hk;have AF:R.row l=R.D6 l:=by unfold RS.row;simp[hk]
 obtain⟨wb,woff,wcap,rfl,hd⟩:=Fz hw Y;have IT:=gH l _ w g R n h hL hI hw hs hl;have c0:=hd.c 0 Y;simp only[Qaj] at c0;have q0:=BO hk;unfold AK at q0;have Mu:(0:Int) < (l.length:Int):=Y
 obtain⟨Cu,A8,C6,Bv,AX,Cq,oC⟩:=AI h;have oy:R.p.Aa.length<=2500:=by have:=hI.bn;have:=hI.nn;omega
 have Gu:=hd.n0;have K8:=hd.n1;have Fb:=hd.lt;unfold maxLen at K8;have Hsh:=hid IT;have AJ:=hid AF;clear IT AF hw hl hk NH hd h hL hI hs Bi;go_enter func37,ntmps37;go_wp2_with fail;refine Hsh.mono ?_;intro e w' he;rw[<-AJ.out] at he;unfold FE at he;cases hr:R.row l with
 | error c=>
  exact maE
 | ok R'=>
  exact maE
theorem rK (l:Ws) (lw:Value) (w:World) (g:RG) (R:RS) (n:Nat) (h:Az w (g.Ar R)) (hL:Dq g R) (hI:Mo R n) (hO:Tv R)
  (hw:Sl w (fun b=>b∉D4 (g.Ar R)) lw (A3 l)) (Bi:l≠[]) (hk:bs (wd l 0)=Ey):
  Calls prog 37 #[i6 g.rb,lw] w (FE (R.row l) g R w):=by
 have hl:0 < l.length:=Qae.2 Bi;have AF:R.row l=R.Np:=by
  unfold RS.row;simp only[hk];rw[I AC,I AC,In trivial]
 obtain⟨wb,woff,wcap,rfl,hd⟩:=Fz hw hl;have IT:=rY w g R n h hL hI hO;have c0:=hd.c 0 Y;simp only[Qaj] at c0;have q0:=BO hk;unfold Ey at q0;have q1:=An (x:=wd l 0) (k:=AK) (by rw[hk];decide);have q2:=An (x:=wd l 0) (k:=AE) (by rw[hk];decide);unfold AK at q1;unfold AE at q2;have Mu:(0:Int) < (l.length:Int):=Y
 obtain⟨Cu,A8,C6,Bv,AX,Cq,oC⟩:=AI h;have oy:R.p.Aa.length<=2500:=by have:=hI.bn;have:=hI.nn;omega
 have Gu:=hd.n0;have K8:=hd.n1;have Fb:=hd.lt;unfold maxLen at K8;have Hsh:=hid IT;have AJ:=hid AF;clear IT AF hw hl hk hd h hL hI hO Bi;go_enter func37,ntmps37;go_wp2_with fail;refine Hsh.mono ?_;intro e w' he;rw[<-AJ.out] at he;unfold FE at he;cases hr:R.row l with
 | error c=>
  exact maE
 | ok R'=>
  exact maE
theorem ak (l:Ws) (lw:Value) (w:World) (g:RG) (R:RS) (n:Nat) (h:Az w (g.Ar R)) (hI:Mo R n) (hO:Tv R)
  (hw:Sl w (fun b=>b∉D4 (g.Ar R)) lw (A3 l)) (Bi:l≠[]) (hk:bs (wd l 0)=AE) (ho:R.Af≠[]):
  Calls prog 37 #[i6 g.rb,lw] w (FE (R.row l) g R w):=by
 have hl:0 < l.length:=Qae.2 Bi;have AF:R.row l= .error 3:=by
  unfold RS.row;simp only[hk];rw[I AC,In trivial,In ho]
 obtain⟨wb,woff,wcap,rfl,hd⟩:=Fz hw hl;have c0:=hd.c 0 Y;simp only[Qaj] at c0;have q0:=BO hk;unfold AE at q0;have q1:=An (x:=wd l 0) (k:=AK) (by rw[hk];decide);unfold AK at q1;have Mu:(0:Int) < (l.length:Int):=Y
 have ho0:(0:Int) < (R.Af.length:Int):=by have:=Qae.2 ho;omega
 obtain⟨Cu,A8,C6,Bv,AX,Cq,oC⟩:=AI h;have oy:R.p.Aa.length<=2500:=by have:=hI.bn;have:=hI.nn;omega
 have Gu:=hd.n0;have K8:=hd.n1;have Fb:=hd.lt;unfold maxLen at K8;have AJ:=hid AF;clear AF hw hl hk hd h hI hO Bi ho;go_enter func37,ntmps37;go_wp2_with fail;go_ret;rw[AJ.out];exact⟨rfl,Av.refl _ _⟩
structure C9 where
 Ab:List Bj
 pc:Nat
 DA:List Int
 waits:List (Int×Int)
 out:List Int
 BG:Int
variable {t:C9}
structure Al where
 mem:List Int
 ts:List C9
variable {M:Al}
def Fy (l:List Int):List Value:=l.map (Value.int .i64)
def Gy (l:List Bj):List Value:=l.flatMap fun i=>i.cells.toList
def CW (l:List (Int×Int)):List Value:=l.flatMap fun p=>[i5 p.1,i5 p.2]
structure TV where
 tb:Nat
 cv:Value
 rv:Value
 wv:Value
 ov:Value
variable {x:TV} {xs:List TV}
def TV.fp (x:TV):List Nat:=x.tb::(x.cv.ownBlock.toList++(x.rv.ownBlock.toList++(x.wv.ownBlock.toList++x.ov.ownBlock.toList)))
def TV.ptr (x:TV):Value:= i6 x.tb
def NN (w:World) (x:TV) (t:C9):Prop:=
 BM w x.tb #[x.cv,i5 t.pc,x.rv,x.wv,x.ov,i5 t.BG] 68/\w.ownsRow 0 101 9 x.cv t.Ab.length (Gy t.Ab)/\
 w.ownsRow 0 2 1 x.rv t.DA.length (Fy t.DA)/\w.ownsRow 0 83 2 x.wv t.waits.length (CW t.waits)/\w.ownsRow 0 2 1 x.ov t.out.length (Fy t.out)
def BD (mb:Nat) (mv tv:Value) (xs:List TV):List Nat:=mb::(mv.ownBlock.toList++(tv.ownBlock.toList++xs.flatMap TV.fp))
def Ex (w:World) (mb:Nat) (mv tv:Value) (xs:List TV) (M:Al):Prop:=
 BM w mb #[mv,tv] 34/\w.ownsRow 0 2 1 mv M.mem.length (Fy M.mem)/\w.ownsRow 0 69 1 tv xs.length (xs.map TV.ptr)/\
 xs.length=M.ts.length/\(∀p,p∈xs.zip M.ts->NN w p.1 p.2)/\(BD mb mv tv xs).Nodup
theorem Gn {v:Value} {g:Nat} (h:v.ownBlock=some g):g∈v.ownBlock.toList:=by rw[h];simp
theorem NN.Bf {M:List Nat} (h:NN w x t) (k:Av M w w') (hd:∀b,b∈x.fp->b∉M):NN w' x t:=by
 obtain⟨h1,h2,h3,h4,h5⟩:=h;refine⟨h1.Bf k (hd _ (by simp[TV.fp])),Ce h2 k fun g hg=>hd g (by simp[TV.fp,hg]),Ce h3 k fun g hg=>hd g (by simp[TV.fp,hg]),Ce h4 k fun g hg=>hd g (by simp[TV.fp,hg]),Ce h5 k fun g hg=>hd g (by simp[TV.fp,hg])⟩
theorem NN.lt (h:NN w x t):∀b,b∈x.fp->b < w.heap.size:=by
 obtain⟨h1,h2,h3,h4,h5⟩:=h;intro b hb;simp only[TV.fp,Pi,Nm,Qci] at hb;rcases hb with rfl | hb | hb | hb | hb
 ·exact h1.lt
 ·exact(DD h2 hb).2
 ·exact(DD h3 hb).2
 ·exact(DD h4 hb).2
 ·exact(DD h5 hb).2
theorem qB {α β:Type} {xs:List α} {ys:List β} (h:xs.length=ys.length) {x:α} (hx:x∈xs):∃y,(x,y)∈xs.zip ys:=by
 obtain⟨i,hi,rfl⟩:=List.getElem_of_mem hx;exact⟨ys[i],by rw[<-List.getElem_zip (i:=i) (h:=by rw[List.length_zip];omega)];exact Qab _⟩
theorem Ex.lt (h:Ex w mb mv tv xs M):∀b,b∈BD mb mv tv xs->b < w.heap.size:=by
 obtain⟨h1,h2,h3,h4,h5,h6⟩:=h;intro b hb;simp only[BD,Pi,Nm,Qci,Qay] at hb;rcases hb with rfl | hb | hb | ⟨x,hx,hb⟩
 ·exact h1.lt
 ·exact(DD h2 hb).2
 ·exact(DD h3 hb).2
 ·obtain⟨y,hy⟩:=qB h4 hx;exact(h5 _ hy).lt b hb
theorem Ex.Bf {F:List Nat} (h:Ex w mb mv tv xs M) (k:Av F w w') (hd:∀b,b∈BD mb mv tv xs->b∉F):Ex w' mb mv tv xs M:=by
 obtain⟨h1,h2,h3,h4,h5,h6⟩:=h;refine⟨h1.Bf k (hd _ (by simp[BD])),Ce h2 k fun g hg=>hd g (by simp[BD,hg]),Ce h3 k fun g hg=>hd g (by simp[BD,hg]),h4,fun p hp=>(h5 p hp).Bf k fun b hb=>hd b ?_,h6⟩;have:p.1∈xs:=(List.of_mem_zip (a:=p.1) (b:=p.2) hp).1;simp only[BD,Pi,Nm,Qay];exact .inr (.inr (.inr ⟨p.1,this,hb⟩))
theorem tW:(prog.info? 101).map (fun i=>(i.zero,i.size,i.bytes))=some (some (Bj.of ⟨#[]⟩).val,9,80):=Fd
theorem tS:(prog.info? 69).map (fun i=>(i.zero,i.size,i.bytes))=some (some (.pointer none),1,8):=Fd
theorem tX:(prog.info? 2).map (fun i=>(i.zero,i.size,i.bytes))=some (some (i5 0),1,8):=Fd
end Go.Proofs.YtpdfifdlhpmofaaGreatDoor
