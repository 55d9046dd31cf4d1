/- Part 14 of the proof. -/
import Derived.Test.YtpdfifdlhpmofaaGreatDoorA12
import Derived.Test.YtpdfifdlhpmofaaGreatDoorA13
import Derived.Test.YtpdfifdlhpmofaaGreatDoorA07
set_option linter.unusedVariables false
set_option linter.unusedSimpArgs false
set_option maxHeartbeats 0
set_option maxRecDepth 99999
namespace Go.Proofs.YtpdfifdlhpmofaaGreatDoor
open Go.RowKit Tryz
open Value renaming slice->qD,string->qE,bool->qF,tuple->qG,agg->qH,pointer->qI
open Ending renaming returned->qJ
open Obj renaming cells->qK
open Option renaming none->Z,some->U
open Bool renaming true->V,false->I
open Go.Lib renaming hid->D
open List renaming length->J
variable {p:Prop}
theorem maq (h:p:=by
 refine⟨n+1,ob,oc,ib,ic,m+1,?_,Cy,?_,?_,?_,?_,rfl,rfl,⟨?_,?_,?_⟩⟩
 .rfl
 .rw[hk]
 .rw[hk]
 .rw[hk]
 .rw[hk]
 .rw[hk];simp[Hos.out]
 .rw[hk];simp[vC.out]
 .rw[hk];exact S.out):p:=h
theorem maA (h:p:=by
 go_wp2_with fail;go_roundw;case rel=>
  refine⟨n+1,by (try rw[Xx trivial]);rfl,Y,?_⟩;rw[X7.out];exact ST5.trans (ST5.Ak.set (i:=0) rfl 7 (qF V))
 case measure=>(try rw[Xx trivial]);simp[intOf];omega):p:=h
theorem ma0 (h:p:=by
 refine⟨n+1,ob6,oc6,ib8,ic8,m+1+1,?_,Cy,?_,?_,?_,?_,rfl,rfl,⟨?_,?_,?_⟩⟩
 .rfl
 .rw[hk]
 .rw[hk]
 .rw[hk]
 .rw[hk]
 .rw[hk];simp[Hos.out]
 .rw[hk];simp[vC.out]
 .rw[hk];exact s8):p:=h
theorem ma5 (h:p:=by
 exact⟨a1,by show c.blocks<=_;omega,a3,by show c.Al<=_;omega,a5,by show c.Cd<=_;omega⟩):p:=h
theorem ma6 (h:p:=by
 go_wp2;go_ret3;rw[HQ4.out];exact⟨rfl,NQ.Aj (ST.mod.mono λx hx=>by simp[Er] at hx)⟩):p:=h
theorem mbe (h:p:=by
 have Hq:=D (show qF (decide (0<k))= qF br by rw[HBR.out];simp[GZ,hpl]);clear GZ ou hpl r0 h0;go_wp2
 go_meet
 exact⟨rfl,Hq⟩):p:=h
theorem mbr (h:p:=by
 clear MT;go_wp2;go_ret3;rw[hr.out];exact⟨rfl,NQ.Aj HI6.mod⟩):p:=h
theorem mbF (h:p:=by
 split at h
 .cases h;decide
 .cases h):p:=h
variable {n k:Nat} {c:Ez} {x:Nd} {z:Int} {w0 wr W:World} {s:By} {g:RG} {R:RS}
theorem ve {w:World} {L:List Ob} {b:Nat} {c:Array Value} {T:TypeId} (hc:c.size=n) (hn:n<=maxLen) (h1:∀u,u∈c.toList->u.oneCell'=V) (h:Aq w (L++[.Ao b c T])):
  Af w (L++[.Ao b c T]) w (L++[.row (qD (U ⟨b,0,Z⟩) n n) T 1 n c.toList]):=by
 exact maw
def Fj (l:List Nd) (n:Nat):Ez:=(l.take n).foldl Ez.step .Dq
def Vu (b m c:Nat) (xs:List Int):Ob:=.row (qD (U ⟨b,0,Z⟩) m c) 3 1 m (EG xs)
structure AnO (w:World) (l:List Nd) (n ob oc ib ic m:Nat) (wr:World):Prop where
 ol:(Fj l n).CV.length=m
 il:(Fj l n).BY.length=m
 st:Af w [] wr [Vu ob m oc (Fj l n).CV,Vu ib m ic (Fj l n).BY]
theorem sI (l:List Nd) (k:Nat) (hk:k<J l):Fj l (k+1)=(Fj l k).step l[k]:=by
 unfold Fj;exact mbv
theorem Z5 (w:World) (o:Obj):(w.alloc o).heap.size=w.heap.size+1:=by show(w.heap.push o).size=_;simp
theorem kN (h:x.kind=108):c.step x={c with CV:=c.CV++[(c.CV.getLast?).getD 0*x.n],BY:=c.BY++[if c.Fh then (c.BY.getLast?).getD 0*x.n else 1]}:=by simp[Ez.step,h]
theorem Aeu (h:x.kind=98):c.step x={c with CV:=c.CV.dropLast,BY:=c.BY.dropLast}:=by simp[Ez.step,h]
theorem Aew (h:x.kind=40):c.step x={c with blocks:=c.blocks+(c.CV.getLast?).getD 0,Al:=0,Fh:=V,BY:=c.BY.dropLast++[1]}:=by simp[Ez.step,h]
theorem Aev (h:x.kind=41):c.step x={c with Fh:=I}:=by simp[Ez.step,h]
theorem YT (h:x.kind=111):c.step x=if c.Fh then {c with Al:=c.Al+(c.BY.getLast?).getD 0,Cd:=if c.Cd<c.Al+(c.BY.getLast?).getD 0 then c.Al+(c.BY.getLast?).getD 0 else c.Cd} else c:=by simp[Ez.step,h]
theorem Aet (h1:¬x.kind=108) (h2:¬x.kind=98) (h3:¬x.kind=40) (h4:¬x.kind=41) (h5:¬x.kind=111):c.step x=c:=by simp[Ez.step,h1,h2,h3,h4,h5]
theorem kf (h:¬k=n) (hz:z=n):((k:Int)==z)=I:=by subst hz;rw[Jh];omega
theorem kt (h:k=n) (hz:z=n):((k:Int)==z)=V:=by subst hz;subst h;simp
theorem Vm {L:Nat} (h:n<L):L-(intOf (iI ((n:Int)+1))).toNat<L-(intOf (iI (n:Int))).toNat:=by simp[intOf];omega
theorem pW {a b:Int} (h0:0<=a) (h1:a<=64) (k0:1<=b) (k1:b<=4): -9223372036854775808<=a*b/\a*b<=9223372036854775807:=by
 have h2:0<=a*b:=jU h0 Y;have h3:=i9 h1 k1 Y Y;omega
def Ajl (l:List Nd) (w:World) (e:Ending) (w':World):Prop:=e= qJ (qG #[iI (Ik l).1,iI (Ik l).2])/\Aw [] w w'
theorem tN {α:Type} {l:List α} (h:J l=n+1):∃a b,l=a++[b]/\J a=n:=by
 rcases Jw l with h0|⟨a,b,h0⟩
 .rw[h0] at h;simp at h
 .rw[Jz] at h0;subst h0;exact⟨a,b,rfl,by simpa using h⟩
theorem XU (l:List Nd) (k:Nat) (hk:k<J l) (c:Ez):(l.take (k+1)).foldl Ez.step c=((l.take k).foldl Ez.step c).step l[k]:=by
 exact mbv
structure AlZ (c:Ez) (k:Nat):Prop where
 b0:0<=c.blocks
 b1:c.blocks<=64*k
 o0:0<=c.Al
 o1:c.Al<=64*k
 m0:0<=c.Cd
 m1:c.Cd<=64*k
theorem ZJ {l:List Int} (hl:1<=J l) (h:∀x,x∈l->0<=x/\x<=64):0<=(l.getLast?).getD 0/\(l.getLast?).getD 0<=64:=by
 rcases Jw l with h0|⟨a,b,h0⟩
 .rw[h0] at hl;simp at hl
 .rw[h0,Jz];simp only[Qm,Pi,QP,Qq];exact h b (by rw[h0];simp)
theorem Ang {l:List Nd} (h:Mz .Dq l) (k:Nat) (hk:k<=J l):AlZ ((l.take k).foldl Ez.step .Dq) k:=by
 induction k with
 |zero=>exact⟨by simp[Ez.Dq],by simp[Ez.Dq],by simp[Ez.Dq],by simp[Ez.Dq],by simp[Ez.Dq],by simp[Ez.Dq]⟩
 |succ k ih=>
  have hc:=P6 h k;have ih:=ih Y;rw[XU l k Y];generalize (l.take k).foldl Ez.step .Dq=c at*;obtain⟨a1,a2,a3,a4,a5,a6⟩:=ih;have h1:=ZJ hc.l1 hc.ob;have h2:=ZJ (by rw[<-hc.ll];exact hc.l1) hc.ib;unfold Ez.step;simp only[];split
  .exact ma5
  .split
   .exact ma5
   .split
    .refine⟨?_,?_,?_,?_,a5,?_⟩<;>simp only[]<;>omega
    .split
     .exact ma5
     .split
      .split
       .refine⟨a1,?_,?_,?_,?_,?_⟩<;>simp only[]<;>first|omega|(split<;>omega)
       .exact⟨a1,Y,a3,Y,a5,Y⟩
      .exact⟨a1,Y,a3,Y,a5,Y⟩
theorem nz (l:List Nd) (v:Value) (w:World) (h:w.ownsRow 0 110 14 v (J l) (Bk l)) (hP:Mz .Dq l) (hn:J l<=1000):
  Calls prog 38 #[v] w (Ajl l w):=by
 obtain⟨j0,hj,LP,KZ,MH⟩:=info_parts Rl;have AkQ:∃p cap,v= qD p (J l) cap:=by
  obtain⟨_,⟨rfl,h0⟩|⟨g,cap,IZ,rfl,_⟩⟩:=h
  .rw[h0];exact⟨Z,0,rfl⟩
  .exact⟨_,_,rfl⟩
 obtain⟨p,cap,rfl⟩:=AkQ;have H:=D h;have HP:=D hP;clear h hP;go_enter func38,ntmps38;go_wp2;have a1:=Af.new (Aq.nil w) (qK #[iI 1] 3);have a2:=a1.trans (ve (n:=1) rfl (by unfold maxLen;omega) (by simp[Value.oneCell']) a1.Ak);have a3:=a2.trans (Af.new a2.Ak (qK #[iI 1] 3));have a4:=a3.trans (ve (L:=[_]) (n:=1) rfl (by unfold maxLen;omega) (by simp[Value.oneCell']) a3.Ak);have S:=D a4;clear a1 a2 a3 a4;go_loopw [4,5,6,7,8,9,10] (λa b c o i z k wr=>∃n ob oc ib ic m:Nat,k= iI n/\n<=J l/\a= iI (Fj l n).blocks/\b= iI (Fj l n).Al/\c= iI (Fj l n).Cd/\z= qF (Fj l n).Fh/\o= qD (U ⟨ob,0,Z⟩) m oc/\i= qD (U ⟨ib,0,Z⟩) m ic/\AnO w l n ob oc ib ic m wr) (λ_ _ _ _ _ _ k _=>J l-(intOf k).toNat);case atStart=>exact⟨0,_,_,_,_,1,rfl,Jo _,rfl,rfl,rfl,rfl,rfl,rfl,⟨rfl,rfl,by have s:=S.out;rw[Z5] at s;exact s⟩⟩
 case round=>
  clear S;obtain⟨n,ob,oc,ib,ic,m,rfl,hnl,rfl,rfl,rfl,rfl,rfl,rfl,hI⟩:=hrel;by_cases hlt:(n:Int)<(J l:Int)
  .have Cy:n<J l:=Y
   have hb:CB (Fj l n):=P6 HP n;have Ac3:AlZ (Fj l n) n:=Ang HP n hnl;have rP:=sI l n Cy;have VZ:CB (Fj l (n+1)):=P6 HP (n+1);have hn4:=Abv HP n Cy;obtain⟨Wv,hil,Ay⟩:=hI;rw[rP] at VZ;have X7:=D rP;clear rP;generalize Fj l n=C at hb Ac3 VZ X7 Wv hil Ay⊢;obtain⟨blocks,Al,Cd,CV,BY,Fh⟩:=C;obtain⟨m,rfl⟩:∃k,m=k+1:=⟨m-1,by have:=hb.l1;simp only at this Wv;omega⟩;obtain⟨os,o,ho,hos⟩:=tN Wv;obtain⟨is_,ii,hi,his⟩:=tN hil;simp only at ho hi;subst ho;subst hi;have iY:m<=3:=by have:=hb.l4;simp only[GT,JP] at this;omega
   have uC:=hb.ob o EQ;have hib:=hb.ib ii EQ;obtain⟨g1,g2,g3,g4,g5,g6⟩:=Ac3;simp only at g1 g2 g3 g4 g5 g6;obtain⟨nb,ncap,hv,_,nlt,ncp,ncm,ncell,nfree⟩:=Av H Y;have NI:=Ay.mod;have GO:∀j,j<14->wr.cell? ⟨nb,n*14+j,Z⟩=(Nd.cells l[n])[j]?:=λj hj=>by
    have rR:n*14+j<(Bk l).length:=by rw[D0];omega
    have:=AH NI (ncell _ rR);rw[this,<-Jb rR,Iw l n j Cy hj,Ja,Jb Cy];rfl
   have k0:wr.cell? ⟨nb,n*14,Z⟩=U (.int .u8 l[n].kind):=GO 0 Y;have k12:wr.cell? ⟨nb,n*14+12,Z⟩=U (iI l[n].n):=GO 12 Y;have HN:=D (show∀W,Aw (Er []) w W->W.cell? ⟨nb,n*14+12,Z⟩=U (iI l[n].n) from λW hm=>by
     have rR:n*14+12<(Bk l).length:=by rw[D0];omega
     have:=AH hm (ncell _ rR);rw[this,<-Jb rR,Iw l n 12 Cy Y,Ja,Jb Cy];rfl)
   obtain⟨oc1,of1,ol1⟩:=AZ (Ay.Ak.row (i:=0) rfl);obtain⟨ic1,if1,il1⟩:=AZ (Ay.Ak.row (i:=1) rfl);have c0:wr.cell? ⟨ob,m,Z⟩=U (iI o):=by rw[oc1 m (by simp[EG,hos])];simp[EG,hos]
   have c1:wr.cell? ⟨ib,m,Z⟩=U (iI ii):=by rw[ic1 m (by simp[EG,his])];simp[EG,his]
   have cf:=if1 m;have ocap:m+1<=oc/\oc<=maxLen:=by
    obtain⟨_,⟨h1,_⟩|⟨_,_,_,h1,_,_,h3,h4,_⟩⟩:=Ay.Ak.row (i:=0) rfl
    .cases h1
    .cases h1;exact⟨h3,h4⟩
   have icap:m+1<=ic/\ic<=maxLen:=by
    obtain⟨_,⟨h1,_⟩|⟨_,_,_,h1,_,_,h3,h4,_⟩⟩:=Ay.Ak.row (i:=1) rfl
    .cases h1
    .cases h1;exact⟨h3,h4⟩
   have nlt':=JQ nlt NI.size;have Yp:=hv;cases Yp;have S:=D Ay;have Hb:=D hb;have Hb2:=D VZ;have Hos:=D hos;have vC:=D his;clear hv Ay hb VZ hos his Wv hil GO ncell nfree oc1 ic1 of1 if1 NI hnl;obtain⟨x,hx⟩:∃x,x=l[n]:=⟨_,rfl⟩;rw[<-hx] at hn4 k0 k12 X7 Hb2 HN;clear hx;obtain⟨o1,o2⟩:=ocap;obtain⟨i1,i2⟩:=icap;obtain⟨Aky,Akx⟩:=uC;obtain⟨AmW,AmV⟩:=hib;unfold maxLen at o2 i2;have Dk:(m:Int)+1-1=m:=Y
   have hn9:n<=2000:=Y
   have ZY:0<=(m:Int):=JK _;have hmm:m<(m:Int)+1:=Y
   have Aoc:0<=(n:Int):=JK _;have hm8:m+1+1<=maxLen:=by unfold maxLen;omega
   have hm9:(m+1+1)*8<=140737488355328:=Y
   replace g2:blocks<=100000:=Y
   replace g4:Al<=100000:=Y
   replace g6:Cd<=100000:=Y
   replace hn4:=D hn4;by_cases q1:x.kind=108
   .have t1:((x.kind:Int)==108)=V:=kt q1 rfl;have Q:=D q1;clear q1;obtain⟨n1,n2⟩:=hn4.out Q.out;cases Fh with
    |false=>
     have hx1:=IntWalk.i64_in _ (pW Aky Akx n1 n2);go_upto_region 13 with fail
     refine AU (l:=sq [11,12] 0 13) (λW=>W.cell? ⟨ob,m,Z⟩=U (iI o)/\W.cell? ⟨nb,n*14,Z⟩=U (.int .u8 x.kind)/\W.cell? ⟨nb,n*14+12,Z⟩=U (iI x.n)) 12 ?_ ?_
     .exact⟨c0,k0,k12⟩
     refine FC ?_;clear hx1;refine Bb rfl (λK hK=>?_);go_simp;refine hK _ _ (λ_=>⟨(JA _ _ _ ol1).trans c0,(JA _ _ _ nlt').trans k0,(JA _ _ _ nlt').trans k12⟩) ?_;clear hK;refine Bb rfl (λK hK=>?_);refine BW 8 _ _ _ j0 _ #[iI (o*x.n)] _ (S.Ak) (k:=0) rfl Eq Eq underlying29 hj LP KZ MH rfl Y Eq Eq rfl (by simp[Value.oneCell']) hm8 hm9 ?_;intro ob6 oc6 w6 st6 _;refine hK _ _ (λh=>Jk h Do) ?_;clear hK;refine Bb rfl (λK hK=>?_);go_simp;refine hK _ _ (λh=>Jk h Do) ?_;clear hK;simp only[Ct];have st7:Af w [] w6 [Vu ob6 (m+1+1) oc6 (os++[o]++[o*x.n]),Vu ib (m+1) ic (is_++[ii])]:=by
      have:=S.trans st6;simpa[Vu,EG] using this
     have S7:=D st7;clear st6 st7 S c0 c1 k0 k12 cf ol1 il1;go_wp2_with (first|(at_builtin;refine A6 8 _ _ _ j0 _ #[iI 1] _ (S7.Ak) (k:=1) rfl Eq Eq underlying29 hj LP KZ MH rfl Y Eq Eq rfl (by simp[Value.oneCell']) hm8 hm9 ?_;intro ib8 ic8 w8 st8 _));go_roundw;case rel=>
      have hk:Fj l (n+1)=⟨blocks,Al,Cd,os++[o]++[o*x.n],is_++[ii]++[1],I⟩:=by rw[X7.out,kN Q.out];simp
      have s8:Af w [] w8 [Vu ob6 (m+1+1) oc6 (os++[o]++[o*x.n]),Vu ib8 (m+1+1) ic8 (is_++[ii]++[1])]:=by
       have:=(S7).trans st8;simpa[Vu,EG] using this
      exact ma0
     case measure=>exact Vm Cy
    |true=>
     have hx1:=IntWalk.i64_in _ (pW Aky Akx n1 n2);go_upto_region 13 with fail
     refine AU (l:=sq [11,12] 0 13) (λW=>W.cell? ⟨ob,m,Z⟩=U (iI o)/\W.cell? ⟨nb,n*14,Z⟩=U (.int .u8 x.kind)/\W.cell? ⟨nb,n*14+12,Z⟩=U (iI x.n)) 12 ?_ ?_
     .exact⟨c0,k0,k12⟩
     refine FC ?_;clear hx1;refine Bb rfl (λK hK=>?_);go_simp;refine hK _ _ (λ_=>⟨(JA _ _ _ ol1).trans c0,(JA _ _ _ nlt').trans k0,(JA _ _ _ nlt').trans k12⟩) ?_;clear hK;refine Bb rfl (λK hK=>?_);refine BW 8 _ _ _ j0 _ #[iI (o*x.n)] _ (S.Ak) (k:=0) rfl Eq Eq underlying29 hj LP KZ MH rfl Y Eq Eq rfl (by simp[Value.oneCell']) hm8 hm9 ?_;intro ob6 oc6 w6 st6 _;refine hK _ _ (λh=>Jk h Do) ?_;clear hK;refine Bb rfl (λK hK=>?_);go_simp;refine hK _ _ (λh=>Jk h Do) ?_;clear hK;simp only[Ct];have st7:Af w [] w6 [Vu ob6 (m+1+1) oc6 (os++[o]++[o*x.n]),Vu ib (m+1) ic (is_++[ii])]:=by
      have:=S.trans st6;simpa[Vu,EG] using this
     obtain⟨ic7,if7,il7⟩:=AZ (st7.Ak.row (i:=1) rfl);have c17:w6.cell? ⟨ib,m,Z⟩=U (iI ii):=by rw[ic7 m (by simp[EG,vC.out])];simp[EG,vC.out]
     have k127:=HN.out w6 st7.mod;have S7:=D st7;clear st6 st7 S c0 c1 k0 k12 cf ol1 il1;have hx2:=IntWalk.i64_in _ (pW AmW AmV n1 n2);go_upto_region 16 with fail
     refine AU (l:=sq [] 0 10) (λW=>W.cell? ⟨ib,m,Z⟩=U (iI ii)/\W.cell? ⟨nb,n*14+12,Z⟩=U (iI x.n)) 10 ?_ ?_
     .exact⟨c17,k127⟩
     refine FC ?_;clear hx2;refine Bb rfl (λK hK=>?_);go_simp;refine hK _ _ (λh=>Jk h Do) ?_;clear hK;simp only[Ct];go_wp2_with (first|(at_builtin;refine A6 8 _ _ _ j0 _ #[iI (ii*x.n)] _ ((Af.drew S7.Ak).Ak) (k:=1) rfl Eq Eq underlying29 hj LP KZ MH rfl Y Eq Eq rfl (by simp[Value.oneCell']) hm8 hm9 ?_;intro ib8 ic8 w8 st8 _));go_roundw;case rel=>
      have hk:Fj l (n+1)=⟨blocks,Al,Cd,os++[o]++[o*x.n],is_++[ii]++[(ii*x.n)],V⟩:=by rw[X7.out,kN Q.out];simp
      have s8:Af w [] w8 [Vu ob6 (m+1+1) oc6 (os++[o]++[o*x.n]),Vu ib8 (m+1+1) ic8 (is_++[ii]++[(ii*x.n)])]:=by
       have:=(S7.trans (Af.drew S7.Ak)).trans st8;simpa[Vu,EG] using this
      exact ma0
     case measure=>exact Vm Cy
   .have t1:((x.kind:Int)==108)=I:=kf q1 rfl;by_cases q2:x.kind=98
    .have t2:((x.kind:Int)==98)=V:=kt q2 rfl;have Q:=D q2;clear q1 q2;go_wp2;go_roundw;case rel=>
      have hk:Fj l (n+1)=⟨blocks,Al,Cd,os,is_,Fh⟩:=by rw[X7.out,Aeu Q.out];simp
      have s1:=S.Ak.take (i:=0) rfl m (JJ m);have s2:=s1.Ak.take (i:=1) rfl m (JJ m);have e1:(EG (os++[o])).take (m*1)=EG os:=by rw[<-Hos.out];simp[EG]
      have e2:(EG (is_++[ii])).take (m*1)=EG is_:=by rw[<-vC.out];simp[EG]
      have s3:=S.trans (s1.trans s2);rw[e1,e2] at s3;refine⟨n+1,ob,oc,ib,ic,m,?_,Cy,?_,?_,?_,?_,rfl,rfl,⟨?_,?_,?_⟩⟩
      .rfl
      .rw[hk]
      .rw[hk]
      .rw[hk]
      .rw[hk]
      .rw[hk];exact Hos.out
      .rw[hk];exact vC.out
      .rw[hk];exact s3
     case measure=>exact Vm Cy
    .have t2:((x.kind:Int)==98)=I:=kf q2 rfl;by_cases q3:x.kind=40
     .have t3:((x.kind:Int)==40)=V:=kt q3 rfl;have Q:=D q3;clear q1 q2 q3;go_wp2;go_roundw;case rel=>
       have hk:Fj l (n+1)=⟨blocks+o,0,Cd,os++[o],is_++[1],V⟩:=by rw[X7.out,Aew Q.out];simp
       have s1:=S.Ak.Eu (i:=1) rfl m (by simp[EG,vC.out]) (iI 1);have e2:(EG (is_++[ii])).set m (iI 1)=EG (is_++[1]):=by rw[<-vC.out];simp[EG]
       have s3:=S.trans s1;rw[e2] at s3;refine⟨n+1,ob,oc,ib,ic,m+1,?_,Cy,?_,?_,?_,?_,rfl,rfl,⟨?_,?_,?_⟩⟩
       .rfl
       .rw[hk]
       .rw[hk]
       .rw[hk]
       .rw[hk]
       .rw[hk];simp[Hos.out]
       .rw[hk];simp[vC.out]
       .rw[hk];exact s3
      case measure=>exact Vm Cy
     .have t3:((x.kind:Int)==40)=I:=kf q3 rfl;by_cases q4:x.kind=41
      .have t4:((x.kind:Int)==41)=V:=kt q4 rfl;have Q:=D q4;clear q1 q2 q3 q4;go_wp2;go_roundw;case rel=>
        have hk:Fj l (n+1)=⟨blocks,Al,Cd,os++[o],is_++[ii],I⟩:=by rw[X7.out,Aev Q.out]
        exact maq
       case measure=>exact Vm Cy
      .have t4:((x.kind:Int)==41)=I:=kf q4 rfl;by_cases q5:x.kind=111
       .have t5:((x.kind:Int)==111)=V:=kt q5 rfl;have Q:=D q5;clear q1 q2 q3 q4 q5;cases Fh with
        |false=>
         go_wp2;go_roundw;case rel=>
          have hk:Fj l (n+1)=⟨blocks,Al,Cd,os++[o],is_++[ii],I⟩:=by rw[X7.out,YT Q.out];simp
          exact maq
         case measure=>exact Vm Cy
        |true=>
         by_cases hgt:Cd<Al+ii
         .have Hgt:=D hgt;go_wp2;go_roundw;case rel=>
           have hk:Fj l (n+1)=⟨blocks,Al+ii,Al+ii,os++[o],is_++[ii],V⟩:=by rw[X7.out,YT Q.out];simp[Hgt.out]
           exact maq
          case measure=>exact Vm Cy
         .have Hgt:=D hgt;go_wp2;go_roundw;case rel=>
           have hk:Fj l (n+1)=⟨blocks,Al+ii,Cd,os++[o],is_++[ii],V⟩:=by rw[X7.out,YT Q.out];simp[Hgt.out]
           exact maq
          case measure=>exact Vm Cy
       .have t5:((x.kind:Int)==111)=I:=kf q5 rfl;have Q:=D (Aet (c:=⟨blocks,Al,Cd,os++[o],is_++[ii],Fh⟩) q1 q2 q3 q4 q5);clear q1 q2 q3 q4 q5;go_wp2;go_roundw;case rel=>
         have hk:Fj l (n+1)=⟨blocks,Al,Cd,os++[o],is_++[ii],Fh⟩:=by rw[X7.out,Q.out]
         exact maq
        case measure=>exact Vm Cy
  .have AmK:n=J l:=Y
   subst AmK;have hS:=D hI.st;clear hI;go_wp2;go_ret2;refine⟨?_,hS.mod⟩;have e:Fj l (J l)=l.foldl Ez.step .Dq:=by unfold Fj;rw[Qw]
   rw[e];rfl
theorem Aa8 (l:Ws) (lw:Value) (w:World) (g:RG) (R:RS) (n:Nat) (h:Aq w (g.Az R)) (hL:C5 g R) (hG:LG R n)
  (hw:Sl w (λb=>b∉Er (g.Az R)) lw (Bp l)) (hs:∀a,a∈l->a.size<=maxLen) (hne:l≠[]) (MT:Bv l=V):
  Calls prog 37 #[iJ g.rb,lw] w (Fw (R.row l) g R w):=by
 have hS:0<=R.Ai/\R.Ai<=1000:=⟨hG.s0,by have:=hG.s1;omega⟩;by_cases h1:bs (wd l 0)=AQ
 .exact lg l lw w g R n h hL hG.inv hw hs hne MT h1
 by_cases h2:bs (wd l 0)=AE
 .by_cases ho:R.Ad=[]
  .exact gj l lw w g R n h hL hG.inv hw hne MT h2 ho
  .exact gk l lw w g R n h hG.inv hG.ue hw hne h2 ho
 by_cases h3:bs (wd l 0)=EM
 .exact Aa7 l lw w g R n h hL hG.inv hG.ue hw hne h3
 cases hi:R.BC with
 |true=>exact Y4 l lw w g R n h hL hG.inv hG.ue hS hw hs hne MT h1 h2 h3 hi
 |false=>exact XF l lw w g R n h hL hG.inv hG.ue hS hw hs hne MT h1 h2 h3 hi
def RG.Alo (g:RG) (R:RS) (m:Bool):Ob:=.Ao g.rb #[iJ g.pb,qD g.s.p (J R.Ax) g.s.c,qD g.f.p (J R.first) g.f.c,qD g.z.p (J R.size) g.z.c,qD g.l.p (J R.AA) g.l.c,qD g.o.p (J R.Ad) g.o.c,iI R.Ai,qF m,iI 0] 94
def RG.rest (g:RG) (R:RS):List Ob:=(g.Az R).tail
def AlB (res:Except (Int×Nat) RP) (w:World) (e:Ending) (w':World):Prop:=match res with
 |.error c=>e= qJ (qG #[qI Z,iI c.1,iI c.2])/\Aw [] w w'
 |.ok p=>∃(g:RG) (R:RS),R.p=p/\C5 g R/\e= qJ (qG #[iJ g.pb,iI 0,iI 0])/\Af w [] w' (g.rest R)
structure RI (w0:World) (s:By) (k:Nat) (g:RG) (R:RS) (x:qL) (wr:World):Prop where
 st:Af w0 [] wr (g.Az R)
 len:C5 g R
 go:LG R k
 sim:M6 x R
 fw:FW x
 fn:FN x
 eq:FP s=NA ((AD 10 s).drop k) k R
theorem RI.new {x:qL} (h:RI w0 s k g R x wr):∀b,b∈Er (g.Az R)->w0.heap.size<=b:=λb hb=>by
 rcases h.st.fp b hb with h1|h1
 .simp[Er] at h1
 .exact h1
theorem RI.mod {x:qL} (h:RI w0 s k g R x wr):Aw [] w0 wr:=h.st.mod.mono λx hx=>by simp[Er] at hx
theorem RI.quiet {x:qL} (h:RI w0 s k g R x wr) (hm:Aw [] wr W):RI w0 s k g R x W:={h with st:=h.st.trans (Af.quiet h.st.Ak hm)}
theorem RI.next {x:qL} (h:RI w0 s k g R x wr) {R':RS} {p q:By} {r:List By} (hd:(AD 10 s).drop k=p::q::r) (hl:Bv (Bu p)=V) (hr:R.row (Bu p)=.ok R') (hk:k+1<=2500)
  {g':RG} (hL:C5 g' R') (st:Af wr (g.Az R) W (g'.Az R')):∃y,RI w0 s (k+1) g' R' y W:=by
 obtain⟨w,l,hwl⟩:∃w l,Bu p=w::l:=by
  unfold Bu;cases hs:AD 32 p with
  |nil=>exact Jk hs (Cc _ _)
  |cons a b=>exact⟨_,_,rfl⟩
 have hne:Bu p≠[]:=by rw[hwl];simp
 have hG:=h.go.row hk hl hne hr;have hs:=tT h.sim w l (by rw[<-hwl];exact hl);rw[<-hwl,hr] at hs;unfold VT at hs;cases hx:x.row (Bu p) with
 |error c=>rw[hx] at hs;exact hs.elim
 |ok y=>
  rw[hx] at hs;obtain⟨o1,o2⟩:=qL.pG h.fw h.fn hx;have kb:(AD 10 s).drop (k+1)=q::r:=by
   have:=JM List.tail hd;rwa[i7] at this
  refine⟨y,h.st.trans st,hL,hG,hs,o1,o2,?_⟩;rw[h.eq,hd,kb];show(if _ then _ else _)=_;rw[Jd hl,hr]
theorem RI.Amd {x:qL} (h:RI w0 s k g R x wr) (ho:R.Ad=[]):∀t,t∈R.p.Aa->Mz .Dq t/\J t<=1000:=by
 have bU:=Jn (by rw[<-N8 h.sim,ho];rfl);obtain⟨_,e⟩:=l9 h.sim h.fw bU;intro t ht;rw[e] at ht;obtain⟨u,hu,rfl⟩:=Qe.1 ht;refine⟨AeK (h.fw.th u hu),?_⟩;rw[CX];have h1:=h.fn.all u hu;have h2:(Dh u)<=2*IN u:=by
  clear h1 hu ht;induction u<;>simp only[Dh,IN]<;>omega
 omega
def cw (t:List Nd):Bool:=decide (3<(Ik t).1) || decide (8<(Ik t).2)
theorem AjB {g:List SG} {l:List (List Nd)} (hl:J g=J l) {j:Nat} (hj:j<J l):∃a,g[j]?=U a/\(A4 g l)[j]?=U (.slice a.p l[j].length a.c)/\(List.zipWith CM g l)[j]?=U (CM a l[j]):=by
 have hj':j<J g:=Y
 refine⟨g[j],by simp[hj'],?_,?_⟩
 .simp[A4,jE,hj',hj]
 .simp[jE,hj',hj]
theorem Abj (hL:C5 g R) {j:Nat} (hj:j<J R.p.Aa) (m:Bool):∃a,(A4 g.cv R.p.Aa)[j]?=U (.slice a.p R.p.Aa[j].length a.c)/\(g.Alo R m::g.rest R)[10+j]?=U (CM a R.p.Aa[j]):=by
 obtain⟨a,_,h2,h3⟩:=AjB hL.cl hj;refine⟨a,h2,?_⟩;show([_,_,_,_,_,_,_,_,_,_]++(List.zipWith CM g.cv R.p.Aa++List.zipWith Bw g.dv R.p.Ap))[10+j]?=_;rw[JL EQ];simp only[Jg,Jx];rw[show 10+j-(0+1+1+1+1+1+1+1+1+1+1)=j by omega,JT (by simp[hL.cl,hj]),h3]
theorem pI {w1:World} (hl:¬2000<J s):∃g,g.rb=w1.heap.size+1/\g.pb=w1.heap.size/\RI w1 s 0 g .Dq .Dq
  ((w1.alloc (qK #[qD Z 0 0,iI 0,qD Z 0 0,qD Z 0 0] 53)).alloc (qK #[iJ w1.heap.size,qD Z 0 0,qD Z 0 0,qD Z 0 0,qD Z 0 0,qD Z 0 0,iI 0,qF I,iI 0] 94)):=by
 have a1:=Af.new (Aq.nil w1) (qK #[qD Z 0 0,iI 0,qD Z 0 0,qD Z 0 0] 53);have a2:=a1.trans (Af.Mg a1.Ak (qK #[iJ w1.heap.size,qD Z 0 0,qD Z 0 0,qD Z 0 0,qD Z 0 0,qD Z 0 0,iI 0,qF I,iI 0] 94));rw[Z5] at a2;have nl:∀{L:List Ob} {w:World} {e:TypeId} {n:Nat},Af w1 [] w L->Af w1 [] w (L++[.row (qD Z 0 0) e n 0 []]):=λ{L w e n} h=>by
  have t:=Af.Ig (A:=L) (B:=[]) (by rw[Jr];exact h.Ak) e n;rw[Jr] at t;exact h.trans t
 have a3:=nl (e:=9) (n:=1) a2;have a4:=nl (e:=3) (n:=1) a3;have a5:=nl (e:=3) (n:=1) a4;have a6:=nl (e:=9) (n:=1) a5;have a7:=nl (e:=3) (n:=1) a6;have a8:=nl (e:=72) (n:=1) a7;have a9:=nl (e:=51) (n:=1) a8;have a10:=nl (e:=4) (n:=1) a9;refine⟨⟨w1.heap.size+1,w1.heap.size,⟨Z,0⟩,⟨Z,0⟩,⟨Z,0⟩,⟨Z,0⟩,⟨Z,0⟩,⟨Z,0⟩,⟨Z,0⟩,⟨Z,0⟩,[],[]⟩,rfl,rfl,a10,⟨rfl,rfl,rfl,rfl,rfl,rfl,by simp[RS.Dq]⟩,.Dq,.Dq,.Dq,.Dq,?_⟩;unfold FP;rw[In hl];rfl
theorem lh {l:Ws} {c:Int} (h:R.row l=.error c):((c:Int) !=0)=V:=by
 rw[bne_iff_ne];unfold RS.row at h;simp only[] at h;split at h
 .unfold RS.Ec at h;split at h
  .cases h;decide
  .exact mbF
 split at h
 .exact mbF
 split at h
 .unfold RS.PD at h;exact mbF
 split at h
 .cases h;decide
 split at h
 .rename_i hn;cases h;rcases Zq hn with rfl|rfl<;>decide
 .split at h
  .cases h;decide
  .split at h
   .exact mbF
   .cases h
theorem dt (s:ByteArray) (w:World) (hs:s.size<=1000000):
  Calls prog 23 #[qE s] w (AlB (FP (bs s)) w):=by
 by_cases hl:2000<s.size
 .have uF:(2000:Int)<(s.size:Int):=Y
  have Hr:=D (show FP (bs s)=.error (1,0) by unfold FP;rw[Jd (by rw[Bt];exact hl)]);clear hl;go_enter func23,ntmps23;go_wp2;go_ret3;rw[Hr.out];exact⟨rfl,Aw.refl _ _⟩
 have uF:¬(2000:Int)<(s.size:Int):=Y
 have Hl:=D (show¬2000<(bs s).length by rw[Bt];exact hl);go_enter func23,ntmps23;go_wp2_with fail;refine(VH s 10 _ hs).mono ?_;intro e w1 he;obtain⟨v,l,FA,Dk,Co,ow⟩:=he;obtain⟨ini,pl,hP⟩:∃ini pl,AD 10 (bs s)=ini++[pl]:=by
  exact mbg
 obtain⟨k0,Uf⟩:∃k,k=J ini:=⟨_,rfl⟩;have hle:l=(ini++[pl]).map AR:=by rw[<-hP];exact UI ow
 have hlen:J l=k0+1:=by rw[hle,Uf];simp
 have bw:k0<=2001:=by
  have:=GU 10 _ (bs s) (Jf _);have h3:=Lib.count_le (bs s) [10];rw[Bt] at h3;rw[hP] at this;simp at this;omega
 obtain⟨lb,lcap,hv,_,llt,lcp,lcm,lcel,lfr⟩:=Av Co Y;rw[hlen] at hv;subst FA;subst hv;have AnJ:=D lcel;have HP:=D hP;have HK:=D Uf;have HLE:=D hle;have NQ:=D Dk;clear Co ow hP Uf hle hlen Dk lcel lfr lcp lcm llt uF hl;have hw:True->wrap64 (k0:Int)=k0:=λ_=>IntWalk.wrap64_in _ Y
 go_wp2;go_loopw [8,9] (λn i wr=>∃k:Nat,n= iI k/\i= iI k/\k<=k0/\∃g R x,g.rb=w1.heap.size+1/\RI w1 (bs s) k g R x wr) (λ_ i _=>k0+1-(intOf i).toNat);case atStart=>
  obtain⟨g,h1,_,h3⟩:=pI (w1:=w1) Hl.out;exact⟨0,rfl,rfl,Jo _,g,_,_,h1,h3⟩
 case round=>
  clear hw;obtain⟨k,rfl,rfl,hk,g,R,x,bu,hI⟩:=hrel;rw[<-bu];have Hrb:=D bu;have HI:=D hI;have Lo:(k:Int)<(k0:Int)+1:=Y
  have Aix:(0:Int)<=(k:Int):=Y
  have PB:True->wrap64 ((k:Int)+1)=k+1:=λ_=>IntWalk.wrap64_in _ Y
  have hkP:k<(ini++[pl]).length:=by rw[GT,<-HK.out];simp;omega
  obtain⟨p,hp⟩:∃p,p=(ini++[pl])[k]:=⟨_,rfl⟩;have hpm:p∈AD 10 (bs s):=by rw[HP.out,hp];exact JO hkP
  have hpl:=OQ 10 (bs s) p hpm;rw[Bt] at hpl;have r0:wr.cell? ⟨lb,k,Z⟩=U (qE (AR p)):=by
   refine AH hI.mod (Oz AnJ ?_);rw[HLE.out];simp only[Bp,jS];rw[JR,Jb hkP,<-hp];rfl
  have hd:(AD 10 (bs s)).drop k=p::(ini++[pl]).drop (k+1):=by rw[HP.out,hp,JS hkP]
  have VW:(AR p).size<=1000000:=by rw[<-Bt,Di];omega
  have zY:=D (VH (AR p) 32 wr VW);have Hd:=D hd;have Hp:=D hp;have HPL:=D hpl;clear hI bu hd hp hpm hpl VW;obtain⟨br,hbr⟩:∃b,b=decide (k=k0/\pl=[]/\0<k):=⟨_,rfl⟩;have HBR:=D hbr;clear hbr;go_upto_region 10 with fail
  go_cut [47] from 28 to 73 (λq w'=>w'=wr/\q= qF br)
  case first=>
   by_cases GZ:k=k0
   .have ZU:((k:Int)==(k0:Int))=V:=by rw[GZ];simp
    have ou:p=pl:=by rw[Hp.out];simp[GZ,HK.out]
    by_cases hpl:pl=[]
    .have r0':wr.cell? ⟨lb,k,Z⟩=U (qE ⟨#[]⟩):=by rw[r0,ou,hpl];rfl
     by_cases h0:0<k
     .have hb4:(0:Int)<(k:Int):=Y
      exact mbe
     .have hb4:¬(0:Int)<(k:Int):=Y
      exact mbe
    .have he:¬(AR p).toList=[]:=by rw[ByteArray.toList_eq,ou];exact hpl
     have yB:(AR p).toList.isEmpty=I:=by rw[<-j5,List.isEmpty_iff];exact he
     have Hq:=D (show qF I= qF br by rw[HBR.out];simp[hpl]);clear GZ ou hpl;go_wp2
     go_meet
     exact⟨rfl,Hq⟩
   .have ZU:((k:Int)==(k0:Int))=I:=by rw[Jh];omega
    have Hq:=D (show qF I= qF br by rw[HBR.out];simp[GZ]);clear GZ;go_wp2
    go_meet
    exact⟨rfl,Hq⟩
  case rest=>
   obtain⟨Fi,hq⟩:=hcut;subst Fi;subst hq;cases br with
   |true=>
    have hb:=HBR.out;rw[eq_comm,JD] at hb;obtain⟨Ix,VZ,XQ⟩:=hb;have ou:p=[]:=by rw[Hp.out,<-VZ];simp[Ix,HK.out]
    have HQ:=D (show FP (bs s)=KB k R by
      rw[HI.out.eq,Hd.out,ou,Qc (by rw[GT,<-HK.out];simp;omega)];show(if _ then _ else _)=_;rw[Jd ⟨rfl,XQ⟩])
    clear Ix VZ XQ ou r0 zY HBR;have hrf:=BL HI.st.Ak;have gP:J R.p.Aa<=2500:=by have:=HI.go.inv.bn;have:=HI.go.inv.nn;omega
    have Wv:J R.Ad<=3:=HI.go.ol;obtain⟨hrc,hrpc,hrf,hrpf,hlt,hpl,hne⟩:=hrf;by_cases ho:R.Ad=[];rotate_left
    .have XK:0<J R.Ad:=JI.2 ho;have Vy:(0:Int)<(J R.Ad:Int):=Y
     have Hr:=D (show FP (bs s)=.error (3,k+1) by rw[HQ.out];unfold KB;rw[Jd (.inl ho)]);clear ho hrf hrpf;go_wp2;go_ret3;rw[Hr.out];exact⟨rfl,NQ.Aj HI.mod⟩
    have Vy:J R.Ad=0:=by rw[ho];rfl
    rw[Vy] at hrc;by_cases ht:R.p.Aa=[]
    .have Hr:=D (show FP (bs s)=.error (3,k+1) by rw[HQ.out];unfold KB;rw[Jd (.inr ht)]);rw[ht] at hrpc;simp only[Jx] at hrpc;clear ho Vy ht hrf hrpf;go_wp2;go_ret3;rw[Hr.out];exact⟨rfl,NQ.Aj HI.mod⟩
    have ht1:((J R.p.Aa:Int)==0)=I:=by rw[Jh];have:=JI.2 ht;omega
    have HO:=D ho;have HT:=D ht;have HQ2:=D (show FP (bs s)=if (R.p.Aa.any cw) || (decide (6<R.p.cells) || decide (3<J R.p.Aa)) then .error (5,0) else .ok R.p by
      rw[HQ.out];unfold KB;rw[In (λh=>h.elim (λh=>h ho) ht)];rfl)
    clear ho Vy ht;go_wp2;go_loopw [13] (λj wx=>∃n:Nat,j= iI n/\n<=J R.p.Aa/\Af w1 [] wx (g.Alo R ((R.p.Aa.take n).any cw)::g.rest R)) (λj _=>J R.p.Aa-(intOf j).toNat);case atStart=>exact⟨0,rfl,Jo _,HI.st⟩
    case round=>
     clear hrc hrpc hrf hrpf hlt hpl hne PB Aix Lo;obtain⟨n,rfl,hn,st⟩:=hrel;have ST:=D st;have SM:=st.Ak.Ao (i:=0) rfl;have ZU:=st.Ak.Ao (i:=1) rfl;have hrc:=SM.cell;have hrf:=SM.free;have hlt:=SM.lt;have Tm:=ZU.cell;have hpl:=ZU.lt;have IL:(0:Int)<=(n:Int):=Y
     by_cases hnl:(n:Int)<(J R.p.Aa:Int)
     .have AfA:n<J R.p.Aa:=Y
      obtain⟨a,ha1,ha2⟩:=Abj HI.len AfA ((R.p.Aa.take n).any cw);have DH:=st.Ak.row ha2;obtain⟨hP,hL1⟩:=HI.Amd HO _ (JO AfA);have Hc:=D (nz R.p.Aa[n] _ wr DH hP hL1);obtain⟨tb,tcap,Rm,_,tlt,_,_,tcel,tfr⟩:=Av (st.Ak.row (i:=7) rfl) Y;simp only[Value.slice.injEq] at Rm;obtain⟨htp,_,htc⟩:=Rm;rw[htp] at Tm;have t0:wr.cell? ⟨tb,n,Z⟩=U (.slice a.p R.p.Aa[n].length a.c):=Oz tcel ha1;have Xx:True->wrap64 ((n:Int)+1)=n+1:=λ_=>IntWalk.wrap64_in _ Y
      have rP:((R.p.Aa.take (n+1)).any cw)=((R.p.Aa.take n).any cw || cw R.p.Aa[n]):=by
       rw[JN AfA,m9];simp
      obtain⟨nd,GO⟩:∃z,z=R.p.Aa[n]:=⟨_,rfl⟩;rw[<-GO] at rP Hc t0;obtain⟨mb,Py⟩:∃b,b=(R.p.Aa.take n).any cw:=⟨_,rfl⟩;rw[<-Py] at rP ST hrc;have X7:=D rP;clear SM ZU ha1 ha2 DH hP hL1 htp htc tcel tfr rP Py GO AfA st;go_wp2_with fail;refine Hc.mono ?_;intro e w5 he;obtain⟨FA,hm⟩:=he;subst FA;have ST5:=D (ST.trans (Af.quiet ST.Ak hm));have SM:=ST5.Ak.Ao (i:=0) rfl;clear hrc hrf hlt Tm hpl t0 hm;have hrc:=SM.cell;have hrf:=SM.free;have hlt:=SM.lt;obtain⟨c1,Ys⟩:∃z,z=(Ik nd).1:=⟨_,rfl⟩;obtain⟨c2,Wy⟩:∃z,z=(Ik nd).2:=⟨_,rfl⟩;have mQ:cw nd=(decide (3<c1) || decide (8<c2)):=by unfold cw;rw[<-Ys,<-Wy]
      rw[mQ] at X7;rw[<-Ys,<-Wy];clear mQ;clear SM Ys Wy Hc;cases mb with
      |true=>
       replace X7:=D (X7.trans (Bool.true_or _));exact maA
      |false=>
       by_cases h3:3<c1
       .replace X7:=D (X7.trans (show _=V by simp[h3]));exact maA
       .by_cases h8:8<c2
        .replace X7:=D (X7.trans (show _=V by simp[h8]));exact maA
        .replace X7:=D (X7.trans (Q6 _));go_wp2_with fail;go_roundw;case rel=>
          refine⟨n+1,by (try rw[Xx trivial]);rfl,Y,?_⟩;rw[X7.out];exact ST5.trans (ST5.Ak.set (i:=0) rfl 7 (qF (decide (3<c1) || decide (8<c2))))
         case measure=>(try rw[Xx trivial]);simp[intOf];omega
     .have hne:n=J R.p.Aa:=Y
      have HQ3:=HQ2.out;rw[hne,Qw] at hrc ST;obtain⟨mb,Py⟩:∃b,b=R.p.Aa.any cw:=⟨_,rfl⟩;rw[<-Py] at hrc HQ3 ST;have HQ4:=D HQ3;clear SM ZU hne Py st HQ3;cases mb with
      |true=>
       replace HQ4:=D (HQ4.trans (Jd (Bool.true_or _)));exact ma6
      |false=>
       by_cases h6:6<R.p.cells
       .replace HQ4:=D (HQ4.trans (Jd (by simp[h6])));exact ma6
       .by_cases h3:3<J R.p.Aa
        .have h3i:(3:Int)<(J R.p.Aa:Int):=Y
         replace HQ4:=D (HQ4.trans (Jd (by simp[h3])));exact ma6
        .have h3i:¬(3:Int)<(J R.p.Aa:Int):=Y
         replace HQ4:=D (HQ4.trans (In (by simp[h3,h6])));have HL:=D HI.len;go_wp2;go_ret3;rw[HQ4.out];exact⟨g,R,rfl,HL,rfl,(Af.quiet (Aq.nil w) NQ).trans (ST.trans (Af.WJ (A:=[]) ST.Ak))⟩
   |false=>
    have hb:=HBR.out;rw[eq_comm,decide_eq_false_iff_not] at hb;have HB:=D hb;clear hb HBR;go_wp2_with fail;refine zY.mono ?_;intro e w5 he;obtain⟨v5,l5,FA,hm5,AgP,Ait⟩:=he;have AkG:l5=Bu p:=by rw[Di] at Ait;exact UI Ait
    have AcH:=Sl.OU AgP;rw[AkG] at AcH;have Aiq:Bu p≠[]:=λh=>Cc 32 p (List.map_eq_nil_iff.1 h)
    have Aih:∀a,a∈Bu p->a.size<=maxLen:=λa ha=>by
     obtain⟨y,hy,rfl⟩:=Qe.1 ha;have:=OQ 32 p y hy;have:=HPL.out;rw[<-Bt,Di];unfold maxLen;omega
    obtain⟨sp,sc,hv,_,_⟩:=AcH.Mq;obtain⟨sn,hsn⟩:∃n,n=(Bp (Bu p)).length:=⟨_,rfl⟩;rw[<-hsn] at hv;subst FA;subst hv;have Ag6:=D (Ace (Bu p) _ w5 _ AcH Aiq Aih);have Anv:=D AcH;have AnD:=D Aiq;have Ant:=D Aih;have HI5:=D (HI.quiet hm5);have Hge:=D hm5.size;clear hsn AkG AcH Aiq Aih hm5 AgP Ait r0 zY;go_wp2_with fail;refine Ag6.mono ?_;intro e w6 he;obtain⟨FA,hm6⟩:=he;subst FA;have HI6:=D (HI5.quiet hm6);clear Ag6;have Akp:Sl w6 (λb=>b∉Er (g.Az R)) (qD sp sn sc) (Bp (Bu p)):=by
     refine(Anv.mono λb _ hb hf=>?_).mod hm6 EQ;have h1:=HI.st.Ak.lt b hf;omega
    have Anu:=D Akp;clear hm6 Akp;by_cases GZ:k=k0
    .have ZU:((k:Int)==(k0:Int))=V:=by rw[GZ];simp
     have hr:=D (show FP (bs s)=.error (2,k+1) by
       rw[HI.out.eq,Hd.out,Qc (by rw[GT,<-HK.out];simp;omega)];show(if _ then _ else _)=_;rw[In];rintro⟨h1,h2⟩;have ou:p=pl:=by rw[Hp.out];simp[GZ,HK.out]
       exact HB.out ⟨GZ,by rw[<-ou];exact h1,h2⟩)
     clear GZ;cases MT:Bv (Bu p) with
     |true=>
      exact mbr
     |false=>
      exact mbr
    .have ZU:((k:Int)==(k0:Int))=I:=by rw[Jh];omega
     obtain⟨q,r,hqr⟩:∃q r,(AD 10 (bs s)).drop k=p::q::r:=by
      rw[Hd.out];cases bY:(ini++[pl]).drop (k+1) with
      |nil=>have:=RK.1 bY;rw[GT,<-HK.out] at this;simp at this;omega
      |cons q r=>exact⟨q,r,rfl⟩
     have Hqr:=D hqr;have heq:FP (bs s)=if Bv (Bu p) then match R.row (Bu p) with|.error c=> .error (c,k+1)|.ok r'=>NA (q::r) (k+1) r' else .error (2,k+1):=by rw[HI.out.eq,hqr];rfl
     have Heq:=D heq;have Aom:k<k0:=Y
     clear hqr heq GZ;cases MT:Bv (Bu p) with
     |false=>
      have hr:=D (Heq.trans (by rw[MT]));exact mbr
     |true=>
      have AkH:=D MT;have zV:=D (Aa8 (Bu p) _ w6 g R k HI6.st.Ak HI6.len HI6.go Anu Ant AnD MT);clear MT;go_wp2_with fail;refine zV.mono ?_;intro e w7 he;clear zV;cases hr:R.row (Bu p) with
      |error c=>
       rw[hr] at he;obtain⟨FA,hm⟩:=he;subst FA;have hcn:=lh hr;have iW:=D (Heq.trans (by rw[AkH.out,hr]));have HM7:=D (NQ.Aj (HI6.mod.trans hm (λb hb=> .inr (HI6.new b hb))));clear hr hm;go_wp2;go_ret3;rw[iW.out];exact⟨rfl,HM7⟩
      |ok R'=>
       rw[hr] at he;obtain⟨FA,g',Aku,hL',st'⟩:=he;subst FA;obtain⟨y,hN⟩:=HI6.next Hqr AkH hr Y hL' st';have HN:=D hN;have Anx:=D Aku;clear hr hN hL' st' Aku;go_wp2;go_roundw;case rel=>exact⟨k+1,by (try rw[PB trivial]);rfl,by (try rw[PB trivial]);rfl,Y,g',R',y,Anx,HN⟩
       case measure=>(try rw[PB trivial]);simp[intOf]<;>omega
