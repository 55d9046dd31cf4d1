/- Part 14 of the proof. -/
import Derived.Test.YtpdfifdlhpmofaaGreatDoorC12
import Derived.Test.YtpdfifdlhpmofaaGreatDoorC13
import Derived.Test.YtpdfifdlhpmofaaGreatDoorC07
set_option linter.unusedVariables false
set_option linter.unusedSimpArgs false
set_option maxHeartbeats 0
set_option maxRecDepth 99999
namespace Go.Proofs.YtpdfifdlhpmofaaGreatDoor
open Go.RowKit Tryz
open Value renaming slice->m9,string->qA,bool->qB,tuple->qC,agg->qD,pointer->qE
open Ending renaming returned->qF
open Obj renaming cells->qG
open Option renaming none->Z,some->U
open Bool renaming true->V,false->I
open Go.Lib renaming hid->D
open List renaming length->J
variable {p:Prop}
theorem maq (h:p:=by
 refine⟨n+1,ob,oc,ib,ic,m+1,?_,C4,?_,?_,?_,?_,rfl,rfl,⟨?_,?_,?_⟩⟩
 .rfl
 .rw[hk]
 .rw[hk]
 .rw[hk]
 .rw[hk]
 .rw[hk];simp[Hos.out]
 .rw[hk];simp[uA.out]
 .rw[hk];exact S.out):p:=h
theorem maz (h:p:=by
 go_wp2_with fail;go_roundw;case rel=>
  refine⟨n+1,by (try rw[Xe trivial]);rfl,Y,?_⟩;rw[XI.out];exact ST5.trans (ST5.Ak.set (i:=0) rfl 7 (qB V))
 case measure=>(try rw[Xe trivial]);simp[intOf];omega):p:=h
theorem maX (h:p:=by
 refine⟨n+1,ob6,oc6,ib8,ic8,m+1+1,?_,C4,?_,?_,?_,?_,rfl,rfl,⟨?_,?_,?_⟩⟩
 .rfl
 .rw[hk]
 .rw[hk]
 .rw[hk]
 .rw[hk]
 .rw[hk];simp[Hos.out]
 .rw[hk];simp[uA.out]
 .rw[hk];exact s8):p:=h
theorem ma1 (h:p:=by
 exact⟨a1,by show c.blocks<=_;omega,a3,by show c.An<=_;omega,a5,by show c.BE<=_;omega⟩):p:=h
theorem ma2 (h:p:=by
 go_wp2;go_ret3;rw[y7.out];exact⟨rfl,Nt.Aj (ST.mod.mono λx hx=>by simp[Et] at hx)⟩):p:=h
theorem mba (h:p:=by
 have Hq:=D (show qB (decide (0<k))= qB br by rw[HBR.out];simp[GJ,hpl]);clear GJ na hpl r0 h0;go_wp2
 go_meet
 exact⟨rfl,Hq⟩):p:=h
theorem mbn (h:p:=by
 clear N6;go_wp2;go_ret3;rw[hr.out];exact⟨rfl,Nt.Aj HI6.mod⟩):p:=h
theorem mbB (h:p:=by
 split at h
 .cases h;decide
 .cases h):p:=h
variable {n k:Nat} {c:Ez} {x:Nd} {z:Int} {w0 wr W:World} {s:By} {g:RG} {R:RS}
theorem uj {w:World} {L:List Ob} {b:Nat} {c:Array Value} {T:TypeId} (hc:c.size=n) (hn:n<=maxLen) (h1:∀u,u∈c.toList->u.oneCell'=V) (h:Aq w (L++[.Ao b c T])):
  Ai w (L++[.Ao b c T]) w (L++[.row (m9 (U ⟨b,0,Z⟩) n n) T 1 n c.toList]):=by
 exact mav
def Fh (l:List Nd) (n:Nat):Ez:=(l.take n).foldl Ez.step .Dr
def U8 (b m c:Nat) (xs:List Int):Ob:=.row (m9 (U ⟨b,0,Z⟩) m c) 3 1 m (CD xs)
structure Ank (w:World) (l:List Nd) (n ob oc ib ic m:Nat) (wr:World):Prop where
 ol:(Fh l n).CV.length=m
 il:(Fh l n).BY.length=m
 st:Ai w [] wr [U8 ob m oc (Fh l n).CV,U8 ib m ic (Fh l n).BY]
theorem ru (l:List Nd) (k:Nat) (hk:k<J l):Fh l (k+1)=(Fh l k).step l[k]:=by
 unfold Fh;exact mbr
theorem Zz (w:World) (o:Obj):(w.alloc o).heap.size=w.heap.size+1:=by show(w.heap.push o).size=_;simp
theorem iE (h:x.kind=108):c.step x={c with CV:=c.CV++[(c.CV.getLast?).getD 0*x.n],BY:=c.BY++[if c.Ff then (c.BY.getLast?).getD 0*x.n else 1]}:=by simp[Ez.step,h]
theorem Ad4 (h:x.kind=98):c.step x={c with CV:=c.CV.dropLast,BY:=c.BY.dropLast}:=by simp[Ez.step,h]
theorem Ad6 (h:x.kind=40):c.step x={c with blocks:=c.blocks+(c.CV.getLast?).getD 0,An:=0,Ff:=V,BY:=c.BY.dropLast++[1]}:=by simp[Ez.step,h]
theorem Ad5 (h:x.kind=41):c.step x={c with Ff:=I}:=by simp[Ez.step,h]
theorem Yt (h:x.kind=111):c.step x=if c.Ff then {c with An:=c.An+(c.BY.getLast?).getD 0,BE:=if c.BE<c.An+(c.BY.getLast?).getD 0 then c.An+(c.BY.getLast?).getD 0 else c.BE} else c:=by simp[Ez.step,h]
theorem Ad3 (h1:¬x.kind=108) (h2:¬x.kind=98) (h3:¬x.kind=40) (h4:¬x.kind=41) (h5:¬x.kind=111):c.step x=c:=by simp[Ez.step,h1,h2,h3,h4,h5]
theorem kf (h:¬k=n) (hz:z=n):((k:Int)==z)=I:=by subst hz;rw[Jh];omega
theorem kt (h:k=n) (hz:z=n):((k:Int)==z)=V:=by subst hz;subst h;simp
theorem UX {L:Nat} (h:n<L):L-(intOf (iI ((n:Int)+1))).toNat<L-(intOf (iI (n:Int))).toNat:=by simp[intOf];omega
theorem oG {a b:Int} (h0:0<=a) (h1:a<=64) (k0:1<=b) (k1:b<=4): -9223372036854775808<=a*b/\a*b<=9223372036854775807:=by
 have h2:0<=a*b:=jN h0 Y;have h3:=d9 h1 k1 Y Y;omega
def AiX (l:List Nd) (w:World) (e:Ending) (w':World):Prop:=e= qF (qC #[iI (Ie l).1,iI (Ie l).2])/\Az [] w w'
theorem su {α:Type} {l:List α} (h:J l=n+1):∃a b,l=a++[b]/\J a=n:=by
 rcases Jv l with h0|⟨a,b,h0⟩
 .rw[h0] at h;simp at h
 .rw[Jy] at h0;subst h0;exact⟨a,b,rfl,by simpa using h⟩
theorem XA (l:List Nd) (k:Nat) (hk:k<J l) (c:Ez):(l.take (k+1)).foldl Ez.step c=((l.take k).foldl Ez.step c).step l[k]:=by
 exact mbr
structure Alz (c:Ez) (k:Nat):Prop where
 b0:0<=c.blocks
 b1:c.blocks<=64*k
 o0:0<=c.An
 o1:c.An<=64*k
 m0:0<=c.BE
 m1:c.BE<=64*k
theorem Zh {l:List Int} (hl:1<=J l) (h:∀x,x∈l->0<=x/\x<=64):0<=(l.getLast?).getD 0/\(l.getLast?).getD 0<=64:=by
 rcases Jv l with h0|⟨a,b,h0⟩
 .rw[h0] at hl;simp at hl
 .rw[h0,Jy];simp only[Qj,NE,QJ,Qr];exact h b (by rw[h0];simp)
theorem AmK {l:List Nd} (h:Mf .Dr l) (k:Nat) (hk:k<=J l):Alz ((l.take k).foldl Ez.step .Dr) k:=by
 induction k with
 |zero=>exact⟨by simp[Ez.Dr],by simp[Ez.Dr],by simp[Ez.Dr],by simp[Ez.Dr],by simp[Ez.Dr],by simp[Ez.Dr]⟩
 |succ k ih=>
  have hc:=P0 h k;have ih:=ih Y;rw[XA l k Y];generalize (l.take k).foldl Ez.step .Dr=c at*;obtain⟨a1,a2,a3,a4,a5,a6⟩:=ih;have h1:=Zh hc.l1 hc.ob;have h2:=Zh (by rw[<-hc.ll];exact hc.l1) hc.ib;unfold Ez.step;simp only[];split
  .exact ma1
  .split
   .exact ma1
   .split
    .refine⟨?_,?_,?_,?_,a5,?_⟩<;>simp only[]<;>omega
    .split
     .exact ma1
     .split
      .split
       .refine⟨a1,?_,?_,?_,?_,?_⟩<;>simp only[]<;>first|omega|(split<;>omega)
       .exact⟨a1,Y,a3,Y,a5,Y⟩
      .exact⟨a1,Y,a3,Y,a5,Y⟩
theorem l8 (l:List Nd) (v:Value) (w:World) (h:w.ownsRow 0 110 14 v (J l) (Bk l)) (hP:Mf .Dr l) (hn:J l<=1000):
  Calls prog 38 #[v] w (AiX l w):=by
 obtain⟨j0,hj,Lc,Lb,Mm⟩:=info_parts NZ;have Aks:∃p cap,v= m9 p (J l) cap:=by
  obtain⟨_,⟨rfl,h0⟩|⟨g,cap,Ic,rfl,_⟩⟩:=h
  .rw[h0];exact⟨Z,0,rfl⟩
  .exact⟨_,_,rfl⟩
 obtain⟨p,cap,rfl⟩:=Aks;have H:=D h;have HP:=D hP;clear h hP;go_enter func38,ntmps38;go_wp2;have a1:=Ai.new (Aq.nil w) (qG #[iI 1] 3);have a2:=a1.trans (uj (n:=1) rfl (by unfold maxLen;omega) (by simp[Value.oneCell']) a1.Ak);have a3:=a2.trans (Ai.new a2.Ak (qG #[iI 1] 3));have a4:=a3.trans (uj (L:=[_]) (n:=1) rfl (by unfold maxLen;omega) (by simp[Value.oneCell']) a3.Ak);have S:=D a4;clear a1 a2 a3 a4;go_loopw [4,5,6,7,8,9,10] (λa b c o i z k wr=>∃n ob oc ib ic m:Nat,k= iI n/\n<=J l/\a= iI (Fh l n).blocks/\b= iI (Fh l n).An/\c= iI (Fh l n).BE/\z= qB (Fh l n).Ff/\o= m9 (U ⟨ob,0,Z⟩) m oc/\i= m9 (U ⟨ib,0,Z⟩) m ic/\Ank w l n ob oc ib ic m wr) (λ_ _ _ _ _ _ k _=>J l-(intOf k).toNat);case atStart=>exact⟨0,_,_,_,_,1,rfl,Jr _,rfl,rfl,rfl,rfl,rfl,rfl,⟨rfl,rfl,by have s:=S.out;rw[Zz] at s;exact s⟩⟩
 case round=>
  clear S;obtain⟨n,ob,oc,ib,ic,m,rfl,hnl,rfl,rfl,rfl,rfl,rfl,rfl,hI⟩:=hrel;by_cases hlt:(n:Int)<(J l:Int)
  .have C4:n<J l:=Y
   have hb:CB (Fh l n):=P0 HP n;have AcA:Alz (Fh l n) n:=AmK HP n hnl;have pD:=ru l n C4;have VI:CB (Fh l (n+1)):=P0 HP (n+1);have hn4:=Aa2 HP n C4;obtain⟨Ro,hil,Aw⟩:=hI;rw[pD] at VI;have XI:=D pD;clear pD;generalize Fh l n=C at hb AcA VI XI Ro hil Aw⊢;obtain⟨blocks,An,BE,CV,BY,Ff⟩:=C;obtain⟨m,rfl⟩:∃k,m=k+1:=⟨m-1,by have:=hb.l1;simp only at this Ro;omega⟩;obtain⟨os,o,ho,hos⟩:=su Ro;obtain⟨is_,ii,hi,his⟩:=su hil;simp only at ho hi;subst ho;subst hi;have gW:m<=3:=by have:=hb.l4;simp only[GT,JN] at this;omega
   have tz:=hb.ob o EQ;have hib:=hb.ib ii EQ;obtain⟨g1,g2,g3,g4,g5,g6⟩:=AcA;simp only at g1 g2 g3 g4 g5 g6;obtain⟨nb,ncap,hv,_,nlt,ncp,ncm,ncell,nfree⟩:=Av H Y;have Nj:=Aw.mod;have EG:∀j,j<14->wr.cell? ⟨nb,n*14+j,Z⟩=(Nd.cells l[n])[j]?:=λj hj=>by
    have pF:n*14+j<(Bk l).length:=by rw[DZ];omega
    have:=AK Nj (ncell _ pF);rw[this,<-Ja pF,Ir l n j C4 hj,Je,Ja C4];rfl
   have k0:wr.cell? ⟨nb,n*14,Z⟩=U (.int .u8 l[n].kind):=EG 0 Y;have k12:wr.cell? ⟨nb,n*14+12,Z⟩=U (iI l[n].n):=EG 12 Y;have HN:=D (show∀W,Az (Et []) w W->W.cell? ⟨nb,n*14+12,Z⟩=U (iI l[n].n) from λW hm=>by
     have pF:n*14+12<(Bk l).length:=by rw[DZ];omega
     have:=AK hm (ncell _ pF);rw[this,<-Ja pF,Ir l n 12 C4 Y,Je,Ja C4];rfl)
   obtain⟨oc1,of1,ol1⟩:=A4 (Aw.Ak.row (i:=0) rfl);obtain⟨ic1,if1,il1⟩:=A4 (Aw.Ak.row (i:=1) rfl);have c0:wr.cell? ⟨ob,m,Z⟩=U (iI o):=by rw[oc1 m (by simp[CD,hos])];simp[CD,hos]
   have c1:wr.cell? ⟨ib,m,Z⟩=U (iI ii):=by rw[ic1 m (by simp[CD,his])];simp[CD,his]
   have cf:=if1 m;have ocap:m+1<=oc/\oc<=maxLen:=by
    obtain⟨_,⟨h1,_⟩|⟨_,_,_,h1,_,_,h3,h4,_⟩⟩:=Aw.Ak.row (i:=0) rfl
    .cases h1
    .cases h1;exact⟨h3,h4⟩
   have icap:m+1<=ic/\ic<=maxLen:=by
    obtain⟨_,⟨h1,_⟩|⟨_,_,_,h1,_,_,h3,h4,_⟩⟩:=Aw.Ak.row (i:=1) rfl
    .cases h1
    .cases h1;exact⟨h3,h4⟩
   have nlt':=JR nlt Nj.size;have lg:=hv;cases lg;have S:=D Aw;have Hb:=D hb;have Hb2:=D VI;have Hos:=D hos;have uA:=D his;clear hv Aw hb VI hos his Ro hil EG ncell nfree oc1 ic1 of1 if1 Nj hnl;obtain⟨x,hx⟩:∃x,x=l[n]:=⟨_,rfl⟩;rw[<-hx] at hn4 k0 k12 XI Hb2 HN;clear hx;obtain⟨o1,o2⟩:=ocap;obtain⟨i1,i2⟩:=icap;obtain⟨Aka,Aj9⟩:=tz;obtain⟨Ams,Amr⟩:=hib;unfold maxLen at o2 i2;have Dg:(m:Int)+1-1=m:=Y
   have hn9:n<=2000:=Y
   have Zt:0<=(m:Int):=JG _;have yP:m<(m:Int)+1:=Y
   have AnK:0<=(n:Int):=JG _;have hm8:m+1+1<=maxLen:=by unfold maxLen;omega
   have hm9:(m+1+1)*8<=140737488355328:=Y
   replace g2:blocks<=100000:=Y
   replace g4:An<=100000:=Y
   replace g6:BE<=100000:=Y
   replace hn4:=D hn4;by_cases q1:x.kind=108
   .have t1:((x.kind:Int)==108)=V:=kt q1 rfl;have Q:=D q1;clear q1;obtain⟨n1,n2⟩:=hn4.out Q.out;cases Ff with
    |false=>
     have hx1:=IntWalk.i64_in _ (oG Aka Aj9 n1 n2);go_upto_region 13 with fail
     refine AO (l:=sq [11,12] 0 13) (λW=>W.cell? ⟨ob,m,Z⟩=U (iI o)/\W.cell? ⟨nb,n*14,Z⟩=U (.int .u8 x.kind)/\W.cell? ⟨nb,n*14+12,Z⟩=U (iI x.n)) 12 ?_ ?_
     .exact⟨c0,k0,k12⟩
     refine Fg ?_;clear hx1;refine A7 rfl (λK hK=>?_);go_simp;refine hK _ _ (λ_=>⟨(Jz _ _ _ ol1).trans c0,(Jz _ _ _ nlt').trans k0,(Jz _ _ _ nlt').trans k12⟩) ?_;clear hK;refine A7 rfl (λK hK=>?_);refine BV 8 _ _ _ j0 _ #[iI (o*x.n)] _ (S.Ak) (k:=0) rfl Eq Eq underlying29 hj Lc Lb Mm rfl Y Eq Eq rfl (by simp[Value.oneCell']) hm8 hm9 ?_;intro ob6 oc6 w6 st6 _;refine hK _ _ (λh=>Jk h Do) ?_;clear hK;refine A7 rfl (λK hK=>?_);go_simp;refine hK _ _ (λh=>Jk h Do) ?_;clear hK;simp only[Cr];have st7:Ai w [] w6 [U8 ob6 (m+1+1) oc6 (os++[o]++[o*x.n]),U8 ib (m+1) ic (is_++[ii])]:=by
      have:=S.trans st6;simpa[U8,CD] using this
     have S7:=D st7;clear st6 st7 S c0 c1 k0 k12 cf ol1 il1;go_wp2_with (first|(at_builtin;refine Bm 8 _ _ _ j0 _ #[iI 1] _ (S7.Ak) (k:=1) rfl Eq Eq underlying29 hj Lc Lb Mm rfl Y Eq Eq rfl (by simp[Value.oneCell']) hm8 hm9 ?_;intro ib8 ic8 w8 st8 _));go_roundw;case rel=>
      have hk:Fh l (n+1)=⟨blocks,An,BE,os++[o]++[o*x.n],is_++[ii]++[1],I⟩:=by rw[XI.out,iE Q.out];simp
      have s8:Ai w [] w8 [U8 ob6 (m+1+1) oc6 (os++[o]++[o*x.n]),U8 ib8 (m+1+1) ic8 (is_++[ii]++[1])]:=by
       have:=(S7).trans st8;simpa[U8,CD] using this
      exact maX
     case measure=>exact UX C4
    |true=>
     have hx1:=IntWalk.i64_in _ (oG Aka Aj9 n1 n2);go_upto_region 13 with fail
     refine AO (l:=sq [11,12] 0 13) (λW=>W.cell? ⟨ob,m,Z⟩=U (iI o)/\W.cell? ⟨nb,n*14,Z⟩=U (.int .u8 x.kind)/\W.cell? ⟨nb,n*14+12,Z⟩=U (iI x.n)) 12 ?_ ?_
     .exact⟨c0,k0,k12⟩
     refine Fg ?_;clear hx1;refine A7 rfl (λK hK=>?_);go_simp;refine hK _ _ (λ_=>⟨(Jz _ _ _ ol1).trans c0,(Jz _ _ _ nlt').trans k0,(Jz _ _ _ nlt').trans k12⟩) ?_;clear hK;refine A7 rfl (λK hK=>?_);refine BV 8 _ _ _ j0 _ #[iI (o*x.n)] _ (S.Ak) (k:=0) rfl Eq Eq underlying29 hj Lc Lb Mm rfl Y Eq Eq rfl (by simp[Value.oneCell']) hm8 hm9 ?_;intro ob6 oc6 w6 st6 _;refine hK _ _ (λh=>Jk h Do) ?_;clear hK;refine A7 rfl (λK hK=>?_);go_simp;refine hK _ _ (λh=>Jk h Do) ?_;clear hK;simp only[Cr];have st7:Ai w [] w6 [U8 ob6 (m+1+1) oc6 (os++[o]++[o*x.n]),U8 ib (m+1) ic (is_++[ii])]:=by
      have:=S.trans st6;simpa[U8,CD] using this
     obtain⟨ic7,if7,il7⟩:=A4 (st7.Ak.row (i:=1) rfl);have c17:w6.cell? ⟨ib,m,Z⟩=U (iI ii):=by rw[ic7 m (by simp[CD,uA.out])];simp[CD,uA.out]
     have k127:=HN.out w6 st7.mod;have S7:=D st7;clear st6 st7 S c0 c1 k0 k12 cf ol1 il1;have hx2:=IntWalk.i64_in _ (oG Ams Amr n1 n2);go_upto_region 16 with fail
     refine AO (l:=sq [] 0 10) (λW=>W.cell? ⟨ib,m,Z⟩=U (iI ii)/\W.cell? ⟨nb,n*14+12,Z⟩=U (iI x.n)) 10 ?_ ?_
     .exact⟨c17,k127⟩
     refine Fg ?_;clear hx2;refine A7 rfl (λK hK=>?_);go_simp;refine hK _ _ (λh=>Jk h Do) ?_;clear hK;simp only[Cr];go_wp2_with (first|(at_builtin;refine Bm 8 _ _ _ j0 _ #[iI (ii*x.n)] _ ((Ai.drew S7.Ak).Ak) (k:=1) rfl Eq Eq underlying29 hj Lc Lb Mm rfl Y Eq Eq rfl (by simp[Value.oneCell']) hm8 hm9 ?_;intro ib8 ic8 w8 st8 _));go_roundw;case rel=>
      have hk:Fh l (n+1)=⟨blocks,An,BE,os++[o]++[o*x.n],is_++[ii]++[(ii*x.n)],V⟩:=by rw[XI.out,iE Q.out];simp
      have s8:Ai w [] w8 [U8 ob6 (m+1+1) oc6 (os++[o]++[o*x.n]),U8 ib8 (m+1+1) ic8 (is_++[ii]++[(ii*x.n)])]:=by
       have:=(S7.trans (Ai.drew S7.Ak)).trans st8;simpa[U8,CD] using this
      exact maX
     case measure=>exact UX C4
   .have t1:((x.kind:Int)==108)=I:=kf q1 rfl;by_cases q2:x.kind=98
    .have t2:((x.kind:Int)==98)=V:=kt q2 rfl;have Q:=D q2;clear q1 q2;go_wp2;go_roundw;case rel=>
      have hk:Fh l (n+1)=⟨blocks,An,BE,os,is_,Ff⟩:=by rw[XI.out,Ad4 Q.out];simp
      have s1:=S.Ak.take (i:=0) rfl m (JI m);have s2:=s1.Ak.take (i:=1) rfl m (JI m);have e1:(CD (os++[o])).take (m*1)=CD os:=by rw[<-Hos.out];simp[CD]
      have e2:(CD (is_++[ii])).take (m*1)=CD is_:=by rw[<-uA.out];simp[CD]
      have s3:=S.trans (s1.trans s2);rw[e1,e2] at s3;refine⟨n+1,ob,oc,ib,ic,m,?_,C4,?_,?_,?_,?_,rfl,rfl,⟨?_,?_,?_⟩⟩
      .rfl
      .rw[hk]
      .rw[hk]
      .rw[hk]
      .rw[hk]
      .rw[hk];exact Hos.out
      .rw[hk];exact uA.out
      .rw[hk];exact s3
     case measure=>exact UX C4
    .have t2:((x.kind:Int)==98)=I:=kf q2 rfl;by_cases q3:x.kind=40
     .have t3:((x.kind:Int)==40)=V:=kt q3 rfl;have Q:=D q3;clear q1 q2 q3;go_wp2;go_roundw;case rel=>
       have hk:Fh l (n+1)=⟨blocks+o,0,BE,os++[o],is_++[1],V⟩:=by rw[XI.out,Ad6 Q.out];simp
       have s1:=S.Ak.ET (i:=1) rfl m (by simp[CD,uA.out]) (iI 1);have e2:(CD (is_++[ii])).set m (iI 1)=CD (is_++[1]):=by rw[<-uA.out];simp[CD]
       have s3:=S.trans s1;rw[e2] at s3;refine⟨n+1,ob,oc,ib,ic,m+1,?_,C4,?_,?_,?_,?_,rfl,rfl,⟨?_,?_,?_⟩⟩
       .rfl
       .rw[hk]
       .rw[hk]
       .rw[hk]
       .rw[hk]
       .rw[hk];simp[Hos.out]
       .rw[hk];simp[uA.out]
       .rw[hk];exact s3
      case measure=>exact UX C4
     .have t3:((x.kind:Int)==40)=I:=kf q3 rfl;by_cases q4:x.kind=41
      .have t4:((x.kind:Int)==41)=V:=kt q4 rfl;have Q:=D q4;clear q1 q2 q3 q4;go_wp2;go_roundw;case rel=>
        have hk:Fh l (n+1)=⟨blocks,An,BE,os++[o],is_++[ii],I⟩:=by rw[XI.out,Ad5 Q.out]
        exact maq
       case measure=>exact UX C4
      .have t4:((x.kind:Int)==41)=I:=kf q4 rfl;by_cases q5:x.kind=111
       .have t5:((x.kind:Int)==111)=V:=kt q5 rfl;have Q:=D q5;clear q1 q2 q3 q4 q5;cases Ff with
        |false=>
         go_wp2;go_roundw;case rel=>
          have hk:Fh l (n+1)=⟨blocks,An,BE,os++[o],is_++[ii],I⟩:=by rw[XI.out,Yt Q.out];simp
          exact maq
         case measure=>exact UX C4
        |true=>
         by_cases hgt:BE<An+ii
         .have Hgt:=D hgt;go_wp2;go_roundw;case rel=>
           have hk:Fh l (n+1)=⟨blocks,An+ii,An+ii,os++[o],is_++[ii],V⟩:=by rw[XI.out,Yt Q.out];simp[Hgt.out]
           exact maq
          case measure=>exact UX C4
         .have Hgt:=D hgt;go_wp2;go_roundw;case rel=>
           have hk:Fh l (n+1)=⟨blocks,An+ii,BE,os++[o],is_++[ii],V⟩:=by rw[XI.out,Yt Q.out];simp[Hgt.out]
           exact maq
          case measure=>exact UX C4
       .have t5:((x.kind:Int)==111)=I:=kf q5 rfl;have Q:=D (Ad3 (c:=⟨blocks,An,BE,os++[o],is_++[ii],Ff⟩) q1 q2 q3 q4 q5);clear q1 q2 q3 q4 q5;go_wp2;go_roundw;case rel=>
         have hk:Fh l (n+1)=⟨blocks,An,BE,os++[o],is_++[ii],Ff⟩:=by rw[XI.out,Q.out]
         exact maq
        case measure=>exact UX C4
  .have Amg:n=J l:=Y
   subst Amg;have hS:=D hI.st;clear hI;go_wp2;go_ret2;refine⟨?_,hS.mod⟩;have e:Fh l (J l)=l.foldl Ez.step .Dr:=by unfold Fh;rw[J2]
   rw[e];rfl
theorem AaG (l:Ws) (lw:Value) (w:World) (g:RG) (R:RS) (n:Nat) (h:Aq w (g.Ay R)) (hL:C9 g R) (hG:Lu R n)
  (hw:Sl w (λb=>b∉Et (g.Ay R)) lw (Bq l)) (hs:∀a,a∈l->a.size<=maxLen) (hne:l≠[]) (N6:Bv l=V):
  Calls prog 37 #[iJ g.rb,lw] w (Fs (R.row l) g R w):=by
 have hS:0<=R.Ah/\R.Ah<=1000:=⟨hG.s0,by have:=hG.s1;omega⟩;by_cases h1:bs (wd l 0)=AR
 .exact iS l lw w g R n h hL hG.inv hw hs hne N6 h1
 by_cases h2:bs (wd l 0)=AE
 .by_cases ho:R.Ad=[]
  .exact fk l lw w g R n h hL hG.inv hw hne N6 h2 ho
  .exact fq l lw w g R n h hG.inv hG.sL hw hne h2 ho
 by_cases h3:bs (wd l 0)=EK
 .exact AaF l lw w g R n h hL hG.inv hG.sL hw hne h3
 cases hi:R.BB with
 |true=>exact YD l lw w g R n h hL hG.inv hG.sL hS hw hs hne N6 h1 h2 h3 hi
 |false=>exact Xn l lw w g R n h hL hG.inv hG.sL hS hw hs hne N6 h1 h2 h3 hi
def RG.AkV (g:RG) (R:RS) (m:Bool):Ob:=.Ao g.rb #[iJ g.pb,m9 g.s.p (J R.Ax) g.s.c,m9 g.f.p (J R.first) g.f.c,m9 g.z.p (J R.size) g.z.c,m9 g.l.p (J R.AA) g.l.c,m9 g.o.p (J R.Ad) g.o.c,iI R.Ah,qB m,iI 0] 94
def RG.rest (g:RG) (R:RS):List Ob:=(g.Ay R).tail
def Ak7 (res:Except (Int×Nat) RP) (w:World) (e:Ending) (w':World):Prop:=match res with
 |.error c=>e= qF (qC #[qE Z,iI c.1,iI c.2])/\Az [] w w'
 |.ok p=>∃(g:RG) (R:RS),R.p=p/\C9 g R/\e= qF (qC #[iJ g.pb,iI 0,iI 0])/\Ai w [] w' (g.rest R)
structure RI (w0:World) (s:By) (k:Nat) (g:RG) (R:RS) (x:qH) (wr:World):Prop where
 st:Ai w0 [] wr (g.Ay R)
 len:C9 g R
 go:Lu R k
 sim:Ms x R
 fw:FW x
 fn:FN x
 eq:FL s=Nb ((AD 10 s).drop k) k R
theorem RI.new {x:qH} (h:RI w0 s k g R x wr):∀b,b∈Et (g.Ay R)->w0.heap.size<=b:=λb hb=>by
 rcases h.st.fp b hb with h1|h1
 .simp[Et] at h1
 .exact h1
theorem RI.mod {x:qH} (h:RI w0 s k g R x wr):Az [] w0 wr:=h.st.mod.mono λx hx=>by simp[Et] at hx
theorem RI.quiet {x:qH} (h:RI w0 s k g R x wr) (hm:Az [] wr W):RI w0 s k g R x W:={h with st:=h.st.trans (Ai.quiet h.st.Ak hm)}
theorem RI.next {x:qH} (h:RI w0 s k g R x wr) {R':RS} {p q:By} {r:List By} (hd:(AD 10 s).drop k=p::q::r) (hl:Bv (Bt p)=V) (hr:R.row (Bt p)=.ok R') (hk:k+1<=2500)
  {g':RG} (hL:C9 g' R') (st:Ai wr (g.Ay R) W (g'.Ay R')):∃y,RI w0 s (k+1) g' R' y W:=by
 obtain⟨w,l,tj⟩:∃w l,Bt p=w::l:=by
  unfold Bt;cases hs:AD 32 p with
  |nil=>exact Jk hs (Cc _ _)
  |cons a b=>exact⟨_,_,rfl⟩
 have hne:Bt p≠[]:=by rw[tj];simp
 have hG:=h.go.row hk hl hne hr;have hs:=sD h.sim w l (by rw[<-tj];exact hl);rw[<-tj,hr] at hs;unfold Vz at hs;cases hx:x.row (Bt p) with
 |error c=>rw[hx] at hs;exact hs.elim
 |ok y=>
  rw[hx] at hs;obtain⟨o1,o2⟩:=qH.oq h.fw h.fn hx;have tG:(AD 10 s).drop (k+1)=q::r:=by
   have:=JM List.tail hd;rwa[d8] at this
  refine⟨y,h.st.trans st,hL,hG,hs,o1,o2,?_⟩;rw[h.eq,hd,tG];show(if _ then _ else _)=_;rw[Jb hl,hr]
theorem RI.AlL {x:qH} (h:RI w0 s k g R x wr) (ho:R.Ad=[]):∀t,t∈R.p.Aa->Mf .Dr t/\J t<=1000:=by
 have nf:=Jm (by rw[<-NM h.sim,ho];rfl);obtain⟨_,e⟩:=kT h.sim h.fw nf;intro t ht;rw[e] at ht;obtain⟨u,hu,rfl⟩:=Qf.1 ht;refine⟨Ael (h.fw.th u hu),?_⟩;rw[CX];have h1:=h.fn.all u hu;have h2:(Di u)<=2*IE u:=by
  clear h1 hu ht;induction u<;>simp only[Di,IE]<;>omega
 omega
def bA (t:List Nd):Bool:=decide (3<(Ie t).1) || decide (8<(Ie t).2)
theorem Ajd {g:List SG} {l:List (List Nd)} (hl:J g=J l) {j:Nat} (hj:j<J l):∃a,g[j]?=U a/\(BF g l)[j]?=U (.slice a.p l[j].length a.c)/\(List.zipWith CK g l)[j]?=U (CK a l[j]):=by
 have hj':j<J g:=Y
 refine⟨g[j],by simp[hj'],?_,?_⟩
 .simp[BF,jA,hj',hj]
 .simp[jA,hj',hj]
theorem AaR (hL:C9 g R) {j:Nat} (hj:j<J R.p.Aa) (m:Bool):∃a,(BF g.cv R.p.Aa)[j]?=U (.slice a.p R.p.Aa[j].length a.c)/\(g.AkV R m::g.rest R)[10+j]?=U (CK a R.p.Aa[j]):=by
 obtain⟨a,_,h2,h3⟩:=Ajd hL.cl hj;refine⟨a,h2,?_⟩;show([_,_,_,_,_,_,_,_,_,_]++(List.zipWith CK g.cv R.p.Aa++List.zipWith Cq g.dv R.p.Ap))[10+j]?=_;rw[JY EQ];simp only[Jg,Jw];rw[show 10+j-(0+1+1+1+1+1+1+1+1+1+1)=j by omega,J5 (by simp[hL.cl,hj]),h3]
theorem ou {w1:World} (hl:¬2000<J s):∃g,g.rb=w1.heap.size+1/\g.pb=w1.heap.size/\RI w1 s 0 g .Dr .Dr
  ((w1.alloc (qG #[m9 Z 0 0,iI 0,m9 Z 0 0,m9 Z 0 0] 53)).alloc (qG #[iJ w1.heap.size,m9 Z 0 0,m9 Z 0 0,m9 Z 0 0,m9 Z 0 0,m9 Z 0 0,iI 0,qB I,iI 0] 94)):=by
 have a1:=Ai.new (Aq.nil w1) (qG #[m9 Z 0 0,iI 0,m9 Z 0 0,m9 Z 0 0] 53);have a2:=a1.trans (Ai.NP a1.Ak (qG #[iJ w1.heap.size,m9 Z 0 0,m9 Z 0 0,m9 Z 0 0,m9 Z 0 0,m9 Z 0 0,iI 0,qB I,iI 0] 94));rw[Zz] at a2;have nl:∀{L:List Ob} {w:World} {e:TypeId} {n:Nat},Ai w1 [] w L->Ai w1 [] w (L++[.row (m9 Z 0 0) e n 0 []]):=λ{L w e n} h=>by
  have t:=Ai.H9 (A:=L) (B:=[]) (by rw[Jo];exact h.Ak) e n;rw[Jo] at t;exact h.trans t
 have a3:=nl (e:=9) (n:=1) a2;have a4:=nl (e:=3) (n:=1) a3;have a5:=nl (e:=3) (n:=1) a4;have a6:=nl (e:=9) (n:=1) a5;have a7:=nl (e:=3) (n:=1) a6;have a8:=nl (e:=72) (n:=1) a7;have a9:=nl (e:=51) (n:=1) a8;have a10:=nl (e:=4) (n:=1) a9;refine⟨⟨w1.heap.size+1,w1.heap.size,⟨Z,0⟩,⟨Z,0⟩,⟨Z,0⟩,⟨Z,0⟩,⟨Z,0⟩,⟨Z,0⟩,⟨Z,0⟩,⟨Z,0⟩,[],[]⟩,rfl,rfl,a10,⟨rfl,rfl,rfl,rfl,rfl,rfl,by simp[RS.Dr]⟩,.Dr,.Dr,.Dr,.Dr,?_⟩;unfold FL;rw[In hl];rfl
theorem iT {l:Ws} {c:Int} (h:R.row l=.error c):((c:Int) !=0)=V:=by
 rw[bne_iff_ne];unfold RS.row at h;simp only[] at h;split at h
 .unfold RS.Ec at h;split at h
  .cases h;decide
  .exact mbB
 split at h
 .exact mbB
 split at h
 .unfold RS.Px at h;exact mbB
 split at h
 .cases h;decide
 split at h
 .rename_i hn;cases h;rcases YZ hn with rfl|rfl<;>decide
 .split at h
  .cases h;decide
  .split at h
   .exact mbB
   .cases h
theorem cy (s:ByteArray) (w:World) (hs:s.size<=1000000):
  Calls prog 23 #[qA s] w (Ak7 (FL (bs s)) w):=by
 by_cases hl:2000<s.size
 .have tC:(2000:Int)<(s.size:Int):=Y
  have Hr:=D (show FL (bs s)=.error (1,0) by unfold FL;rw[Jb (by rw[Br];exact hl)]);clear hl;go_enter func23,ntmps23;go_wp2;go_ret3;rw[Hr.out];exact⟨rfl,Az.refl _ _⟩
 have tC:¬(2000:Int)<(s.size:Int):=Y
 have Hl:=D (show¬2000<(bs s).length by rw[Br];exact hl);go_enter func23,ntmps23;go_wp2_with fail;refine(Vo s 10 _ hs).mono ?_;intro e w1 he;obtain⟨v,l,Fx,Dg,Cp,aY⟩:=he;obtain⟨ini,pl,hP⟩:∃ini pl,AD 10 (bs s)=ini++[pl]:=by
  exact mbc
 obtain⟨k0,Rr⟩:∃k,k=J ini:=⟨_,rfl⟩;have hle:l=(ini++[pl]).map AU:=by rw[<-hP];exact Uo aY
 have hlen:J l=k0+1:=by rw[hle,Rr];simp
 have ax:k0<=2001:=by
  have:=GO 10 _ (bs s) (Jf _);have h3:=Lib.count_le (bs s) [10];rw[Br] at h3;rw[hP] at this;simp at this;omega
 obtain⟨lb,lcap,hv,_,llt,lcp,lcm,lcel,lfr⟩:=Av Cp Y;rw[hlen] at hv;subst Fx;subst hv;have Ang:=D lcel;have HP:=D hP;have HK:=D Rr;have HLE:=D hle;have Nt:=D Dg;clear Cp aY hP Rr hle hlen Dg lcel lfr lcp lcm llt tC hl;have hw:True->wrap64 (k0:Int)=k0:=λ_=>IntWalk.wrap64_in _ Y
 go_wp2;go_loopw [8,9] (λn i wr=>∃k:Nat,n= iI k/\i= iI k/\k<=k0/\∃g R x,g.rb=w1.heap.size+1/\RI w1 (bs s) k g R x wr) (λ_ i _=>k0+1-(intOf i).toNat);case atStart=>
  obtain⟨g,h1,_,h3⟩:=ou (w1:=w1) Hl.out;exact⟨0,rfl,rfl,Jr _,g,_,_,h1,h3⟩
 case round=>
  clear hw;obtain⟨k,rfl,rfl,hk,g,R,x,lq,hI⟩:=hrel;rw[<-lq];have Hrb:=D lq;have HI:=D hI;have Kf:(k:Int)<(k0:Int)+1:=Y
  have Aib:(0:Int)<=(k:Int):=Y
  have Pu:True->wrap64 ((k:Int)+1)=k+1:=λ_=>IntWalk.wrap64_in _ Y
  have hkP:k<(ini++[pl]).length:=by rw[GT,<-HK.out];simp;omega
  obtain⟨p,hp⟩:∃p,p=(ini++[pl])[k]:=⟨_,rfl⟩;have hpm:p∈AD 10 (bs s):=by rw[HP.out,hp];exact JP hkP
  have hpl:=OD 10 (bs s) p hpm;rw[Br] at hpl;have r0:wr.cell? ⟨lb,k,Z⟩=U (qA (AU p)):=by
   refine AK hI.mod (Oh Ang ?_);rw[HLE.out];simp only[Bq,jM];rw[JS,Ja hkP,<-hp];rfl
  have hd:(AD 10 (bs s)).drop k=p::(ini++[pl]).drop (k+1):=by rw[HP.out,hp,JO hkP]
  have Wa:(AU p).size<=1000000:=by rw[<-Br,Dk];omega
  have yG:=D (Vo (AU p) 32 wr Wa);have Hd:=D hd;have Hp:=D hp;have HPL:=D hpl;clear hI lq hd hp hpm hpl Wa;obtain⟨br,hbr⟩:∃b,b=decide (k=k0/\pl=[]/\0<k):=⟨_,rfl⟩;have HBR:=D hbr;clear hbr;go_upto_region 10 with fail
  go_cut [47] from 28 to 73 (λq w'=>w'=wr/\q= qB br)
  case first=>
   by_cases GJ:k=k0
   .have Zp:((k:Int)==(k0:Int))=V:=by rw[GJ];simp
    have na:p=pl:=by rw[Hp.out];simp[GJ,HK.out]
    by_cases hpl:pl=[]
    .have r0':wr.cell? ⟨lb,k,Z⟩=U (qA ⟨#[]⟩):=by rw[r0,na,hpl];rfl
     by_cases h0:0<k
     .have hb4:(0:Int)<(k:Int):=Y
      exact mba
     .have hb4:¬(0:Int)<(k:Int):=Y
      exact mba
    .have he:¬(AU p).toList=[]:=by rw[ByteArray.toList_eq,na];exact hpl
     have he2:(AU p).toList.isEmpty=I:=by rw[<-jU,List.isEmpty_iff];exact he
     have Hq:=D (show qB I= qB br by rw[HBR.out];simp[hpl]);clear GJ na hpl;go_wp2
     go_meet
     exact⟨rfl,Hq⟩
   .have Zp:((k:Int)==(k0:Int))=I:=by rw[Jh];omega
    have Hq:=D (show qB I= qB br by rw[HBR.out];simp[GJ]);clear GJ;go_wp2
    go_meet
    exact⟨rfl,Hq⟩
  case rest=>
   obtain⟨Fu,hq⟩:=hcut;subst Fu;subst hq;cases br with
   |true=>
    have hb:=HBR.out;rw[eq_comm,JB] at hb;obtain⟨Is,VI,gY⟩:=hb;have na:p=[]:=by rw[Hp.out,<-VI];simp[Is,HK.out]
    have HQ:=D (show FL (bs s)=Ku k R by
      rw[HI.out.eq,Hd.out,na,Qa (by rw[GT,<-HK.out];simp;omega)];show(if _ then _ else _)=_;rw[Jb ⟨rfl,gY⟩])
    clear Is VI gY na r0 yG HBR;have hrf:=BL HI.st.Ak;have xn:J R.p.Aa<=2500:=by have:=HI.go.inv.bn;have:=HI.go.inv.nn;omega
    have Ro:J R.Ad<=3:=HI.go.ol;obtain⟨hrc,hrpc,hrf,hrpf,hlt,hpl,hne⟩:=hrf;by_cases ho:R.Ad=[];rotate_left
    .have Xr:0<J R.Ad:=JE.2 ho;have Vf:(0:Int)<(J R.Ad:Int):=Y
     have Hr:=D (show FL (bs s)=.error (3,k+1) by rw[HQ.out];unfold Ku;rw[Jb (.inl ho)]);clear ho hrf hrpf;go_wp2;go_ret3;rw[Hr.out];exact⟨rfl,Nt.Aj HI.mod⟩
    have Vf:J R.Ad=0:=by rw[ho];rfl
    rw[Vf] at hrc;by_cases ht:R.p.Aa=[]
    .have Hr:=D (show FL (bs s)=.error (3,k+1) by rw[HQ.out];unfold Ku;rw[Jb (.inr ht)]);rw[ht] at hrpc;simp only[Jw] at hrpc;clear ho Vf ht hrf hrpf;go_wp2;go_ret3;rw[Hr.out];exact⟨rfl,Nt.Aj HI.mod⟩
    have ht1:((J R.p.Aa:Int)==0)=I:=by rw[Jh];have:=JE.2 ht;omega
    have HO:=D ho;have HT:=D ht;have HQ2:=D (show FL (bs s)=if (R.p.Aa.any bA) || (decide (6<R.p.cells) || decide (3<J R.p.Aa)) then .error (5,0) else .ok R.p by
      rw[HQ.out];unfold Ku;rw[In (λh=>h.elim (λh=>h ho) ht)];rfl)
    clear ho Vf ht;go_wp2;go_loopw [13] (λj wx=>∃n:Nat,j= iI n/\n<=J R.p.Aa/\Ai w1 [] wx (g.AkV R ((R.p.Aa.take n).any bA)::g.rest R)) (λj _=>J R.p.Aa-(intOf j).toNat);case atStart=>exact⟨0,rfl,Jr _,HI.st⟩
    case round=>
     clear hrc hrpc hrf hrpf hlt hpl hne Pu Aib Kf;obtain⟨n,rfl,hn,st⟩:=hrel;have ST:=D st;have SF:=st.Ak.Ao (i:=0) rfl;have Zp:=st.Ak.Ao (i:=1) rfl;have hrc:=SF.cell;have hrf:=SF.free;have hlt:=SF.lt;have Tb:=Zp.cell;have hpl:=Zp.lt;have IN:(0:Int)<=(n:Int):=Y
     by_cases hnl:(n:Int)<(J R.p.Aa:Int)
     .have Afb:n<J R.p.Aa:=Y
      obtain⟨a,ha1,pO⟩:=AaR HI.len Afb ((R.p.Aa.take n).any bA);have EX:=st.Ak.row pO;obtain⟨hP,hL1⟩:=HI.AlL HO _ (JP Afb);have Hc:=D (l8 R.p.Aa[n] _ wr EX hP hL1);obtain⟨tb,tcap,Rf,_,tlt,_,_,tcel,tfr⟩:=Av (st.Ak.row (i:=7) rfl) Y;simp only[Value.slice.injEq] at Rf;obtain⟨htp,_,htc⟩:=Rf;rw[htp] at Tb;have t0:wr.cell? ⟨tb,n,Z⟩=U (.slice a.p R.p.Aa[n].length a.c):=Oh tcel ha1;have Xe:True->wrap64 ((n:Int)+1)=n+1:=λ_=>IntWalk.wrap64_in _ Y
      have pD:((R.p.Aa.take (n+1)).any bA)=((R.p.Aa.take n).any bA || bA R.p.Aa[n]):=by
       rw[JK Afb,j7];simp
      obtain⟨nd,EG⟩:∃z,z=R.p.Aa[n]:=⟨_,rfl⟩;rw[<-EG] at pD Hc t0;obtain⟨mb,Ps⟩:∃b,b=(R.p.Aa.take n).any bA:=⟨_,rfl⟩;rw[<-Ps] at pD ST hrc;have XI:=D pD;clear SF Zp ha1 pO EX hP hL1 htp htc tcel tfr pD Ps EG Afb st;go_wp2_with fail;refine Hc.mono ?_;intro e w5 he;obtain⟨Fx,hm⟩:=he;subst Fx;have ST5:=D (ST.trans (Ai.quiet ST.Ak hm));have SF:=ST5.Ak.Ao (i:=0) rfl;clear hrc hrf hlt Tb hpl t0 hm;have hrc:=SF.cell;have hrf:=SF.free;have hlt:=SF.lt;obtain⟨c1,ay⟩:∃z,z=(Ie nd).1:=⟨_,rfl⟩;obtain⟨c2,Wf⟩:∃z,z=(Ie nd).2:=⟨_,rfl⟩;have lH:bA nd=(decide (3<c1) || decide (8<c2)):=by unfold bA;rw[<-ay,<-Wf]
      rw[lH] at XI;rw[<-ay,<-Wf];clear lH;clear SF ay Wf Hc;cases mb with
      |true=>
       replace XI:=D (XI.trans (Bool.true_or _));exact maz
      |false=>
       by_cases h3:3<c1
       .replace XI:=D (XI.trans (show _=V by simp[h3]));exact maz
       .by_cases h8:8<c2
        .replace XI:=D (XI.trans (show _=V by simp[h8]));exact maz
        .replace XI:=D (XI.trans (jD _));go_wp2_with fail;go_roundw;case rel=>
          refine⟨n+1,by (try rw[Xe trivial]);rfl,Y,?_⟩;rw[XI.out];exact ST5.trans (ST5.Ak.set (i:=0) rfl 7 (qB (decide (3<c1) || decide (8<c2))))
         case measure=>(try rw[Xe trivial]);simp[intOf];omega
     .have hne:n=J R.p.Aa:=Y
      have HQ3:=HQ2.out;rw[hne,J2] at hrc ST;obtain⟨mb,Ps⟩:∃b,b=R.p.Aa.any bA:=⟨_,rfl⟩;rw[<-Ps] at hrc HQ3 ST;have y7:=D HQ3;clear SF Zp hne Ps st HQ3;cases mb with
      |true=>
       replace y7:=D (y7.trans (Jb (Bool.true_or _)));exact ma2
      |false=>
       by_cases h6:6<R.p.cells
       .replace y7:=D (y7.trans (Jb (by simp[h6])));exact ma2
       .by_cases h3:3<J R.p.Aa
        .have h3i:(3:Int)<(J R.p.Aa:Int):=Y
         replace y7:=D (y7.trans (Jb (by simp[h3])));exact ma2
        .have h3i:¬(3:Int)<(J R.p.Aa:Int):=Y
         replace y7:=D (y7.trans (In (by simp[h3,h6])));have HL:=D HI.len;go_wp2;go_ret3;rw[y7.out];exact⟨g,R,rfl,HL,rfl,(Ai.quiet (Aq.nil w) Nt).trans (ST.trans (Ai.Wl (A:=[]) ST.Ak))⟩
   |false=>
    have hb:=HBR.out;rw[eq_comm,decide_eq_false_iff_not] at hb;have HB:=D hb;clear hb HBR;go_wp2_with fail;refine yG.mono ?_;intro e w5 he;obtain⟨v5,l5,Fx,hm5,Agr,Ah6⟩:=he;have Akg:l5=Bt p:=by rw[Dk] at Ah6;exact Uo Ah6
    have Acd:=Sl.OK Agr;rw[Akg] at Acd;have Ah4:Bt p≠[]:=λh=>Cc 32 p (List.map_eq_nil_iff.1 h)
    have AhU:∀a,a∈Bt p->a.size<=maxLen:=λa ha=>by
     obtain⟨y,hy,rfl⟩:=Qf.1 ha;have:=OD 32 p y hy;have:=HPL.out;rw[<-Br,Dk];unfold maxLen;omega
    obtain⟨sp,sc,hv,_,_⟩:=Acd.L9;obtain⟨sn,hsn⟩:∃n,n=(Bq (Bt p)).length:=⟨_,rfl⟩;rw[<-hsn] at hv;subst Fx;subst hv;have AgI:=D (AbJ (Bt p) _ w5 _ Acd Ah4 AhU);have Am2:=D Acd;have Ana:=D Ah4;have Am0:=D AhU;have HI5:=D (HI.quiet hm5);have Hge:=D hm5.size;clear hsn Akg Acd Ah4 AhU hm5 Agr Ah6 r0 yG;go_wp2_with fail;refine AgI.mono ?_;intro e w6 he;obtain⟨Fx,yQ⟩:=he;subst Fx;have HI6:=D (HI5.quiet yQ);clear AgI;have Aj1:Sl w6 (λb=>b∉Et (g.Ay R)) (m9 sp sn sc) (Bq (Bt p)):=by
     refine(Am2.mono λb _ hb hf=>?_).mod yQ EQ;have h1:=HI.st.Ak.lt b hf;omega
    have Am1:=D Aj1;clear yQ Aj1;by_cases GJ:k=k0
    .have Zp:((k:Int)==(k0:Int))=V:=by rw[GJ];simp
     have hr:=D (show FL (bs s)=.error (2,k+1) by
       rw[HI.out.eq,Hd.out,Qa (by rw[GT,<-HK.out];simp;omega)];show(if _ then _ else _)=_;rw[In];rintro⟨h1,h2⟩;have na:p=pl:=by rw[Hp.out];simp[GJ,HK.out]
       exact HB.out ⟨GJ,by rw[<-na];exact h1,h2⟩)
     clear GJ;cases N6:Bv (Bt p) with
     |true=>
      exact mbn
     |false=>
      exact mbn
    .have Zp:((k:Int)==(k0:Int))=I:=by rw[Jh];omega
     obtain⟨q,r,hqr⟩:∃q r,(AD 10 (bs s)).drop k=p::q::r:=by
      rw[Hd.out];cases bh:(ini++[pl]).drop (k+1) with
      |nil=>have:=Q7.1 bh;rw[GT,<-HK.out] at this;simp at this;omega
      |cons q r=>exact⟨q,r,rfl⟩
     have Hqr:=D hqr;have heq:FL (bs s)=if Bv (Bt p) then match R.row (Bt p) with|.error c=> .error (c,k+1)|.ok r'=>Nb (q::r) (k+1) r' else .error (2,k+1):=by rw[HI.out.eq,hqr];rfl
     have Heq:=D heq;have AnW:k<k0:=Y
     clear hqr heq GJ;cases N6:Bv (Bt p) with
     |false=>
      have hr:=D (Heq.trans (by rw[N6]));exact mbn
     |true=>
      have Akh:=D N6;have yD:=D (AaG (Bt p) _ w6 g R k HI6.st.Ak HI6.len HI6.go Am1 Am0 Ana N6);clear N6;go_wp2_with fail;refine yD.mono ?_;intro e w7 he;clear yD;cases hr:R.row (Bt p) with
      |error c=>
       rw[hr] at he;obtain⟨Fx,hm⟩:=he;subst Fx;have hcn:=iT hr;have gU:=D (Heq.trans (by rw[Akh.out,hr]));have HM7:=D (Nt.Aj (HI6.mod.trans hm (λb hb=> .inr (HI6.new b hb))));clear hr hm;go_wp2;go_ret3;rw[gU.out];exact⟨rfl,HM7⟩
      |ok R'=>
       rw[hr] at he;obtain⟨Fx,g',Aj6,hL',st'⟩:=he;subst Fx;obtain⟨y,hN⟩:=HI6.next Hqr Akh hr Y hL' st';have HN:=D hN;have Am5:=D Aj6;clear hr hN hL' st' Aj6;go_wp2;go_roundw;case rel=>exact⟨k+1,by (try rw[Pu trivial]);rfl,by (try rw[Pu trivial]);rfl,Y,g',R',y,Am5,HN⟩
       case measure=>(try rw[Pu trivial]);simp[intOf]<;>omega
