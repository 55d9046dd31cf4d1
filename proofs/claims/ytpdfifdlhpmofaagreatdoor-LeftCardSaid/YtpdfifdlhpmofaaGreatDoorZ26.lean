/-
  Part 26 of the proof.
-/
import Derived.Test.YtpdfifdlhpmofaaGreatDoorZ24
import Derived.Test.YtpdfifdlhpmofaaGreatDoorZ25
import Derived.Test.YtpdfifdlhpmofaaGreatDoorZ19
set_option linter.unusedVariables false
set_option linter.unusedSimpArgs false
set_option maxHeartbeats 3200000
set_option maxRecDepth 100000
namespace Go.Proofs.YtpdfifdlhpmofaaGreatDoor
open Go.RowKit Tryz
open Go.Lib (hid)
theorem mau {p:Prop} (h:p:=by
 refine⟨n+1,ob,oc,ib,ic,m+1,?_,DJ,?_,?_,?_,?_,rfl,rfl,⟨?_,?_,?_⟩⟩
 ·rfl
 ·rw[hk]
 ·rw[hk]
 ·rw[hk]
 ·rw[hk]
 ·rw[hk];simp[wP.out]
 ·rw[hk];simp[fX.out]
 ·rw[hk];exact S.out):p:=h
theorem maD {p:Prop} (h:p:=by
 go_wp2_with fail;go_roundw;case rel=>
  refine⟨n+1,by (try rw[Uh trivial]);rfl,Y,?_⟩;rw[UW.out];exact ST5.trans (ST5.Am.set (i:=0) rfl 7 (.bool true))
 case measure=>(try rw[Uh trivial]);simp[intOf];omega):p:=h
theorem mbf {p:Prop} (h:p:=by
 refine⟨n+1,ob6,oc6,ib8,ic8,m+1+1,?_,DJ,?_,?_,?_,?_,rfl,rfl,⟨?_,?_,?_⟩⟩
 ·rfl
 ·rw[hk]
 ·rw[hk]
 ·rw[hk]
 ·rw[hk]
 ·rw[hk];simp[wP.out]
 ·rw[hk];simp[fX.out]
 ·rw[hk];exact s8):p:=h
theorem mbi {p:Prop} (h:p:=by
 exact⟨a1,by show c.blocks<=_;omega,a3,by show c.B7<=_;omega,a5,by show c.BH<=_;omega⟩):p:=h
theorem mbk {p:Prop} (h:p:=by
 go_wp2;go_ret3;rw[qA.out];exact⟨rfl,LD.Ad (ST.Bf.mono fun x hx=>by simp[D4] at hx)⟩):p:=h
theorem mbA {p:Prop} (h:p:=by
 have Hq:=hid (show Value.bool (decide (0 < k))= .bool br by rw[HBR.out];simp[Iu,Cq]);clear Iu fP Cq r0 h0;go_wp2
 go_meet
 exact⟨rfl,Hq⟩):p:=h
theorem mbP {p:Prop} (h:p:=by
 clear NH;go_wp2;go_ret3;rw[hr.out];exact⟨rfl,LD.Ad HI6.Bf⟩):p:=h
theorem mb7 {p:Prop} (h:p:=by
 split at h
 ·cases h;decide
 ·cases h):p:=h
variable {n k:Nat} {c:EI} {x:Nd} {z:Int} {w0 wr W:World} {s:By} {g:RG} {R:RS}
theorem lG {w:World} {L:List Ob} {b:Nat} {c:Array Value} {T:TypeId} (hc:c.size=n) (hn:n<=maxLen) (h1:∀u,u∈c.toList->u.oneCell'=true) (h:Az w (L++[.Au b c T])):
  Ak w (L++[.Au b c T]) w (L++[.row (.slice (some ⟨b,0,none⟩) n n) T 1 n c.toList]):=by
 have k:=h.swap (i:=L.length) (o':= .row (.slice (some ⟨b,0,none⟩) n n) T 1 n c.toList) (o:= .Au b c T) EQ (Av.refl _ _) ?_ (by simp[Ob.fp,Value.ownBlock]) (fun x hx=> .inl (by simpa[Ob.fp,Value.ownBlock] using hx))
 ·simpa using k
 ·exact mbe
def Ft (l:List Nd) (n:Nat):EI:=(l.take n).foldl EI.step .Dl
def RM (b m c:Nat) (xs:List Int):Ob:= .row (.slice (some ⟨b,0,none⟩) m c) 3 1 m (Es xs)
structure Agi (w:World) (l:List Nd) (n ob oc ib ic m:Nat) (wr:World):Prop where
 ol:(Ft l n).Dj.length=m
 il:(Ft l n).B4.length=m
 st:Ak w [] wr [RM ob m oc (Ft l n).Dj,RM ib m ic (Ft l n).B4]
theorem jv (l:List Nd) (k:Nat) (hk:k < l.length):Ft l (k+1)=(Ft l k).step l[k]:=by
 unfold Ft;exact mbR
theorem WQ (w:World) (o:Obj):(w.alloc o).heap.size=w.heap.size+1:=by show(w.heap.push o).size=_;simp
theorem cL (h:x.kind=108):c.step x={c with Dj:=c.Dj++[(c.Dj.getLast?).getD 0*x.n],B4:=c.B4++[if c.Fq then (c.B4.getLast?).getD 0*x.n else 1]}:=by simp[EI.step,h]
theorem xV (h:x.kind=98):c.step x={c with Dj:=c.Dj.dropLast,B4:=c.B4.dropLast}:=by simp[EI.step,h]
theorem xX (h:x.kind=40):c.step x={c with blocks:=c.blocks+(c.Dj.getLast?).getD 0,B7:=0,Fq:=true,B4:=c.B4.dropLast++[1]}:=by simp[EI.step,h]
theorem xW (h:x.kind=41):c.step x={c with Fq:=false}:=by simp[EI.step,h]
theorem VL (h:x.kind=111):c.step x=if c.Fq then {c with B7:=c.B7+(c.B4.getLast?).getD 0,BH:=if c.BH < c.B7+(c.B4.getLast?).getD 0 then c.B7+(c.B4.getLast?).getD 0 else c.BH} else c:=by simp[EI.step,h]
theorem xU (h1:¬x.kind=108) (h2:¬x.kind=98) (h3:¬x.kind=40) (h4:¬x.kind=41) (h5:¬x.kind=111):c.step x=c:=by simp[EI.step,h1,h2,h3,h4,h5]
theorem kf (h:¬k=n) (hz:z=n):((k:Int)==z)=false:=by subst hz;rw[NE];omega
theorem kt (h:k=n) (hz:z=n):((k:Int)==z)=true:=by subst hz;subst h;simp
theorem RC {L:Nat} (h:n < L):L - (intOf (i5 ((n:Int)+1))).toNat < L - (intOf (i5 (n:Int))).toNat:=by simp[intOf];omega
theorem gW {a b:Int} (h0:0<=a) (h1:a<=64) (k0:1<=b) (k1:b<=4): -9223372036854775808<=a*b/\a*b<=9223372036854775807:=by
 have h2:0<=a*b:=Qdq h0 Y;have h3:a*b<=64*4:=Qc5 h1 k1 Y Y;omega
def AcN (l:List Nd) (w:World) (e:Ending) (w':World):Prop:=e= .returned (.tuple #[i5 (Ig l).1,i5 (Ig l).2])/\Av [] w w'
theorem kb {α:Type} {l:List α} (h:l.length=n+1):∃a b,l=a++[b]/\a.length=n:=by
 rcases f5 l with h0 | ⟨a,b,h0⟩
 ·rw[h0] at h;simp at h
 ·rw[m8] at h0;subst h0;exact⟨a,b,rfl,by simpa using h⟩
theorem UJ (l:List Nd) (k:Nat) (hk:k < l.length) (c:EI):(l.take (k+1)).foldl EI.step c=((l.take k).foldl EI.step c).step l[k]:=by
 exact mbR
structure AeO (c:EI) (k:Nat):Prop where
 b0:0<=c.blocks
 b1:c.blocks<=64*k
 o0:0<=c.B7
 o1:c.B7<=64*k
 m0:0<=c.BH
 m1:c.BH<=64*k
theorem Wp {l:List Int} (hl:1<=l.length) (h:∀x,x∈l->0<=x/\x<=64):0<=(l.getLast?).getD 0/\(l.getLast?).getD 0<=64:=by
 rcases f5 l with h0 | ⟨a,b,h0⟩
 ·rw[h0] at hl;simp at hl
 ·rw[h0,m8];simp only[Qa3,Qav,Qbm,Qbp];exact h b (by rw[h0];simp)
theorem AfS {l:List Nd} (h:Jj .Dl l) (k:Nat) (hk:k<=l.length):AeO ((l.take k).foldl EI.step .Dl) k:=by
 induction k with
 | zero=>exact⟨by simp[EI.Dl],by simp[EI.Dl],by simp[EI.Dl],by simp[EI.Dl],by simp[EI.Dl],by simp[EI.Dl]⟩
 | succ k ih=>
  have hc:=Oh h k;have ih:=ih Y;rw[UJ l k Y];generalize (l.take k).foldl EI.step .Dl=c at*;obtain⟨a1,a2,a3,a4,a5,a6⟩:=ih;have h1:=Wp hc.l1 hc.ob;have h2:=Wp (by rw[<-hc.ll];exact hc.l1) hc.ib;unfold EI.step;simp only[];split
  ·exact mbi
  ·split
   ·exact mbi
   ·split
    ·refine⟨?_,?_,?_,?_,a5,?_⟩ <;>simp only[] <;>omega
    ·split
     ·exact mbi
     ·split
      ·split
       ·refine⟨a1,?_,?_,?_,?_,?_⟩ <;>simp only[] <;>first | omega | (split <;>omega)
       ·exact⟨a1,Y,a3,Y,a5,Y⟩
      ·exact⟨a1,Y,a3,Y,a5,Y⟩
theorem fa (l:List Nd) (v:Value) (w:World) (h:w.ownsRow 0 110 14 v l.length (Bz l)) (hP:Jj .Dl l) (hn:l.length<=1000):
  Calls prog 38 #[v] w (AcN l w):=by
 obtain⟨j0,hj,KW,Fo,K7⟩:=info_parts RN;have Ad1:∃p cap,v= .slice p l.length cap:=by
  obtain⟨_,⟨rfl,h0⟩ | ⟨g,cap,cur,rfl,_⟩⟩:=h
  ·rw[h0];exact⟨none,0,rfl⟩
  ·exact⟨_,_,rfl⟩
 obtain⟨p,cap,rfl⟩:=Ad1;have H:=hid h;have HP:=hid hP;clear h hP;go_enter func38,ntmps38;go_wp2;have a1:=Ak.new (Az.nil w) (.cells #[i5 1] 3);have a2:=a1.trans (lG (L:=[]) (n:=1) rfl (by unfold maxLen;omega) (by simp[Value.oneCell']) a1.Am);have a3:=a2.trans (Ak.new a2.Am (.cells #[i5 1] 3));have a4:=a3.trans (lG (L:=[_]) (n:=1) rfl (by unfold maxLen;omega) (by simp[Value.oneCell']) a3.Am);have S:=hid a4;clear a1 a2 a3 a4;go_loopw [4,5,6,7,8,9,10] (fun a b c o i z k wr=>∃n ob oc ib ic m:Nat,k= i5 n/\n<=l.length/\a= i5 (Ft l n).blocks/\b= i5 (Ft l n).B7/\c= i5 (Ft l n).BH/\z= .bool (Ft l n).Fq/\o= .slice (some ⟨ob,0,none⟩) m oc/\i= .slice (some ⟨ib,0,none⟩) m ic/\Agi w l n ob oc ib ic m wr) (fun _ _ _ _ _ _ k _=>l.length - (intOf k).toNat);case atStart=>exact⟨0,_,_,_,_,1,rfl,d6 _,rfl,rfl,rfl,rfl,rfl,rfl,⟨rfl,rfl,by have s:=S.out;rw[WQ] at s;exact s⟩⟩
 case round=>
  clear S;obtain⟨n,ob,oc,ib,ic,m,rfl,uG,rfl,rfl,rfl,rfl,rfl,rfl,hI⟩:=hrel;by_cases AX:(n:Int) < (l.length:Int)
  ·have DJ:n < l.length:=Y
   have hb:CB (Ft l n):=Oh HP n;have u3:AeO (Ft l n) n:=AfS HP n uG;have p8:=jv l n DJ;have QI:CB (Ft l (n+1)):=Oh HP (n+1);have hn4:=sf HP n DJ;obtain⟨XC,xj,AD⟩:=hI;rw[p8] at QI;have UW:=hid p8;clear p8;generalize Ft l n=C at hb u3 QI UW XC xj AD⊢;obtain⟨blocks,B7,BH,Dj,B4,Fq⟩:=C;obtain⟨m,rfl⟩:∃k,m=k+1:=⟨m - 1,by have:=hb.l1;simp only at this XC;omega⟩;obtain⟨os,o,ho,hos⟩:=kb XC;obtain⟨is_,ii,hi,his⟩:=kb xj;simp only at ho hi;subst ho;subst hi;have Q0:m<=3:=by have:=hb.l4;simp only[V,d5] at this;omega
   have ee:=hb.ob o EQ;have hib:=hb.ib ii EQ;obtain⟨g1,g2,g3,g4,g5,g6⟩:=u3;simp only at g1 g2 g3 g4 g5 g6;have xe:l.length≠0:=Y
   obtain⟨nb,ncap,hv,_,nlt,ncp,ncm,ncell,nfree⟩:=AG H Y;have LB:=AD.Bf;have GQ:∀j,j < 14->wr.cell? ⟨nb,n*14+j,none⟩=(Nd.cells l[n])[j]?:=fun j hj=>by
    have iR:n*14+j < (Bz l).length:=by rw[EN];omega
    have:=AU LB (ncell _ iR);rw[this,<-Id iR,Jz l n j DJ hj,GE,Id DJ];rfl
   have k0:wr.cell? ⟨nb,n*14,none⟩=some (.int .u8 l[n].kind):=GQ 0 Y;have k12:wr.cell? ⟨nb,n*14+12,none⟩=some (i5 l[n].n):=GQ 12 Y;have HN:=hid (show∀W,Av (D4 []) w W->W.cell? ⟨nb,n*14+12,none⟩=some (i5 l[n].n) from fun W hm=>by
     have iR:n*14+12 < (Bz l).length:=by rw[EN];omega
     have:=AU hm (ncell _ iR);rw[this,<-Id iR,Jz l n 12 DJ Y,GE,Id DJ];rfl)
   obtain⟨oc1,of1,ol1⟩:=Bm (AD.Am.row (i:=0) rfl);obtain⟨ic1,if1,il1⟩:=Bm (AD.Am.row (i:=1) rfl);have c0:wr.cell? ⟨ob,m,none⟩=some (i5 o):=by rw[oc1 m (by simp[Es,hos])];simp[Es,hos]
   have c1:wr.cell? ⟨ib,m,none⟩=some (i5 ii):=by rw[ic1 m (by simp[Es,his])];simp[Es,his]
   have cf:=if1 m;have Bi:ob≠ib:=aL AD.Am (i:=0) (j:=1) rfl rfl AC;have ocap:m+1<=oc/\oc<=maxLen:=by
    obtain⟨_,⟨h1,_⟩ | ⟨_,_,_,h1,_,_,h3,h4,_⟩⟩:=AD.Am.row (i:=0) rfl
    ·cases h1
    ·cases h1;exact⟨h3,h4⟩
   have icap:m+1<=ic/\ic<=maxLen:=by
    obtain⟨_,⟨h1,_⟩ | ⟨_,_,_,h1,_,_,h3,h4,_⟩⟩:=AD.Am.row (i:=1) rfl
    ·cases h1
    ·cases h1;exact⟨h3,h4⟩
   have nlt':nb < wr.heap.size:=Qaq nlt LB.size;have iM:Value.slice p l.length cap= .slice (some ⟨nb,0,none⟩) l.length ncap:=hv;cases iM;have S:=hid AD;have Hb:=hid hb;have Hb2:=hid QI;have wP:=hid hos;have fX:=hid his;clear hv AD hb QI hos his XC xj GQ ncell nfree oc1 ic1 of1 if1 LB xe uG;obtain⟨x,hx⟩:∃x,x=l[n]:=⟨_,rfl⟩;rw[<-hx] at hn4 k0 k12 UW Hb2 HN;clear hx;obtain⟨o1,o2⟩:=ocap;obtain⟨i1,i2⟩:=icap;obtain⟨AdN,AdM⟩:=ee;obtain⟨AfB,AfA⟩:=hib;unfold maxLen at o2 i2;have CS:(m:Int)+1 - 1=m:=Y
   have hn9:n<=2000:=Y
   have WI:(0:Int)<=(m:Int):=Qa2 _;have oD:(m:Int) < (m:Int)+1:=Y
   have AgG:(0:Int)<=(n:Int):=Qa2 _;have hm8:m+1+1<=maxLen:=by unfold maxLen;omega
   have hm9:(m+1+1)*8<=140737488355328:=Y
   replace g2:blocks<=100000:=Y
   replace g4:B7<=100000:=Y
   replace g6:BH<=100000:=Y
   replace hn4:=hid hn4;by_cases q1:x.kind=108
   ·have t1:((x.kind:Int)==108)=true:=kt q1 rfl;have Q:=hid q1;clear q1;obtain⟨n1,n2⟩:=hn4.out Q.out;cases Fq with
    | false=>
     have GG:IntKind.i64.wrap (o*x.n)=o*x.n:=IntWalk.i64_in _ (gW AdN AdM n1 n2);go_upto_region 13 with fail
     refine BR (l:=[(0,true),(1,true),(2,true),(3,true),(4,true),(5,true),(6,true),(7,true),(8,true),(9,true),(10,true),(11,false),(12,false),(13,false)]) (fun W=>W.cell? ⟨ob,m,none⟩=some (i5 o)/\W.cell? ⟨nb,n*14,none⟩=some (.int .u8 x.kind)/\W.cell? ⟨nb,n*14+12,none⟩=some (i5 x.n)) 12 ?_ ?_
     ·exact⟨c0,k0,k12⟩
     refine KQ ?_;clear GG;refine Ch rfl (fun K hK=> ?_);go_simp;refine hK _ _ (fun _=>⟨(Qac _ _ _ ol1).trans c0,(Qac _ _ _ nlt').trans k0,(Qac _ _ _ nlt').trans k12⟩) ?_;clear hK;refine Ch rfl (fun K hK=> ?_);refine B5 8 _ _ _ j0 _ #[i5 (o*x.n)] _ (S.Am) (k:=0) rfl Do Do underlying29 hj KW Fo K7 rfl Y Do Do rfl (by simp[Value.oneCell']) hm8 hm9 ?_;intro ob6 oc6 w6 st6 _;refine hK _ _ (fun h=>UV h AC) ?_;clear hK;refine Ch rfl (fun K hK=> ?_);go_simp;refine hK _ _ (fun h=>UV h AC) ?_;clear hK;simp only[DP];have gz:Ak w [] w6 [RM ob6 (m+1+1) oc6 (os++[o]++[o*x.n]),RM ib (m+1) ic (is_++[ii])]:=by
      have:=S.trans st6;simpa[RM,Es] using this
     obtain⟨ic7,if7,il7⟩:=Bm (gz.Am.row (i:=1) rfl);have c17:w6.cell? ⟨ib,m,none⟩=some (i5 ii):=by rw[ic7 m (by simp[Es,fX.out])];simp[Es,fX.out]
     have k127:=HN.out w6 gz.Bf;have AbN:=gz.Bf.size;have nlt7:nb < w6.heap.size:=Qaq nlt AbN;have S7:=hid gz;clear ic7 if7 st6 gz S c0 c1 k0 k12 cf ol1 il1;go_wp2_with (first | (at_builtin;refine B6 8 _ _ _ j0 _ #[i5 1] _ (S7.Am) (k:=1) rfl Do Do underlying29 hj KW Fo K7 rfl Y Do Do rfl (by simp[Value.oneCell']) hm8 hm9 ?_;intro ib8 ic8 w8 st8 _));go_roundw;case rel=>
      have hk:Ft l (n+1)=⟨blocks,B7,BH,os++[o]++[o*x.n],is_++[ii]++[1],false⟩:=by rw[UW.out,cL Q.out];simp
      have s8:Ak w [] w8 [RM ob6 (m+1+1) oc6 (os++[o]++[o*x.n]),RM ib8 (m+1+1) ic8 (is_++[ii]++[1])]:=by
       have:=(S7).trans st8;simpa[RM,Es] using this
      exact mbf
     case measure=>exact RC DJ
    | true=>
     have GG:IntKind.i64.wrap (o*x.n)=o*x.n:=IntWalk.i64_in _ (gW AdN AdM n1 n2);go_upto_region 13 with fail
     refine BR (l:=[(0,true),(1,true),(2,true),(3,true),(4,true),(5,true),(6,true),(7,true),(8,true),(9,true),(10,true),(11,false),(12,false),(13,false)]) (fun W=>W.cell? ⟨ob,m,none⟩=some (i5 o)/\W.cell? ⟨nb,n*14,none⟩=some (.int .u8 x.kind)/\W.cell? ⟨nb,n*14+12,none⟩=some (i5 x.n)) 12 ?_ ?_
     ·exact⟨c0,k0,k12⟩
     refine KQ ?_;clear GG;refine Ch rfl (fun K hK=> ?_);go_simp;refine hK _ _ (fun _=>⟨(Qac _ _ _ ol1).trans c0,(Qac _ _ _ nlt').trans k0,(Qac _ _ _ nlt').trans k12⟩) ?_;clear hK;refine Ch rfl (fun K hK=> ?_);refine B5 8 _ _ _ j0 _ #[i5 (o*x.n)] _ (S.Am) (k:=0) rfl Do Do underlying29 hj KW Fo K7 rfl Y Do Do rfl (by simp[Value.oneCell']) hm8 hm9 ?_;intro ob6 oc6 w6 st6 _;refine hK _ _ (fun h=>UV h AC) ?_;clear hK;refine Ch rfl (fun K hK=> ?_);go_simp;refine hK _ _ (fun h=>UV h AC) ?_;clear hK;simp only[DP];have gz:Ak w [] w6 [RM ob6 (m+1+1) oc6 (os++[o]++[o*x.n]),RM ib (m+1) ic (is_++[ii])]:=by
      have:=S.trans st6;simpa[RM,Es] using this
     obtain⟨ic7,if7,il7⟩:=Bm (gz.Am.row (i:=1) rfl);have c17:w6.cell? ⟨ib,m,none⟩=some (i5 ii):=by rw[ic7 m (by simp[Es,fX.out])];simp[Es,fX.out]
     have k127:=HN.out w6 gz.Bf;have AbN:=gz.Bf.size;have nlt7:nb < w6.heap.size:=Qaq nlt AbN;have S7:=hid gz;clear ic7 if7 st6 gz S c0 c1 k0 k12 cf ol1 il1;have IG:IntKind.i64.wrap (ii*x.n)=ii*x.n:=IntWalk.i64_in _ (gW AfB AfA n1 n2);go_upto_region 16 with fail
     refine BR (l:=[(0,true),(1,true),(2,true),(3,true),(4,true),(5,true),(6,true),(7,true),(8,true),(9,true),(10,false)]) (fun W=>W.cell? ⟨ib,m,none⟩=some (i5 ii)/\W.cell? ⟨nb,n*14+12,none⟩=some (i5 x.n)) 10 ?_ ?_
     ·exact⟨c17,k127⟩
     refine KQ ?_;clear IG;refine Ch rfl (fun K hK=> ?_);go_simp;refine hK _ _ (fun h=>UV h AC) ?_;clear hK;simp only[DP];go_wp2_with (first | (at_builtin;refine B6 8 _ _ _ j0 _ #[i5 (ii*x.n)] _ ((Ak.drew S7.Am).Am) (k:=1) rfl Do Do underlying29 hj KW Fo K7 rfl Y Do Do rfl (by simp[Value.oneCell']) hm8 hm9 ?_;intro ib8 ic8 w8 st8 _));go_roundw;case rel=>
      have hk:Ft l (n+1)=⟨blocks,B7,BH,os++[o]++[o*x.n],is_++[ii]++[(ii*x.n)],true⟩:=by rw[UW.out,cL Q.out];simp
      have s8:Ak w [] w8 [RM ob6 (m+1+1) oc6 (os++[o]++[o*x.n]),RM ib8 (m+1+1) ic8 (is_++[ii]++[(ii*x.n)])]:=by
       have:=(S7.trans (Ak.drew S7.Am)).trans st8;simpa[RM,Es] using this
      exact mbf
     case measure=>exact RC DJ
   ·have t1:((x.kind:Int)==108)=false:=kf q1 rfl;by_cases q2:x.kind=98
    ·have t2:((x.kind:Int)==98)=true:=kt q2 rfl;have Q:=hid q2;clear q1 q2;go_wp2;go_roundw;case rel=>
      have hk:Ft l (n+1)=⟨blocks,B7,BH,os,is_,Fq⟩:=by rw[UW.out,xV Q.out];simp
      have s1:=S.Am.take (i:=0) rfl m (Qan m);have s2:=s1.Am.take (i:=1) rfl m (Qan m);have e1:(Es (os++[o])).take (m*1)=Es os:=by rw[<-wP.out];simp[Es]
      have e2:(Es (is_++[ii])).take (m*1)=Es is_:=by rw[<-fX.out];simp[Es]
      have s3:=S.trans (s1.trans s2);rw[e1,e2] at s3;refine⟨n+1,ob,oc,ib,ic,m,?_,DJ,?_,?_,?_,?_,rfl,rfl,⟨?_,?_,?_⟩⟩
      ·rfl
      ·rw[hk]
      ·rw[hk]
      ·rw[hk]
      ·rw[hk]
      ·rw[hk];exact wP.out
      ·rw[hk];exact fX.out
      ·rw[hk];exact s3
     case measure=>exact RC DJ
    ·have t2:((x.kind:Int)==98)=false:=kf q2 rfl;by_cases q3:x.kind=40
     ·have t3:((x.kind:Int)==40)=true:=kt q3 rfl;have Q:=hid q3;clear q1 q2 q3;go_wp2;go_roundw;case rel=>
       have hk:Ft l (n+1)=⟨blocks+o,0,BH,os++[o],is_++[1],true⟩:=by rw[UW.out,xX Q.out];simp
       have s1:=S.Am.HU (i:=1) rfl m (by simp[Es,fX.out]) (i5 1);have e2:(Es (is_++[ii])).set m (i5 1)=Es (is_++[1]):=by rw[<-fX.out];simp[Es]
       have s3:=S.trans s1;rw[e2] at s3;refine⟨n+1,ob,oc,ib,ic,m+1,?_,DJ,?_,?_,?_,?_,rfl,rfl,⟨?_,?_,?_⟩⟩
       ·rfl
       ·rw[hk]
       ·rw[hk]
       ·rw[hk]
       ·rw[hk]
       ·rw[hk];simp[wP.out]
       ·rw[hk];simp[fX.out]
       ·rw[hk];exact s3
      case measure=>exact RC DJ
     ·have t3:((x.kind:Int)==40)=false:=kf q3 rfl;by_cases q4:x.kind=41
      ·have t4:((x.kind:Int)==41)=true:=kt q4 rfl;have Q:=hid q4;clear q1 q2 q3 q4;go_wp2;go_roundw;case rel=>
        have hk:Ft l (n+1)=⟨blocks,B7,BH,os++[o],is_++[ii],false⟩:=by rw[UW.out,xW Q.out]
        exact mau
       case measure=>exact RC DJ
      ·have t4:((x.kind:Int)==41)=false:=kf q4 rfl;by_cases q5:x.kind=111
       ·have t5:((x.kind:Int)==111)=true:=kt q5 rfl;have Q:=hid q5;clear q1 q2 q3 q4 q5;cases Fq with
        | false=>
         go_wp2;go_roundw;case rel=>
          have hk:Ft l (n+1)=⟨blocks,B7,BH,os++[o],is_++[ii],false⟩:=by rw[UW.out,VL Q.out];simp
          exact mau
         case measure=>exact RC DJ
        | true=>
         by_cases hgt:BH < B7+ii
         ·have Hgt:=hid hgt;go_wp2;go_roundw;case rel=>
           have hk:Ft l (n+1)=⟨blocks,B7+ii,B7+ii,os++[o],is_++[ii],true⟩:=by rw[UW.out,VL Q.out];simp[Hgt.out]
           exact mau
          case measure=>exact RC DJ
         ·have Hgt:=hid hgt;go_wp2;go_roundw;case rel=>
           have hk:Ft l (n+1)=⟨blocks,B7+ii,BH,os++[o],is_++[ii],true⟩:=by rw[UW.out,VL Q.out];simp[Hgt.out]
           exact mau
          case measure=>exact RC DJ
       ·have t5:((x.kind:Int)==111)=false:=kf q5 rfl;have Q:=hid (xU (c:=⟨blocks,B7,BH,os++[o],is_++[ii],Fq⟩) q1 q2 q3 q4 q5);clear q1 q2 q3 q4 q5;go_wp2;go_roundw;case rel=>
         have hk:Ft l (n+1)=⟨blocks,B7,BH,os++[o],is_++[ii],Fq⟩:=by rw[UW.out,Q.out]
         exact mau
        case measure=>exact RC DJ
  ·have Afq:n=l.length:=Y
   subst Afq;have hS:=hid hI.st;clear hI;go_wp2;go_ret2;refine⟨?_,hS.Bf⟩;have e:Ft l l.length=l.foldl EI.step .Dl:=by unfold Ft;rw[Qcc]
   rw[e];rfl
theorem rL (l:Ws) (lw:Value) (w:World) (g:RG) (R:RS) (n:Nat) (h:Az w (g.Ar R)) (hL:Dq g R) (hG:IP R n)
  (hw:Sl w (fun b=>b∉D4 (g.Ar R)) lw (A3 l)) (hs:∀a,a∈l->a.size<=maxLen) (Bi:l≠[]) (NH:Br l=true):
  Calls prog 37 #[i6 g.rb,lw] w (FE (R.row l) g R w):=by
 have hS:0<=R.Ah/\R.Ah<=1000:=⟨hG.s0,by have:=hG.s1;omega⟩;by_cases h1:bs (wd l 0)=AK
 ·exact cW l lw w g R n h hL hG.tP hw hs Bi NH h1
 by_cases h2:bs (wd l 0)=AE
 ·by_cases ho:R.Af=[]
  ·exact aj l lw w g R n h hL hG.tP hw Bi NH h2 ho
  ·exact ak l lw w g R n h hG.tP hG.ku hw Bi h2 ho
 by_cases h3:bs (wd l 0)=Ey
 ·exact rK l lw w g R n h hL hG.tP hG.ku hw Bi h3
 cases hi:R.Bu with
 | true=>exact VR l lw w g R n h hL hG.tP hG.ku hS hw hs Bi NH h1 h2 h3 hi
 | false=>exact Uv l lw w g R n h hL hG.tP hG.ku hS hw hs Bi NH h1 h2 h3 hi
def RG.Aeo (g:RG) (R:RS) (m:Bool):Ob:= .Au g.rb #[i6 g.pb,.slice g.s.p R.As.length g.s.c,.slice g.f.p R.first.length g.f.c,.slice g.z.p R.size.length g.z.c,.slice g.l.p R.AA.length g.l.c,.slice g.o.p R.Af.length g.o.c,i5 R.Ah,.bool m,i5 0] 94
def RG.rest (g:RG) (R:RS):List Ob:=(g.Ar R).tail
def Aet (res:Except (Int×Nat) RP) (w:World) (e:Ending) (w':World):Prop:=match res with
 | .error c=>e= .returned (.tuple #[.pointer none,i5 c.1,i5 c.2])/\Av [] w w'
 | .ok p=>∃(g:RG) (R:RS),R.p=p/\Dq g R/\e= .returned (.tuple #[i6 g.pb,i5 0,i5 0])/\Ak w [] w' (g.rest R)
structure RI (w0:World) (s:By) (k:Nat) (g:RG) (R:RS) (x:qr) (wr:World):Prop where
 st:Ak w0 [] wr (g.Ar R)
 len:Dq g R
 go:IP R k
 sim:NO x R
 fw:FW x
 fn:FN x
 eq:Fp s=I2 ((Ax 10 s).drop k) k R
theorem RI.new {x:qr} (h:RI w0 s k g R x wr):∀b,b∈D4 (g.Ar R)->w0.heap.size<=b:=fun b hb=>by
 rcases h.st.fp b hb with h1 | h1
 ·simp[D4] at h1
 ·exact h1
theorem RI.Bf {x:qr} (h:RI w0 s k g R x wr):Av [] w0 wr:=h.st.Bf.mono fun x hx=>by simp[D4] at hx
theorem RI.quiet {x:qr} (h:RI w0 s k g R x wr) (hm:Av [] wr W):RI w0 s k g R x W:={h with st:=h.st.trans (Ak.quiet h.st.Am hm)}
theorem RI.next {x:qr} (h:RI w0 s k g R x wr) {R':RS} {p q:By} {r:List By} (hd:(Ax 10 s).drop k=p::q::r) (hl:Br (Bn p)=true) (hr:R.row (Bn p)= .ok R') (hk:k+1<=2500)
  {g':RG} (hL:Dq g' R') (st:Ak wr (g.Ar R) W (g'.Ar R')):∃y,RI w0 s (k+1) g' R' y W:=by
 obtain⟨w,l,p5⟩:∃w l,Bn p=w::l:=by
  exact mb6
 have Bi:Bn p≠[]:=by rw[p5];simp
 have hG:=h.go.row hk hl Bi hr;have hs:=ki h.sim w l (by rw[<-p5];exact hl);rw[<-p5,hr] at hs;unfold Sk at hs;cases hx:x.row (Bn p) with
 | error c=>rw[hx] at hs;exact hs.elim
 | ok y=>
  rw[hx] at hs;obtain⟨o1,o2⟩:=qr.gJ h.fw h.fn hx;have iY:(Ax 10 s).drop (k+1)=q::r:=by
   have:=Qao List.tail hd;rwa[Qc4] at this
  refine⟨y,h.st.trans st,hL,hG,hs,o1,o2,?_⟩;rw[h.eq,hd,iY];show(if _ then _ else _)=_;rw[In hl,hr]
theorem RI.AeX {x:qr} (h:RI w0 s k g R x wr) (ho:R.Af=[]):∀t,t∈R.p.Aa->Jj .Dl t/\t.length<=1000:=by
 have Oz:x.Af=[]:=RK (by rw[<-Kh h.sim,ho];rfl);obtain⟨_,e⟩:=dQ h.sim h.fw Oz;intro t ht;rw[e] at ht;obtain⟨u,hu,rfl⟩:=Qbg.1 ht;refine⟨yj (h.fw.th u hu),?_⟩;rw[EP];have h1:=h.fn.all u hu;have h2:(Fm u:Int)<=2*Iw u:=by
  clear h1 hu ht;induction u <;>simp only[Fm,Iw] <;>omega
 omega
def Yb (t:List Nd):Bool:=decide (3 < (Ig t).1) || decide (8 < (Ig t).2)
theorem AcZ {g:List SG} {l:List (List Nd)} (hl:g.length=l.length) {j:Nat} (hj:j < l.length):∃a,g[j]?=some a/\(BC g l)[j]?=some (.slice a.p l[j].length a.c)/\(List.zipWith DQ g l)[j]?=some (DQ a l[j]):=by
 have uR:j < g.length:=Y
 refine⟨g[j],by simp[uR],?_,?_⟩
 ·simp[BC,Qdb,uR,hj]
 ·simp[Qdb,uR,hj]
theorem rW (hL:Dq g R) {j:Nat} (hj:j < R.p.Aa.length) (m:Bool):∃a,(BC g.cv R.p.Aa)[j]?=some (.slice a.p R.p.Aa[j].length a.c)/\(g.Aeo R m::g.rest R)[10+j]?=some (DQ a R.p.Aa[j]):=by
 obtain⟨a,_,h2,h3⟩:=AcZ hL.cl hj;refine⟨a,h2,?_⟩;show([_,_,_,_,_,_,_,_,_,_]++(List.zipWith DQ g.cv R.p.Aa++List.zipWith Cd g.dv R.p.Ao))[10+j]?=_;rw[Qag EQ];simp only[IR,m7];rw[show 10+j - (0+1+1+1+1+1+1+1+1+1+1)=j by omega,m9 (by simp[hL.cl,hj]),h3]
theorem gO {w1:World} (hl:¬2000 < s.length):∃g,g.rb=w1.heap.size+1/\g.pb=w1.heap.size/\RI w1 s 0 g .Dl .Dl
  ((w1.alloc (.cells #[.slice none 0 0,i5 0,.slice none 0 0,.slice none 0 0] 53)).alloc (.cells #[i6 w1.heap.size,.slice none 0 0,.slice none 0 0,.slice none 0 0,.slice none 0 0,.slice none 0 0,i5 0,.bool false,i5 0] 94)):=by
 have a1:=Ak.new (Az.nil w1) (.cells #[.slice none 0 0,i5 0,.slice none 0 0,.slice none 0 0] 53);have a2:=a1.trans (Ak.Ry a1.Am (.cells #[i6 w1.heap.size,.slice none 0 0,.slice none 0 0,.slice none 0 0,.slice none 0 0,.slice none 0 0,i5 0,.bool false,i5 0] 94));rw[WQ] at a2;have nl:∀{L:List Ob} {w:World} {e:TypeId} {n:Nat},Ak w1 [] w L->Ak w1 [] w (L++[.row (.slice none 0 0) e n 0 []]):=fun {L w e n} h=>by
  have t:=Ak.SM (A:=L) (B:=[]) (by rw[i7];exact h.Am) e n;rw[i7] at t;exact h.trans t
 have a3:=nl (e:=9) (n:=1) a2;have a4:=nl (e:=3) (n:=1) a3;have a5:=nl (e:=3) (n:=1) a4;have a6:=nl (e:=9) (n:=1) a5;have a7:=nl (e:=3) (n:=1) a6;have a8:=nl (e:=72) (n:=1) a7;have a9:=nl (e:=51) (n:=1) a8;have a10:=nl (e:=4) (n:=1) a9;refine⟨⟨w1.heap.size+1,w1.heap.size,⟨none,0⟩,⟨none,0⟩,⟨none,0⟩,⟨none,0⟩,⟨none,0⟩,⟨none,0⟩,⟨none,0⟩,⟨none,0⟩,[],[]⟩,rfl,rfl,a10,⟨rfl,rfl,rfl,rfl,rfl,rfl,by simp[RS.Dl]⟩,.Dl,.Dl,.Dl,.Dl,?_⟩;unfold Fp;rw[I hl];rfl
theorem cX {l:Ws} {c:Int} (h:R.row l= .error c):((c:Int) !=0)=true:=by
 rw[bne_iff_ne];unfold RS.row at h;simp only[] at h;split at h
 ·unfold RS.D6 at h;split at h
  ·cases h;decide
  ·exact mb7
 split at h
 ·exact mb7
 split at h
 ·unfold RS.Np at h;exact mb7
 split at h
 ·cases h;decide
 split at h
 ·rename_i hn;cases h;rcases Wa hn with rfl | rfl <;>decide
 ·split at h
  ·cases h;decide
  ·split at h
   ·exact mb7
   ·cases h
theorem YI (s:ByteArray) (w:World) (hs:s.size<=1000000):
  Calls prog 23 #[.string s] w (Aet (Fp (bs s)) w):=by
 by_cases hl:2000 < s.size
 ·have kN:(2000:Int) < (s.size:Int):=Y
  have Hr:=hid (show Fp (bs s)= .error (1,0) by unfold Fp;rw[In (by rw[Bw];exact hl)]);clear hl;go_enter func23,ntmps23;go_wp2;go_ret3;rw[Hr.out];exact⟨rfl,Av.refl _ _⟩
 have kN:¬(2000:Int) < (s.size:Int):=Y
 have Hl:=hid (show¬2000 < (bs s).length by rw[Bw];exact hl);go_enter func23,ntmps23;go_wp2_with fail;refine(Sa s 10 _ hs).mono ?_;intro e w1 he;obtain⟨v,l,II,CS,Ct,fS⟩:=he;obtain⟨ini,pl,hP⟩:∃ini pl,Ax 10 (bs s)=ini++[pl]:=by
  exact mby
 obtain⟨k0,PG⟩:∃k,k=ini.length:=⟨_,rfl⟩;have hle:l=(ini++[pl]).map Ay:=by rw[<-hP];exact Q6 fS
 have hlen:l.length=k0+1:=by rw[hle,PG];simp
 have Ta:k0<=2001:=by
  have:=GL 10 _ (bs s) (LE _);have h3:=Lib.count_le (bs s) [10];rw[Bw] at h3;rw[hP] at this;simp at this;omega
 obtain⟨lb,lcap,hv,_,llt,lcp,lcm,lcel,lfr⟩:=AG Ct Y;rw[hlen] at hv;subst II;subst hv;have Agd:=hid lcel;have HP:=hid hP;have HK:=hid PG;have HLE:=hid hle;have LD:=hid CS;clear Ct fS hP PG hle hlen CS lcel lfr lcp lcm llt kN hl;have hw:True->wrap64 (k0:Int)=k0:=fun _=>IntWalk.wrap64_in _ Y
 go_wp2;go_loopw [8,9] (fun n i wr=>∃k:Nat,n= i5 k/\i= i5 k/\k<=k0/\∃g R x,g.rb=w1.heap.size+1/\RI w1 (bs s) k g R x wr) (fun _ i _=>k0+1 - (intOf i).toNat);case atStart=>
  obtain⟨g,h1,_,h3⟩:=gO (w1:=w1) Hl.out;exact⟨0,rfl,rfl,d6 _,g,_,_,h1,h3⟩
 case round=>
  clear hw;obtain⟨k,rfl,rfl,hk,g,R,x,dZ,hI⟩:=hrel;rw[<-dZ];have Hrb:=hid dZ;have HI:=hid hI;have Jc:(k:Int) < (k0:Int)+1:=Y
  have Ab8:(0:Int)<=(k:Int):=Y
  have Nh:True->wrap64 ((k:Int)+1)=k+1:=fun _=>IntWalk.wrap64_in _ Y
  have hkP:k < (ini++[pl]).length:=by rw[V,<-HK.out];simp;omega
  obtain⟨p,hp⟩:∃p,p=(ini++[pl])[k]:=⟨_,rfl⟩;have XB:p∈Ax 10 (bs s):=by rw[HP.out,hp];exact Qab hkP
  have Cq:=MT 10 (bs s) p XB;rw[Bw] at Cq;have r0:wr.cell? ⟨lb,k,none⟩=some (.string (Ay p)):=by
   refine AU hI.Bf (Mi Agd ?_);rw[HLE.out];simp only[A3,Qdo];rw[Qax,Id hkP,<-hp];rfl
  have hd:(Ax 10 (bs s)).drop k=p::(ini++[pl]).drop (k+1):=by rw[HP.out,hp,Qa6 hkP]
  have Ug:(Ay p).size<=1000000:=by rw[<-Bw,Cw];omega
  have pX:=hid (Sa (Ay p) 32 wr Ug);have Hd:=hid hd;have Hp:=hid hp;have HPL:=hid Cq;clear hI dZ hd hp XB Cq Ug;obtain⟨br,hbr⟩:∃b,b=decide (k=k0/\pl=[]/\0 < k):=⟨_,rfl⟩;have HBR:=hid hbr;clear hbr;go_upto_region 10 with fail
  go_cut [47] from 28 to 73 (fun q w'=>w'=wr/\q= .bool br)
  case first=>
   by_cases Iu:k=k0
   ·have WD:((k:Int)==(k0:Int))=true:=by rw[Iu];simp
    have fP:p=pl:=by rw[Hp.out];simp[Iu,HK.out]
    by_cases Cq:pl=[]
    ·have r0':wr.cell? ⟨lb,k,none⟩=some (.string ⟨#[]⟩):=by rw[r0,fP,Cq];rfl
     by_cases h0:0 < k
     ·have hb4:(0:Int) < (k:Int):=Y
      exact mbA
     ·have hb4:¬(0:Int) < (k:Int):=Y
      exact mbA
    ·have he:¬(Ay p).toList=[]:=by rw[ByteArray.toList_eq,fP];exact Cq
     have fT:(Ay p).toList.isEmpty=false:=by rw[<-Bool.not_eq_true,List.isEmpty_iff];exact he
     have Hq:=hid (show Value.bool false= .bool br by rw[HBR.out];simp[Cq]);clear Iu fP Cq;go_wp2
     go_meet
     exact⟨rfl,Hq⟩
   ·have WD:((k:Int)==(k0:Int))=false:=by rw[NE];omega
    have Hq:=hid (show Value.bool false= .bool br by rw[HBR.out];simp[Iu]);clear Iu;go_wp2
    go_meet
    exact⟨rfl,Hq⟩
  case rest=>
   obtain⟨Pz,hq⟩:=hcut;subst Pz;subst hq;cases br with
   | true=>
    have hb:=HBR.out;rw[eq_comm,Qad] at hb;obtain⟨J2,QI,eH⟩:=hb;have fP:p=[]:=by rw[Hp.out,<-QI];simp[J2,HK.out]
    have HQ:=hid (show Fp (bs s)=G9 k R by
      rw[HI.out.eq,Hd.out,fP,Qbc (by rw[V,<-HK.out];simp;omega)];show(if _ then _ else _)=_;rw[In ⟨rfl,eH⟩])
    clear J2 QI eH fP r0 pX HBR;have C6:=AI HI.st.Am;have oy:R.p.Aa.length<=2500:=by have:=HI.go.tP.bn;have:=HI.go.tP.nn;omega
    have XC:R.Af.length<=3:=HI.go.ol;obtain⟨Cu,A8,C6,Bv,AX,Cq,Bi⟩:=C6;by_cases ho:R.Af=[];rotate_left
    ·have SY:0 < R.Af.length:=Qae.2 ho;have RR:(0:Int) < (R.Af.length:Int):=Y
     have Hr:=hid (show Fp (bs s)= .error (3,k+1) by rw[HQ.out];unfold G9;rw[In (.inl ho)]);clear ho C6 Bv;go_wp2;go_ret3;rw[Hr.out];exact⟨rfl,LD.Ad HI.Bf⟩
    have RR:R.Af.length=0:=by rw[ho];rfl
    rw[RR] at Cu;by_cases ht:R.p.Aa=[]
    ·have Hr:=hid (show Fp (bs s)= .error (3,k+1) by rw[HQ.out];unfold G9;rw[In (.inr ht)]);rw[ht] at A8;simp only[m7] at A8;clear ho RR ht C6 Bv;go_wp2;go_ret3;rw[Hr.out];exact⟨rfl,LD.Ad HI.Bf⟩
    have kL:((R.p.Aa.length:Int)==0)=false:=by rw[NE];have:=Qae.2 ht;omega
    have HO:=hid ho;have HT:=hid ht;have HQ2:=hid (show Fp (bs s)=if (R.p.Aa.any Yb) || (decide (6 < R.p.cells) || decide (3 < R.p.Aa.length)) then .error (5,0) else .ok R.p by
      rw[HQ.out];unfold G9;rw[I (fun h=>h.elim (fun h=>h ho) ht)];rfl)
    clear ho RR ht;go_wp2;go_loopw [13] (fun j wx=>∃n:Nat,j= i5 n/\n<=R.p.Aa.length/\Ak w1 [] wx (g.Aeo R ((R.p.Aa.take n).any Yb)::g.rest R)) (fun j _=>R.p.Aa.length - (intOf j).toNat);case atStart=>exact⟨0,rfl,d6 _,HI.st⟩
    case round=>
     clear Cu A8 C6 Bv AX Cq Bi Nh Ab8 Jc;obtain⟨n,rfl,hn,st⟩:=hrel;have ST:=hid st;have PD:=st.Am.Au (i:=0) rfl;have WD:=st.Am.Au (i:=1) rfl;have Cu:=PD.cell;have C6:=PD.free;have AX:=PD.lt;have Ve:=WD.cell;have Cq:=WD.lt;have Gu:(0:Int)<=(n:Int):=Y
     by_cases uG:(n:Int) < (R.p.Aa.length:Int)
     ·have y8:n < R.p.Aa.length:=Y
      obtain⟨a,ha1,zw⟩:=rW HI.len y8 ((R.p.Aa.take n).any Yb);have IN:=st.Am.row zw;obtain⟨hP,hL1⟩:=HI.AeX HO _ (Qab y8);have Hc:=hid (fa R.p.Aa[n] _ wr IN hP hL1);obtain⟨tb,tcap,Ou,_,tlt,_,_,tcel,tfr⟩:=AG (st.Am.row (i:=7) rfl) Y;simp only[Value.slice.injEq] at Ou;obtain⟨yT,_,htc⟩:=Ou;rw[yT] at Ve;have t0:wr.cell? ⟨tb,n,none⟩=some (.slice a.p R.p.Aa[n].length a.c):=Mi tcel ha1;have Uh:True->wrap64 ((n:Int)+1)=n+1:=fun _=>IntWalk.wrap64_in _ Y
      have p8:((R.p.Aa.take (n+1)).any Yb)=((R.p.Aa.take n).any Yb || Yb R.p.Aa[n]):=by
       rw[Qar y8,List.any_append];simp
      obtain⟨nd,GQ⟩:∃z,z=R.p.Aa[n]:=⟨_,rfl⟩;rw[<-GQ] at p8 Hc t0;obtain⟨mb,PE⟩:∃b,b=(R.p.Aa.take n).any Yb:=⟨_,rfl⟩;rw[<-PE] at p8 ST Cu;have UW:=hid p8;clear PD WD ha1 zw IN hP hL1 yT htc tcel tfr p8 PE GQ y8 st;go_wp2_with fail;refine Hc.mono ?_;intro e w5 he;obtain⟨II,hm⟩:=he;subst II;have ST5:=hid (ST.trans (Ak.quiet ST.Am hm));have PD:=ST5.Am.Au (i:=0) rfl;clear Cu C6 AX Ve Cq t0 hm;have Cu:=PD.cell;have C6:=PD.free;have AX:=PD.lt;obtain⟨c1,KM⟩:∃z,z=(Ig nd).1:=⟨_,rfl⟩;obtain⟨c2,JC⟩:∃z,z=(Ig nd).2:=⟨_,rfl⟩;have bD:Yb nd=(decide (3 < c1) || decide (8 < c2)):=by unfold Yb;rw[<-KM,<-JC]
      rw[bD] at UW;rw[<-KM,<-JC];clear bD;clear PD KM JC Hc;cases mb with
      | true=>
       replace UW:=hid (UW.trans (Bool.true_or _));exact maD
      | false=>
       by_cases h3:3 < c1
       ·replace UW:=hid (UW.trans (show _=true by simp[h3]));exact maD
       ·by_cases h8:8 < c2
        ·replace UW:=hid (UW.trans (show _=true by simp[h8]));exact maD
        ·replace UW:=hid (UW.trans (Qcj _));go_wp2_with fail;go_roundw;case rel=>
          refine⟨n+1,by (try rw[Uh trivial]);rfl,Y,?_⟩;rw[UW.out];exact ST5.trans (ST5.Am.set (i:=0) rfl 7 (.bool (decide (3 < c1) || decide (8 < c2))))
         case measure=>(try rw[Uh trivial]);simp[intOf];omega
     ·have Bi:n=R.p.Aa.length:=Y
      have HQ3:=HQ2.out;rw[Bi,Qcc] at Cu ST;obtain⟨mb,PE⟩:∃b,b=R.p.Aa.any Yb:=⟨_,rfl⟩;rw[<-PE] at Cu HQ3 ST;have qA:=hid HQ3;clear PD WD Bi PE st HQ3;cases mb with
      | true=>
       replace qA:=hid (qA.trans (In (Bool.true_or _)));exact mbk
      | false=>
       by_cases h6:6 < R.p.cells
       ·replace qA:=hid (qA.trans (In (by simp[h6])));exact mbk
       ·by_cases h3:3 < R.p.Aa.length
        ·have h3i:(3:Int) < (R.p.Aa.length:Int):=Y
         replace qA:=hid (qA.trans (In (by simp[h3])));exact mbk
        ·have h3i:¬(3:Int) < (R.p.Aa.length:Int):=Y
         replace qA:=hid (qA.trans (I (by simp[h3,h6])));have HL:=hid HI.len;go_wp2;go_ret3;rw[qA.out];exact⟨g,R,rfl,HL,rfl,(Ak.quiet (Az.nil w) LD).trans (ST.trans (Ak.Tl (A:=[]) ST.Am))⟩
   | false=>
    have hb:=HBR.out;rw[eq_comm,decide_eq_false_iff_not] at hb;have HB:=hid hb;clear hb HBR;go_wp2_with fail;refine pX.mono ?_;intro e w5 he;obtain⟨v5,l5,II,uI,AaJ,Ab2⟩:=he;have AdU:l5=Bn p:=by rw[Cw] at Ab2;exact Q6 Ab2
    have uq:=Sl.M3 AaJ;rw[AdU] at uq;have Ab0:Bn p≠[]:=fun h=>Cb 32 p (Qdl.1 h)
    have AbO:∀a,a∈Bn p->a.size<=maxLen:=fun a ha=>by
     obtain⟨y,hy,rfl⟩:=Qbg.1 ha;have:=MT 32 p y hy;have:=HPL.out;rw[<-Bw,Cw];unfold maxLen;omega
    obtain⟨sp,sc,hv,_,_⟩:=uq.KO;obtain⟨sn,hsn⟩:∃n,n=(A3 (Bn p)).length:=⟨_,rfl⟩;rw[<-hsn] at hv;subst II;subst hv;have AaX:=hid (tz (Bn p) _ w5 _ uq Ab0 AbO);have AfZ:=hid uq;have Af5:=hid Ab0;have AfX:=hid AbO;have HI5:=hid (HI.quiet uI);have Hge:=hid uI.size;clear hsn AdU uq Ab0 AbO uI AaJ Ab2 r0 pX;go_wp2_with fail;refine AaX.mono ?_;intro e w6 he;obtain⟨II,qh⟩:=he;subst II;have HI6:=hid (HI5.quiet qh);clear AaX;have AdA:Sl w6 (fun b=>b∉D4 (g.Ar R)) (.slice sp sn sc) (A3 (Bn p)):=by
     refine(AfZ.mono fun b _ hb hf=> ?_).Bf qh EQ;have h1:=HI.st.Am.lt b hf;omega
    have AfY:=hid AdA;clear qh AdA;by_cases Iu:k=k0
    ·have WD:((k:Int)==(k0:Int))=true:=by rw[Iu];simp
     have hr:=hid (show Fp (bs s)= .error (2,k+1) by
       rw[HI.out.eq,Hd.out,Qbc (by rw[V,<-HK.out];simp;omega)];show(if _ then _ else _)=_;rw[I];rintro⟨h1,h2⟩;have fP:p=pl:=by rw[Hp.out];simp[Iu,HK.out]
       exact HB.out ⟨Iu,by rw[<-fP];exact h1,h2⟩)
     clear Iu;cases NH:Br (Bn p) with
     | true=>
      exact mbP
     | false=>
      exact mbP
    ·have WD:((k:Int)==(k0:Int))=false:=by rw[NE];omega
     obtain⟨q,r,uw⟩:∃q r,(Ax 10 (bs s)).drop k=p::q::r:=by
      rw[Hd.out];cases bB:(ini++[pl]).drop (k+1) with
      | nil=>have:=Qcu.1 bB;rw[V,<-HK.out] at this;simp at this;omega
      | cons q r=>exact⟨q,r,rfl⟩
     have Hqr:=hid uw;have heq:Fp (bs s)=if Br (Bn p) then match R.row (Bn p) with | .error c=> .error (c,k+1) | .ok r'=>I2 (q::r) (k+1) r' else .error (2,k+1):=by rw[HI.out.eq,uw];rfl
     have Heq:=hid heq;have AgR:k < k0:=Y
     clear uw heq Iu;cases NH:Br (Bn p) with
     | false=>
      have hr:=hid (Heq.trans (by rw[NH]));exact mbP
     | true=>
      have AdV:=hid NH;have ch:=hid (rL (Bn p) _ w6 g R k HI6.st.Am HI6.len HI6.go AfY AfX Af5 NH);clear NH;go_wp2_with fail;refine ch.mono ?_;intro e w7 he;clear ch;cases hr:R.row (Bn p) with
      | error c=>
       rw[hr] at he;obtain⟨II,hm⟩:=he;subst II;have UG:=cX hr;have bq:=hid (Heq.trans (by rw[AdV.out,hr]));have HM7:=hid (LD.Ad (HI6.Bf.trans hm (fun b hb=> .inr (HI6.new b hb))));clear hr hm;go_wp2;go_ret3;rw[bq.out];exact⟨rfl,HM7⟩
      | ok R'=>
       rw[hr] at he;obtain⟨II,g',AdE,hL',st'⟩:=he;subst II;obtain⟨y,hN⟩:=HI6.next Hqr AdV hr Y hL' st';have HN:=hid hN;have Af1:=hid AdE;clear hr hN hL' st' AdE;go_wp2;go_roundw;case rel=>exact⟨k+1,by (try rw[Nh trivial]);rfl,by (try rw[Nh trivial]);rfl,Y,g',R',y,Af1,HN⟩
       case measure=>(try rw[Nh trivial]);simp[intOf] <;>omega
end Go.Proofs.YtpdfifdlhpmofaaGreatDoor
