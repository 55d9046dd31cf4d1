/-
  Part 49 of the proof, packed by program out of I2, E3, E4.
-/
import Derived.Test.YtpdfifdlhpmofaaGreatDoorZ45
import Derived.Test.YtpdfifdlhpmofaaGreatDoorZ48
import Derived.Test.YtpdfifdlhpmofaaGreatDoorZ43
import Derived.Test.YtpdfifdlhpmofaaGreatDoorZ08
import Derived.Test.YtpdfifdlhpmofaaGreatDoorZ28
import Derived.Test.YtpdfifdlhpmofaaGreatDoorZ37
import Derived.Test.YtpdfifdlhpmofaaGreatDoorZ44
import Derived.Test.YtpdfifdlhpmofaaGreatDoorZ47
import Derived.Test.YtpdfifdlhpmofaaGreatDoorZ33
import Derived.Test.YtpdfifdlhpmofaaGreatDoorZ06
set_option linter.unusedVariables false
set_option linter.unusedSimpArgs false
set_option maxHeartbeats 3200000
set_option maxRecDepth 100000
namespace Go.Proofs.YtpdfifdlhpmofaaGreatDoor
open Go.RowKit
open Go.Lib (hid)
def jU (B:Nat) (l:By) (w:World):Prop:=Lib.IsBuilder 157 5 B B (Lib.byteCells l) w
theorem jU.quiet {B:Nat} {l:By} {w w':World} (h:jU B l w) (k:Av [] w w'):jU B l w':=by
 have f:∀p,Lib.BuilderAt 157 5 B B p (Lib.byteCells l) w→Lib.BuilderAt 157 5 B B p (Lib.byteCells l) w':=by
  rintro p ⟨h1,v,h2,h3,h4⟩;exact⟨h1,v,k.heap h2 (by simp),B5 h3 k (by simp),h4⟩
 exact Or.imp (f _) (f _) h
theorem Av.OR {a b c:World} (h:Av [] a b) (k:Below a.heap.size b c):Av [] a c:=
 ⟨k.os.trans h.os,k.tape.trans h.tape,k.output.trans h.output,Nat.le_trans h.size k.size,fun i hi _=>(k.block i hi).trans (h.block i hi (by simp))⟩
theorem UH (l m:By):Lib.byteCells l++Lib.byteCells m=Lib.byteCells (l++m):=by simp[Lib.byteCells]
theorem UG (l:By):(Lib.byteCells l).length=l.length:=by simp[Lib.byteCells]
theorem dw (m:By):Lib.strCells (AA m)=Lib.byteCells m:=by simp[Lib.strCells,Lib.byteCells,AA]
def tL (r:Value) (l:By) (w0:World) (e:Ending) (w':World):Prop:=e= .returned r∧jU w0.heap.size l w'∧Av [] w0 w'
theorem QD {w0 w:World} {l:By} (m:By) (h:jU w0.heap.size l w) (k:Av [] w0 w) (hl:l.length+m.length≤1000000) (s:ByteArray) (hs:s=AA m):
  Calls Tryz.prog 77 #[.pointer (some ⟨w0.heap.size,0,none⟩),.string s] w (tL (.tuple #[.int .i64 s.size,.nilIface]) (l++m) w0):=by
 subst hs;refine(lN w0.heap.size w0.heap.size (Lib.byteCells l) (AA m) w h (by rw[UG,J3];omega) k.size).mono ?_;rintro e w' ⟨rfl,h1,h2⟩;rw[dw,UH] at h1;exact⟨rfl,Or.inr h1,k.OR h2⟩
theorem SP {w0 w:World} {l:By} (h:jU w0.heap.size l w) (k:Av [] w0 w) (hl:l.length≤1000000):
  Calls Tryz.prog 78 #[.pointer (some ⟨w0.heap.size,0,none⟩),.int .u8 10] w (tL .nilIface (l++[10]) w0):=by
 refine(sM w0.heap.size w0.heap.size (Lib.byteCells l) 10 w h (by rw[UG];omega) k.size).mono ?_;rintro e w' ⟨rfl,h1,h2⟩;have e1:Lib.byteCells l++[.int .u8 10]=Lib.byteCells (l++[10]):=by rw[←UH];rfl
 rw[e1] at h1;exact⟨rfl,Or.inr h1,k.OR h2⟩
theorem xn {w0 w:World} {l:By} (h:jU w0.heap.size l w) (k:Av [] w0 w):
  Calls Tryz.prog 79 #[.pointer (some ⟨w0.heap.size,0,none⟩)] w (IM (.string (AA l)) w0):=by
 refine(Tryz.Builder_String_any w0.heap.size w0.heap.size l w h k.size).mono ?_;rintro e w' ⟨rfl,h2⟩;exact⟨rfl,k.OR h2⟩
theorem T2 {α:Type}:∀(cs:List SG) (ls:List (List α)) (k:Nat) (hc:k < cs.length) (hl:k < ls.length),(BL cs ls)[k]?=some (.slice cs[k].p ls[k].length cs[k].c)
 | [],_,_,hc,_=>by simp at hc
 | _::_,[],_,_,hl=>by simp at hl
 | c::cs,l::ls,0,_,_=>rfl
 | c::cs,l::ls,k+1,hc,hl=>by
  have:=T2 cs ls k (by simpa using hc) (by simpa using hl);simpa[BL] using this
theorem ei:∀(cs:List SG) (ls:List (List GI)) (k:Nat) (hc:k < cs.length) (hl:k < ls.length),(List.zipWith DG cs ls)[k]?=some (DG cs[k] ls[k])
 | [],_,_,hc,_=>by simp at hc
 | _::_,[],_,_,hl=>by simp at hl
 | c::cs,l::ls,0,_,_=>rfl
 | c::cs,l::ls,k+1,hc,hl=>by
  have:=ei cs ls k (by simpa using hc) (by simpa using hl);simpa using this
def z6 (i:GI):Prop:=Qn 4000 i∧i≠ .Mf
def FL (t:List GI) (q:Nat):By:=(t.take q).flatMap fun i=>i.Ae++[10]
theorem Om (t:List GI) (q:Nat) (hq:q < t.length):FL t (q+1)=FL t q++t[q].Ae++[10]:=by
 unfold FL;rw[TO t q hq,List.flatMap_append];simp
theorem Wf (ls:List (List GI)) (k:Nat) (hk:k < ls.length):DB (ls.take (k+1))=DB (ls.take k)++AE++[10]++FL ls[k] ls[k].length:=by
 unfold DB;rw[List.take_succ_eq_append_getElem hk];simp only[List.flatMap_append,List.flatMap_cons,List.flatMap_nil,List.append_nil];unfold QG FL;rw[List.take_length];simp
theorem W0 (t:List GI) (q:Nat) (hq:q < t.length):(FL t q).length+t[q].Ae.length+1≤(FL t t.length).length:=by
 have e:FL t t.length=FL t (q+1)++(t.drop (q+1)).flatMap fun i=>i.Ae++[10]:=by
  unfold FL;rw[List.take_length,←List.flatMap_append,List.take_append_drop]
 rw[e,Om t q hq];simp;omega
theorem Ya (ls:List (List GI)) (k:Nat):(DB (ls.take k)).length≤(DB ls).length:=by
 have e:DB ls=DB (ls.take k)++DB (ls.drop k):=by unfold DB;rw[←List.flatMap_append,List.take_append_drop]
 rw[e];simp
theorem IG (k:Nat) (hk:k≤100000):wrap64 ((k:Int)+1)=k+1:=IntWalk.wrap64_in _ (by omega)
theorem Vx {k:Int} {u:Int} (h:0≤k) (h2:k≤u) (hu:u≤4000:=by decide):i64 k:=by unfold i64;omega
theorem aY {n:ByteArray} (h:n∈Cn):n.size≤1000:=by have:=Q3 h;rw[show n.size=(bs n).length from rfl];omega
theorem bw (w:World) (_:OO w):Calls Tryz.prog 229 #[.agg #[]] w (IM (.string (AA (GI.Ae .halt))) w):=by
 go_enter Tryz.func229,Tryz.ntmps229;go_wp2;go_ret;exact⟨rfl,(Av.refl _ _).alloc _⟩
theorem qA:(⟨#[116,104,114,101,97,100,10]⟩:ByteArray)=AA (AE++[10]):=by decide+kernel
theorem eC (ls:List (List GI)) (op:Option Addr) (oc:Nat) (cs:List SG) (w:World) (h:AK w (GZ op ls.length oc cs ls)) (JZ:cs.length=ls.length) (ht:OO w)
  (Qq:∀l,l∈ls→∀i,i∈l→z6 i) (hl:(DB ls).length≤131072) (h3:ls.length≤1000) (h4:∀l,l∈ls→l.length≤10000):Calls Tryz.prog 51 #[.slice op ls.length oc] w (IM (.string (AA (DB ls))) w):=by
 have H:=hid h;have T:=hid ht;have Hok:=hid Qq;have nj:=hid JZ;have Hl:=hid hl;have H4:=hid h4;clear h ht Qq JZ hl h4;go_enter Tryz.func51,Tryz.ntmps51;go_wp2;have hA:jU w.heap.size (DB (ls.take 0)) _:=Lib.fresh_isBuilder 157 5 w;go_loopw [10] (fun i wr=>∃k:Nat,i= .int .i64 k∧k≤ls.length∧jU w.heap.size (DB (ls.take k)) wr∧Av [] w wr) (fun i _=>ls.length - (intOf i).toNat);case atStart=>exact⟨0,rfl,Nat.zero_le _,hA,(Av.refl _ _).alloc _⟩
 case round=>
  clear hA;obtain⟨k,rfl,hk,hA,hM⟩:=hrel;by_cases Bi:(k:Int) < (ls.length:Int)
  ·have E7:k < ls.length:=by omega
   have C8:k≤2000:=by omega
   have uh:k < cs.length:=by rw[nj.out];exact E7
   have ho:=H.out.quiet hM;obtain⟨ob,oc',rG,_,rl,_,_,rc,rf⟩:=AX (ho.row (i:=0) rfl) (by omega);cases rG;have QR:wr.cell? ⟨ob,k,none⟩=some (.slice cs[k].p ls[k].length cs[k].c):=by
    have e1:=T2 cs ls k uh E7;obtain⟨e2,e3⟩:=List.getElem?_eq_some_iff.1 e1;rw[rc k e2,e3]
   have Hf:(GZ (some ⟨ob,0,none⟩) ls.length oc cs ls)[k+1]?=some (DG cs[k] ls[k]):=ei cs ls k uh E7;have Na:=Hl.out;have mH:=Ya ls (k+1);have M8:=Wf ls k E7;rw[M8] at mH;have ox:=Hok.out ls[k] (List.getElem_mem _);have h4k:=H4.out ls[k] (List.getElem_mem _);have hg:AK w [DG cs[k] ls[k]]:=⟨fun o ah=>by rw[List.mem_singleton] at ah;subst ah;exact H.out.holds _ (List.mem_of_getElem? Hf),by simp[En,Ob.fp,DG,Value.ownBlock];split <;>simp⟩;obtain⟨t,hT⟩:∃t,t=ls[k]:=⟨_,rfl⟩;obtain⟨⟨cp,cc⟩,hC⟩:∃c,c=cs[k]:=⟨_,rfl⟩;obtain⟨X,hX⟩:∃X,X=DB (ls.take k):=⟨_,rfl⟩;rw[←hT,←hC] at QR hg;rw[←hT,←hX] at mH M8;rw[←hT] at ox h4k;rw[←hX] at hA;clear hT hC hX Hf rc rf uh ho;have HA:=hid hA;have HM:=hid hM;have Hg:=hid hg;have pM:=hid M8;have xE:=hid ox;simp only[List.length_append,List.length_singleton] at mH;have mP:X.length+AE.length+1+(FL t t.length).length≤131072:=by omega
   have Qf:=hid mP;clear hA hM hg M8 ox mH Na mP;have XY:=Int.natCast_nonneg k;go_wp2_with fail;refine(QD (AE++[10]) HA.out HM.out (by have:=Qf.out;simp only[List.length_append,List.length_singleton];omega) _ qA).mono ?_;rintro e w1 ⟨rfl,hA,hM⟩;clear HA HM QR;have sI:=hA;go_wp2;rw[←List.append_assoc] at sI;go_loopw [17] (fun i wr=>∃q:Nat,i= .int .i64 q∧q≤t.length∧jU w.heap.size (X++AE++[10]++FL t q) wr∧Av [] w wr) (fun i _=>t.length - (intOf i).toNat);case atStart=>exact⟨0,rfl,Nat.zero_le _,by have:FL t 0=[]:=rfl;rw[this,List.append_nil];exact sI,hM⟩
   case round=>
    clear hA hM sI;obtain⟨q,rfl,hq,hA,hM⟩:=hrel;by_cases hqt:(q:Int) < (t.length:Int)
    ·have Ov:q < t.length:=by omega
     have af:q≤100000:=by omega
     obtain⟨gb,gc,hgv,_,gl,_,_,gcell,gfr⟩:=AX ((Hg.out.quiet hM).row (i:=0) rfl) (by omega);cases hgv;have yV:(V8 t).length=t.length:=Ja t;have LC:wr.cell? ⟨gb,q,none⟩=some (GI.val t[q]):=by rw[gcell q (by rw[yV];exact Ov)];simp[V8]
     have wm:=W0 t q Ov;have Sc:=Om t q Ov;have oy:=xE.out t[q] (List.getElem_mem _);obtain⟨i,hi⟩:∃i,i=t[q]:=⟨_,rfl⟩;rw[←hi] at LC wm Sc oy;have HA:=hid hA;have HM:=hid hM;have SR:=hid Sc;have Tf:=hid wm;have QE:=hid oy;clear hi gcell gfr yV wm Sc oy hA hM;have tT:=Int.natCast_nonneg q;cases i with
     | J9 d a=>
      have h:=QE.out.1;have LB:wr.cell? ⟨gb,q,none⟩=some (.iface 316 (.agg #[.int .i64 d,.bool a.BF,.int .i64 a.v])):=LC;have Tv:∀w,(method 492 316 (.agg #[.int .i64 d,.bool a.BF,.int .i64 a.v]) "String").run Tryz.prog w= .ok (274,.agg #[.int .i64 d,.bool a.BF,.int .i64 a.v]) w:=fun _=>by kernel_rfl
      have Gc:=hid (eJ d a h.1 h.2);clear LC;go_wp2_with fail;refine(Gc.out _ (T.out.quiet HM.out)).mono ?_;rintro e w2 ⟨rfl,CY⟩;clear Gc Tv LB h;have Nl:=hid (HA.out.quiet CY);have Gw:=hid (HM.out.Ac CY);clear HA HM CY;go_wp2_with fail;refine(QD (GI.Ae (.J9 d a)) Nl.out Gw.out (by have:=Qf.out;have:=Tf.out;simp only[List.length_append,List.length_singleton];omega) _ rfl).mono ?_;rintro e w3 ⟨rfl,Ng,Ji⟩;clear Nl Gw;have Nk:=hid Ng;have JL:=hid Ji;clear Ng Ji;go_wp2_with fail;refine(SP Nk.out JL.out (by have:=Qf.out;have:=Tf.out;simp only[List.length_append,List.length_singleton];omega)).mono ?_;rintro e w4 ⟨rfl,Nf,Nc⟩;clear Nk JL;have TG:=hid Nf;have QW:=hid Nc;clear Nf Nc;obtain⟨s1,JX⟩:∃s,s=AA (GI.Ae (.J9 d a)):=⟨_,rfl⟩;rw[←JX];clear JX;obtain⟨z1,EK⟩:∃z,z=s1.size:=⟨_,rfl⟩;rw[←EK];clear EK;have inc:True→wrap64 ((q:Int)+1)=q+1:=fun _=>IG q af
      go_wp2;go_roundw;case rel=>exact⟨q+1,rfl,Ov,by rw[SR.out];simpa only[List.append_assoc] using TG.out,QW.out⟩
      case measure=>simp[intOf];omega
     | op n d a b=>
      have h:=QE.out.1;have LB:wr.cell? ⟨gb,q,none⟩=some (.iface 290 (.agg #[.string n,.int .i64 d,.bool a.BF,.int .i64 a.v,.bool b.BF,.int .i64 b.v])):=LC;have Tv:∀w,(method 492 290 (.agg #[.string n,.int .i64 d,.bool a.BF,.int .i64 a.v,.bool b.BF,.int .i64 b.v]) "String").run Tryz.prog w= .ok (259,.agg #[.string n,.int .i64 d,.bool a.BF,.int .i64 a.v,.bool b.BF,.int .i64 b.v]) w:=fun _=>by kernel_rfl
      have Gc:=hid (ku n d a b (aY h.1) h.2.1 h.2.2.1 h.2.2.2);clear LC;go_wp2_with fail;refine(Gc.out _ (T.out.quiet HM.out)).mono ?_;rintro e w2 ⟨rfl,CY⟩;clear Gc Tv LB h;have Nl:=hid (HA.out.quiet CY);have Gw:=hid (HM.out.Ac CY);clear HA HM CY;go_wp2_with fail;refine(QD (GI.Ae (.op n d a b)) Nl.out Gw.out (by have:=Qf.out;have:=Tf.out;simp only[List.length_append,List.length_singleton];omega) _ rfl).mono ?_;rintro e w3 ⟨rfl,Ng,Ji⟩;clear Nl Gw;have Nk:=hid Ng;have JL:=hid Ji;clear Ng Ji;go_wp2_with fail;refine(SP Nk.out JL.out (by have:=Qf.out;have:=Tf.out;simp only[List.length_append,List.length_singleton];omega)).mono ?_;rintro e w4 ⟨rfl,Nf,Nc⟩;clear Nk JL;have TG:=hid Nf;have QW:=hid Nc;clear Nf Nc;obtain⟨s1,JX⟩:∃s,s=AA (GI.Ae (.op n d a b)):=⟨_,rfl⟩;rw[←JX];clear JX;obtain⟨z1,EK⟩:∃z,z=s1.size:=⟨_,rfl⟩;rw[←EK];clear EK;have inc:True→wrap64 ((q:Int)+1)=q+1:=fun _=>IG q af
      go_wp2;go_roundw;case rel=>exact⟨q+1,rfl,Ov,by rw[SR.out];simpa only[List.append_assoc] using TG.out,QW.out⟩
      case measure=>simp[intOf];omega
     | load d a k2=>
      have h:=QE.out.1;have LB:wr.cell? ⟨gb,q,none⟩=some (.iface 297 (.agg #[.int .i64 d,.bool a.BF,.int .i64 a.v,.int .i64 k2])):=LC;have Tv:∀w,(method 492 297 (.agg #[.int .i64 d,.bool a.BF,.int .i64 a.v,.int .i64 k2]) "String").run Tryz.prog w= .ok (266,.agg #[.int .i64 d,.bool a.BF,.int .i64 a.v,.int .i64 k2]) w:=fun _=>by kernel_rfl
      have Gc:=hid (bt d a k2 h.1 h.2.1 h.2.2);clear LC;go_wp2_with fail;refine(Gc.out _ (T.out.quiet HM.out)).mono ?_;rintro e w2 ⟨rfl,CY⟩;clear Gc Tv LB h;have Nl:=hid (HA.out.quiet CY);have Gw:=hid (HM.out.Ac CY);clear HA HM CY;go_wp2_with fail;refine(QD (GI.Ae (.load d a k2)) Nl.out Gw.out (by have:=Qf.out;have:=Tf.out;simp only[List.length_append,List.length_singleton];omega) _ rfl).mono ?_;rintro e w3 ⟨rfl,Ng,Ji⟩;clear Nl Gw;have Nk:=hid Ng;have JL:=hid Ji;clear Ng Ji;go_wp2_with fail;refine(SP Nk.out JL.out (by have:=Qf.out;have:=Tf.out;simp only[List.length_append,List.length_singleton];omega)).mono ?_;rintro e w4 ⟨rfl,Nf,Nc⟩;clear Nk JL;have TG:=hid Nf;have QW:=hid Nc;clear Nf Nc;obtain⟨s1,JX⟩:∃s,s=AA (GI.Ae (.load d a k2)):=⟨_,rfl⟩;rw[←JX];clear JX;obtain⟨z1,EK⟩:∃z,z=s1.size:=⟨_,rfl⟩;rw[←EK];clear EK;have inc:True→wrap64 ((q:Int)+1)=q+1:=fun _=>IG q af
      go_wp2;go_roundw;case rel=>exact⟨q+1,rfl,Ov,by rw[SR.out];simpa only[List.append_assoc] using TG.out,QW.out⟩
      case measure=>simp[intOf];omega
     | store a k2 b=>
      have h:=QE.out.1;have LB:wr.cell? ⟨gb,q,none⟩=some (.iface 292 (.agg #[.bool a.BF,.int .i64 a.v,.int .i64 k2,.bool b.BF,.int .i64 b.v])):=LC;have Tv:∀w,(method 492 292 (.agg #[.bool a.BF,.int .i64 a.v,.int .i64 k2,.bool b.BF,.int .i64 b.v]) "String").run Tryz.prog w= .ok (262,.agg #[.bool a.BF,.int .i64 a.v,.int .i64 k2,.bool b.BF,.int .i64 b.v]) w:=fun _=>by kernel_rfl
      have Gc:=hid (Ym a k2 b h.1 h.2.1 h.2.2);clear LC;go_wp2_with fail;refine(Gc.out _ (T.out.quiet HM.out)).mono ?_;rintro e w2 ⟨rfl,CY⟩;clear Gc Tv LB h;have Nl:=hid (HA.out.quiet CY);have Gw:=hid (HM.out.Ac CY);clear HA HM CY;go_wp2_with fail;refine(QD (GI.Ae (.store a k2 b)) Nl.out Gw.out (by have:=Qf.out;have:=Tf.out;simp only[List.length_append,List.length_singleton];omega) _ rfl).mono ?_;rintro e w3 ⟨rfl,Ng,Ji⟩;clear Nl Gw;have Nk:=hid Ng;have JL:=hid Ji;clear Ng Ji;go_wp2_with fail;refine(SP Nk.out JL.out (by have:=Qf.out;have:=Tf.out;simp only[List.length_append,List.length_singleton];omega)).mono ?_;rintro e w4 ⟨rfl,Nf,Nc⟩;clear Nk JL;have TG:=hid Nf;have QW:=hid Nc;clear Nf Nc;obtain⟨s1,JX⟩:∃s,s=AA (GI.Ae (.store a k2 b)):=⟨_,rfl⟩;rw[←JX];clear JX;obtain⟨z1,EK⟩:∃z,z=s1.size:=⟨_,rfl⟩;rw[←EK];clear EK;have inc:True→wrap64 ((q:Int)+1)=q+1:=fun _=>IG q af
      go_wp2;go_roundw;case rel=>exact⟨q+1,rfl,Ov,by rw[SR.out];simpa only[List.append_assoc] using TG.out,QW.out⟩
      case measure=>simp[intOf];omega
     | LL d a k2 b c=>
      have h:=QE.out.1;have LB:wr.cell? ⟨gb,q,none⟩=some (.iface 312 (.agg #[.int .i64 d,.bool a.BF,.int .i64 a.v,.int .i64 k2,.bool b.BF,.int .i64 b.v,.bool c.BF,.int .i64 c.v])):=LC;have Tv:∀w,(method 492 312 (.agg #[.int .i64 d,.bool a.BF,.int .i64 a.v,.int .i64 k2,.bool b.BF,.int .i64 b.v,.bool c.BF,.int .i64 c.v]) "String").run Tryz.prog w= .ok (270,.agg #[.int .i64 d,.bool a.BF,.int .i64 a.v,.int .i64 k2,.bool b.BF,.int .i64 b.v,.bool c.BF,.int .i64 c.v]) w:=fun _=>by kernel_rfl
      have Gc:=hid (eR d a k2 b c h.1 h.2.1 h.2.2.1 h.2.2.2.1 h.2.2.2.2);clear LC;go_wp2_with fail;refine(Gc.out _ (T.out.quiet HM.out)).mono ?_;rintro e w2 ⟨rfl,CY⟩;clear Gc Tv LB h;have Nl:=hid (HA.out.quiet CY);have Gw:=hid (HM.out.Ac CY);clear HA HM CY;go_wp2_with fail;refine(QD (GI.Ae (.LL d a k2 b c)) Nl.out Gw.out (by have:=Qf.out;have:=Tf.out;simp only[List.length_append,List.length_singleton];omega) _ rfl).mono ?_;rintro e w3 ⟨rfl,Ng,Ji⟩;clear Nl Gw;have Nk:=hid Ng;have JL:=hid Ji;clear Ng Ji;go_wp2_with fail;refine(SP Nk.out JL.out (by have:=Qf.out;have:=Tf.out;simp only[List.length_append,List.length_singleton];omega)).mono ?_;rintro e w4 ⟨rfl,Nf,Nc⟩;clear Nk JL;have TG:=hid Nf;have QW:=hid Nc;clear Nf Nc;obtain⟨s1,JX⟩:∃s,s=AA (GI.Ae (.LL d a k2 b c)):=⟨_,rfl⟩;rw[←JX];clear JX;obtain⟨z1,EK⟩:∃z,z=s1.size:=⟨_,rfl⟩;rw[←EK];clear EK;have inc:True→wrap64 ((q:Int)+1)=q+1:=fun _=>IG q af
      go_wp2;go_roundw;case rel=>exact⟨q+1,rfl,Ov,by rw[SR.out];simpa only[List.append_assoc] using TG.out,QW.out⟩
      case measure=>simp[intOf];omega
     | GL d a k2 b=>
      have h:=QE.out.1;have LB:wr.cell? ⟨gb,q,none⟩=some (.iface 314 (.agg #[.int .i64 d,.bool a.BF,.int .i64 a.v,.int .i64 k2,.bool b.BF,.int .i64 b.v])):=LC;have Tv:∀w,(method 492 314 (.agg #[.int .i64 d,.bool a.BF,.int .i64 a.v,.int .i64 k2,.bool b.BF,.int .i64 b.v]) "String").run Tryz.prog w= .ok (272,.agg #[.int .i64 d,.bool a.BF,.int .i64 a.v,.int .i64 k2,.bool b.BF,.int .i64 b.v]) w:=fun _=>by kernel_rfl
      have Gc:=hid (bh d a k2 b h.1 h.2.1 h.2.2.1 h.2.2.2);clear LC;go_wp2_with fail;refine(Gc.out _ (T.out.quiet HM.out)).mono ?_;rintro e w2 ⟨rfl,CY⟩;clear Gc Tv LB h;have Nl:=hid (HA.out.quiet CY);have Gw:=hid (HM.out.Ac CY);clear HA HM CY;go_wp2_with fail;refine(QD (GI.Ae (.GL d a k2 b)) Nl.out Gw.out (by have:=Qf.out;have:=Tf.out;simp only[List.length_append,List.length_singleton];omega) _ rfl).mono ?_;rintro e w3 ⟨rfl,Ng,Ji⟩;clear Nl Gw;have Nk:=hid Ng;have JL:=hid Ji;clear Ng Ji;go_wp2_with fail;refine(SP Nk.out JL.out (by have:=Qf.out;have:=Tf.out;simp only[List.length_append,List.length_singleton];omega)).mono ?_;rintro e w4 ⟨rfl,Nf,Nc⟩;clear Nk JL;have TG:=hid Nf;have QW:=hid Nc;clear Nf Nc;obtain⟨s1,JX⟩:∃s,s=AA (GI.Ae (.GL d a k2 b)):=⟨_,rfl⟩;rw[←JX];clear JX;obtain⟨z1,EK⟩:∃z,z=s1.size:=⟨_,rfl⟩;rw[←EK];clear EK;have inc:True→wrap64 ((q:Int)+1)=q+1:=fun _=>IG q af
      go_wp2;go_roundw;case rel=>exact⟨q+1,rfl,Ov,by rw[SR.out];simpa only[List.append_assoc] using TG.out,QW.out⟩
      case measure=>simp[intOf];omega
     | out a=>
      have h:=QE.out.1;have LB:wr.cell? ⟨gb,q,none⟩=some (.iface 276 (.agg #[.bool a.BF,.int .i64 a.v])):=LC;have Tv:∀w,(method 492 276 (.agg #[.bool a.BF,.int .i64 a.v]) "String").run Tryz.prog w= .ok (255,.agg #[.bool a.BF,.int .i64 a.v]) w:=fun _=>by kernel_rfl
      have Gc:=hid (eI a h);clear LC;go_wp2_with fail;refine(Gc.out _ (T.out.quiet HM.out)).mono ?_;rintro e w2 ⟨rfl,CY⟩;clear Gc Tv LB h;have Nl:=hid (HA.out.quiet CY);have Gw:=hid (HM.out.Ac CY);clear HA HM CY;go_wp2_with fail;refine(QD (GI.Ae (.out a)) Nl.out Gw.out (by have:=Qf.out;have:=Tf.out;simp only[List.length_append,List.length_singleton];omega) _ rfl).mono ?_;rintro e w3 ⟨rfl,Ng,Ji⟩;clear Nl Gw;have Nk:=hid Ng;have JL:=hid Ji;clear Ng Ji;go_wp2_with fail;refine(SP Nk.out JL.out (by have:=Qf.out;have:=Tf.out;simp only[List.length_append,List.length_singleton];omega)).mono ?_;rintro e w4 ⟨rfl,Nf,Nc⟩;clear Nk JL;have TG:=hid Nf;have QW:=hid Nc;clear Nf Nc;obtain⟨s1,JX⟩:∃s,s=AA (GI.Ae (.out a)):=⟨_,rfl⟩;rw[←JX];clear JX;obtain⟨z1,EK⟩:∃z,z=s1.size:=⟨_,rfl⟩;rw[←EK];clear EK;have inc:True→wrap64 ((q:Int)+1)=q+1:=fun _=>IG q af
      go_wp2;go_roundw;case rel=>exact⟨q+1,rfl,Ov,by rw[SR.out];simpa only[List.append_assoc] using TG.out,QW.out⟩
      case measure=>simp[intOf];omega
     | Ga k2=>
      have h:=QE.out.1;have LB:wr.cell? ⟨gb,q,none⟩=some (.iface 280 (.agg #[.int .i64 k2])):=LC;have Tv:∀w,(method 492 280 (.agg #[.int .i64 k2]) "String").run Tryz.prog w= .ok (257,.agg #[.int .i64 k2]) w:=fun _=>by kernel_rfl
      have Gc:=hid (eK k2 (Vx h.1 h.2));clear LC;go_wp2_with fail;refine(Gc.out _ (T.out.quiet HM.out)).mono ?_;rintro e w2 ⟨rfl,CY⟩;clear Gc Tv LB h;have Nl:=hid (HA.out.quiet CY);have Gw:=hid (HM.out.Ac CY);clear HA HM CY;go_wp2_with fail;refine(QD (GI.Ae (.Ga k2)) Nl.out Gw.out (by have:=Qf.out;have:=Tf.out;simp only[List.length_append,List.length_singleton];omega) _ rfl).mono ?_;rintro e w3 ⟨rfl,Ng,Ji⟩;clear Nl Gw;have Nk:=hid Ng;have JL:=hid Ji;clear Ng Ji;go_wp2_with fail;refine(SP Nk.out JL.out (by have:=Qf.out;have:=Tf.out;simp only[List.length_append,List.length_singleton];omega)).mono ?_;rintro e w4 ⟨rfl,Nf,Nc⟩;clear Nk JL;have TG:=hid Nf;have QW:=hid Nc;clear Nf Nc;obtain⟨s1,JX⟩:∃s,s=AA (GI.Ae (.Ga k2)):=⟨_,rfl⟩;rw[←JX];clear JX;obtain⟨z1,EK⟩:∃z,z=s1.size:=⟨_,rfl⟩;rw[←EK];clear EK;have inc:True→wrap64 ((q:Int)+1)=q+1:=fun _=>IG q af
      go_wp2;go_roundw;case rel=>exact⟨q+1,rfl,Ov,by rw[SR.out];simpa only[List.append_assoc] using TG.out,QW.out⟩
      case measure=>simp[intOf];omega
     | jz a k2=>
      have h:=QE.out.1;have LB:wr.cell? ⟨gb,q,none⟩=some (.iface 299 (.agg #[.bool a.BF,.int .i64 a.v,.int .i64 k2])):=LC;have Tv:∀w,(method 492 299 (.agg #[.bool a.BF,.int .i64 a.v,.int .i64 k2]) "String").run Tryz.prog w= .ok (268,.agg #[.bool a.BF,.int .i64 a.v,.int .i64 k2]) w:=fun _=>by kernel_rfl
      have Gc:=hid (kx a k2 h.1 (Vx h.2.1 h.2.2));clear LC;go_wp2_with fail;refine(Gc.out _ (T.out.quiet HM.out)).mono ?_;rintro e w2 ⟨rfl,CY⟩;clear Gc Tv LB h;have Nl:=hid (HA.out.quiet CY);have Gw:=hid (HM.out.Ac CY);clear HA HM CY;go_wp2_with fail;refine(QD (GI.Ae (.jz a k2)) Nl.out Gw.out (by have:=Qf.out;have:=Tf.out;simp only[List.length_append,List.length_singleton];omega) _ rfl).mono ?_;rintro e w3 ⟨rfl,Ng,Ji⟩;clear Nl Gw;have Nk:=hid Ng;have JL:=hid Ji;clear Ng Ji;go_wp2_with fail;refine(SP Nk.out JL.out (by have:=Qf.out;have:=Tf.out;simp only[List.length_append,List.length_singleton];omega)).mono ?_;rintro e w4 ⟨rfl,Nf,Nc⟩;clear Nk JL;have TG:=hid Nf;have QW:=hid Nc;clear Nf Nc;obtain⟨s1,JX⟩:∃s,s=AA (GI.Ae (.jz a k2)):=⟨_,rfl⟩;rw[←JX];clear JX;obtain⟨z1,EK⟩:∃z,z=s1.size:=⟨_,rfl⟩;rw[←EK];clear EK;have inc:True→wrap64 ((q:Int)+1)=q+1:=fun _=>IG q af
      go_wp2;go_roundw;case rel=>exact⟨q+1,rfl,Ov,by rw[SR.out];simpa only[List.append_assoc] using TG.out,QW.out⟩
      case measure=>simp[intOf];omega
     | Eu k2=>
      have h:=QE.out.1;have LB:wr.cell? ⟨gb,q,none⟩=some (.iface 294 (.agg #[.int .i64 k2])):=LC;have Tv:∀w,(method 492 294 (.agg #[.int .i64 k2]) "String").run Tryz.prog w= .ok (264,.agg #[.int .i64 k2]) w:=fun _=>by kernel_rfl
      have Gc:=hid (bj k2 (Vx (Int.le_trans (by decide) h.1) h.2));clear LC;go_wp2_with fail;refine(Gc.out _ (T.out.quiet HM.out)).mono ?_;rintro e w2 ⟨rfl,CY⟩;clear Gc Tv LB h;have Nl:=hid (HA.out.quiet CY);have Gw:=hid (HM.out.Ac CY);clear HA HM CY;go_wp2_with fail;refine(QD (GI.Ae (.Eu k2)) Nl.out Gw.out (by have:=Qf.out;have:=Tf.out;simp only[List.length_append,List.length_singleton];omega) _ rfl).mono ?_;rintro e w3 ⟨rfl,Ng,Ji⟩;clear Nl Gw;have Nk:=hid Ng;have JL:=hid Ji;clear Ng Ji;go_wp2_with fail;refine(SP Nk.out JL.out (by have:=Qf.out;have:=Tf.out;simp only[List.length_append,List.length_singleton];omega)).mono ?_;rintro e w4 ⟨rfl,Nf,Nc⟩;clear Nk JL;have TG:=hid Nf;have QW:=hid Nc;clear Nf Nc;obtain⟨s1,JX⟩:∃s,s=AA (GI.Ae (.Eu k2)):=⟨_,rfl⟩;rw[←JX];clear JX;obtain⟨z1,EK⟩:∃z,z=s1.size:=⟨_,rfl⟩;rw[←EK];clear EK;have inc:True→wrap64 ((q:Int)+1)=q+1:=fun _=>IG q af
      go_wp2;go_roundw;case rel=>exact⟨q+1,rfl,Ov,by rw[SR.out];simpa only[List.append_assoc] using TG.out,QW.out⟩
      case measure=>simp[intOf];omega
     | halt=>
      have h:=QE.out.1;have LB:wr.cell? ⟨gb,q,none⟩=some (.iface 173 (.agg #[])):=LC;have Tv:∀w,(method 492 173 (.agg #[]) "String").run Tryz.prog w= .ok (229,.agg #[]) w:=fun _=>by kernel_rfl
      have Gc:=hid (bw);clear LC;go_wp2_with fail;refine(Gc.out _ (T.out.quiet HM.out)).mono ?_;rintro e w2 ⟨rfl,CY⟩;clear Gc Tv LB h;have Nl:=hid (HA.out.quiet CY);have Gw:=hid (HM.out.Ac CY);clear HA HM CY;go_wp2_with fail;refine(QD (GI.Ae (.halt)) Nl.out Gw.out (by have:=Qf.out;have:=Tf.out;simp only[List.length_append,List.length_singleton];omega) _ rfl).mono ?_;rintro e w3 ⟨rfl,Ng,Ji⟩;clear Nl Gw;have Nk:=hid Ng;have JL:=hid Ji;clear Ng Ji;go_wp2_with fail;refine(SP Nk.out JL.out (by have:=Qf.out;have:=Tf.out;simp only[List.length_append,List.length_singleton];omega)).mono ?_;rintro e w4 ⟨rfl,Nf,Nc⟩;clear Nk JL;have TG:=hid Nf;have QW:=hid Nc;clear Nf Nc;obtain⟨s1,JX⟩:∃s,s=AA (GI.Ae (.halt)):=⟨_,rfl⟩;rw[←JX];clear JX;obtain⟨z1,EK⟩:∃z,z=s1.size:=⟨_,rfl⟩;rw[←EK];clear EK;have inc:True→wrap64 ((q:Int)+1)=q+1:=fun _=>IG q af
      go_wp2;go_roundw;case rel=>exact⟨q+1,rfl,Ov,by rw[SR.out];simpa only[List.append_assoc] using TG.out,QW.out⟩
      case measure=>simp[intOf];omega
     | Mf=>exact absurd rfl QE.out.2
    ·have hqc:q=t.length:=by omega
     subst hqc;have HA:=hid hA;have HM:=hid hM;clear hA hM;have inc:True→wrap64 ((k:Int)+1)=k+1:=fun _=>IG k (Nat.le_trans C8 (by decide))
     go_wp2;go_roundw;case rel=>exact⟨k+1,rfl,E7,by rw[pM.out];exact HA.out,HM.out⟩
     case measure=>simp[intOf];omega
  ·have Pc:k=ls.length:=by omega
   subst Pc;rw[List.take_length] at hA;have HA:=hid hA;have HM:=hid hM;clear hA hM;go_wp2_with fail;refine(xn HA.out HM.out).mono ?_;rintro e w1 ⟨rfl,hm⟩;go_wp2;go_ret;exact⟨rfl,hm⟩
def Iy (y:qr):By:=DB (CS y.cells y.Aa y.Aa.length)
def tI (res:Except (Int×Nat) qr) (w:World) (e:Ending) (w':World):Prop:=match res with
 | .error c=>∃fb,e= .returned (.tuple #[.string ⟨#[]⟩,.iface 123 (.pointer (some ⟨fb,0,none⟩))])∧BR w' fb #[.int .i64 c.1,.int .i64 c.2] 127∧Av [] w w'
 | .ok y=>e= .returned (.tuple #[.string (AA (Iy y)),.nilIface])∧Av [] w w'
theorem U3 (mb:Nat) (s:ByteArray) (w:World) (hg:Gl mb w) (hs:s.size≤1000000):
  Calls Tryz.prog 33 #[.string s] w (tI (EY (bs s)) w):=by
 have Hp:=hid (Zj mb s w hg hs);have HG:=hid hg;clear hg;go_enter Tryz.func33,Tryz.ntmps33;go_wp2_with fail;refine Hp.out.mono ?_;intro e w1 he;clear Hp;cases hr:EY (bs s) with
 | error c=>
  rw[hr] at he;obtain⟨fb,GJ,hb,hm⟩:=he;subst GJ;have Hb:=hid hb;have Hm:=hid hm;have HR:=hid hr;clear hr hb hm;go_wp2;go_ret2;rw[HR.out];exact⟨fb,rfl,Hb.out,Hm.out⟩
 | ok y=>
  rw[hr] at he;obtain⟨F,pb,tp,tc,rows,GJ,hm,hK,dW,Hf,Tt⟩:=he;subst GJ;have Vz:=Ub (bs s);rw[hr] at Vz;obtain⟨p,hP⟩:∃p,PS y p:=by
   unfold aT at Vz;cases hq:GR (bs s) with
   | error d=>rw[hq] at Vz;exact Vz.elim
   | ok p=>rw[hq] at Vz;exact⟨p,Vz⟩
  obtain⟨ri,n7,so,h3⟩:=OC hP;have tu:=hid (iZ F y.cells ⟨hP.fw.c0,so⟩ y.Aa pb tp tc rows w1 hK dW Hf Tt h3 (fun t ht=>⟨(n7 t ht).1,(n7 t ht).2,by have:=hP.fn.all t ht;have:=U6 t;omega⟩));have ur:=hid ri;have Hm:=hid hm;have HP:=hid hP;have HR:=hid hr;clear hr Vz hm hK dW Hf Tt ri n7 hP so;go_wp2_with fail;refine tu.out.mono ?_;intro e w2 he;obtain⟨op,oc,cs,GJ,JZ,AI⟩:=he;subst GJ;have CY:Av [] w1 w2:=AI.Bh.mono fun x hx=>by simp[En] at hx
  have Dp:=ID y.cells y.Aa y.Aa.length;have CN:AK w2 (GZ op (CS y.cells y.Aa y.Aa.length).length oc cs (CS y.cells y.Aa y.Aa.length)):=by rw[Dp];exact AI.Al
  have mZ:=hid (eC _ op oc cs w2 CN (by rw[Dp,JZ]) ((HG.out.quiet Hm.out).quiet CY).ym (fun l hl i hi=>⟨(ur.out l hl).2.1 i hi,fun e=>by have:=(ur.out l hl).2.1 i hi;rw[e] at this;exact this⟩) (U2 HP.out) (by rw[Dp];omega) (fun l hl=>by have:=(ur.out l hl).1;omega));rw[Dp] at mZ;have V9:=hid (Hm.out.Ac CY);clear JZ AI CY Dp CN h3;go_wp2_with fail;refine mZ.out.mono ?_;intro e w3 he;obtain⟨GJ,O9⟩:=he;subst GJ;have jS:=hid (V9.out.Ac O9);clear O9;go_wp2;go_ret2;rw[HR.out];exact⟨rfl,jS.out⟩
def ZG (res:Except (Int×Nat) qr) (w:World) (e:Ending) (w':World):Prop:=Av [] w w'∧match res with
 | .error c=>e= .returned (.tuple #[.string ⟨#[]⟩,.int .i64 c.1,.int .i64 c.2])
 | .ok y=>e= .returned (.tuple #[.string (AA (Iy y)),.int .i64 0,.int .i64 0])
theorem TI.quiet {w w':World} (h:TI w) (k:Av [] w w'):TI w':=BB k h
theorem Vm (mb:Nat) (s:ByteArray) (w:World) (hg:Gl mb w) (ht:TI w) (hs:s.size≤1000000):
  Calls Tryz.prog 22 #[.string s] w (ZG (EY (bs s)) w):=by
 have Hc:=hid (U3 mb s w hg hs);have Ht:=hid ht;clear hg ht;go_enter Tryz.func22,Tryz.ntmps22;go_wp2_with fail;refine Hc.out.mono ?_;intro e w1 he;cases hr:EY (bs s) with
 | error c=>
  rw[hr] at he;obtain⟨fb,GJ,hb,hm⟩:=he;subst GJ;have HT:=hid (Yb fb c.1 c.2 w1 hb (Ht.out.quiet hm));have HM:=hid hm;have HR:=hid hr;clear hr hb hm;go_wp2_with fail;refine HT.out.mono ?_;intro e w2 he;obtain⟨GJ,hm⟩:=he;subst GJ;have Gw:=hid (HM.out.Ac hm);clear hm;go_wp2;go_ret3;rw[HR.out];exact⟨Gw.out,rfl⟩
 | ok y=>
  rw[hr] at he;obtain⟨GJ,hm⟩:=he;subst GJ;have HT:=hid (j9 w1);have HM:=hid hm;have HR:=hid hr;clear hr hm;go_wp2_with fail;refine HT.out.mono ?_;intro e w2 he;obtain⟨GJ,hm⟩:=he;subst GJ;have Gw:=hid (HM.out.Ac hm);clear hm;go_wp2;go_ret3;rw[HR.out];exact⟨Gw.out,rfl⟩
theorem PK {n:Nat} {r:RS} {c:Int×Nat} (h:Iq n r= .error c):((c.1:Int) !=0)=true:=by
 unfold Iq at h;split at h
 ·cases h;rfl
 split at h
 ·cases h;rfl
 ·cases h
theorem Rt:∀(l:List By) (n:Nat) (r:RS) (c:Int×Nat),J6 l n r= .error c→((c.1:Int) !=0)=true
 | [],n,r,c,h=>PK h
 | [p],n,r,c,h=>by
  unfold J6 at h;split at h
  ·exact PK h
  ·cases h;rfl
 | p::q::l,n,r,c,h=>by
  unfold J6 at h;split at h
  ·split at h
   ·rename_i hr;cases h;exact Wu hr
   ·exact Rt _ _ _ _ h
  ·cases h;rfl
theorem bF {s:By} {c:Int×Nat} (h:GR s= .error c):((c.1:Int) !=0)=true:=by
 unfold GR at h;split at h
 ·cases h;rfl
 ·exact Rt _ _ _ _ h
def l9 (s:By) (w:World) (e:Ending) (w':World):Prop:=match GR s with
 | .error _=>e= .returned (.tuple #[.string ⟨#[]⟩,.pointer none,.bool true])∧Av [] w w'
 | .ok p=>∃(y:qr) (g:RG) (R:RS),PS y p∧R.p=p∧Dl g R∧e= .returned (.tuple #[.string (AA (Iy y)),.pointer (some ⟨g.pb,0,none⟩),.bool true])∧Ad w [] w' (g.rest R)
theorem VQ (mb:Nat) (s:ByteArray) (w:World) (hg:Gl mb w) (ht:TI w) (hs:s.size≤1000000):
  Calls Tryz.prog 9 #[.string s] w (l9 (bs s) w):=by
 have Hc:=hid (Vm mb s w hg ht hs);have Hs:=hid hs;clear hg ht hs;have Vz:=Ub (bs s);cases hf:EY (bs s) with
 | error c=>
  rw[hf] at Vz;cases hr:GR (bs s) with
  | ok p=>rw[hr] at Vz;exact Vz.elim
  | error d=>
   rw[hr] at Vz;obtain rfl:c=d:=Vz;have he:=bF hr;have q1:((c.1:Int) !=c.1)=false:=by simp
   have q2:((c.2:Int) !=(c.2:Int))=false:=by simp
   have HF:=hid hf;have HR:=hid hr;clear hf hr;go_enter Tryz.func9,Tryz.ntmps9;go_wp2_with fail;refine Hc.out.mono ?_;intro e w1 he;unfold ZG at he;rw[HF.out] at he;obtain⟨hm,GJ⟩:=he;subst GJ;have Hr:=hid (T7 s w1 Hs.out);have HM:=hid hm;clear hm Hc;go_wp2_with fail;refine Hr.out.mono ?_;intro e w2 he;rw[HR.out] at he;obtain⟨GJ,hm⟩:=he;subst GJ;have Gw:=hid (HM.out.Ac hm);clear hm Hr;go_wp2;go_ret3;unfold l9;rw[HR.out];exact⟨rfl,Gw.out⟩
 | ok y=>
  rw[hf] at Vz;cases hr:GR (bs s) with
  | error d=>rw[hr] at Vz;exact Vz.elim
  | ok p=>
   rw[hr] at Vz;have HP:=hid (show PS y p from Vz);have HF:=hid hf;have HR:=hid hr;clear hf hr Vz;go_enter Tryz.func9,Tryz.ntmps9;go_wp2_with fail;refine Hc.out.mono ?_;intro e w1 he;unfold ZG at he;rw[HF.out] at he;obtain⟨hm,GJ⟩:=he;subst GJ;have Hr:=hid (T7 s w1 Hs.out);have HM:=hid hm;clear hm Hc;go_wp2_with fail;refine Hr.out.mono ?_;intro e w2 he;rw[HR.out] at he;obtain⟨g,R,hR,hL,GJ,AI⟩:=he;subst GJ;have Hl:=hid (fX (AA (Iy y)) w2 (by rw[J3];unfold Iy;exact U2 HP.out));have Gw:=hid AI;have HL:=hid hL;have xZ:=hid hR;clear AI Hr hL hR;go_wp2_with fail;refine Hl.out.mono ?_;intro e w3 he;rw[show bs (AA (Iy y))=Iy y from Cs _] at he;unfold Iy at he;rw[Zs HP.out] at he;obtain⟨mb,mv,tv,xs,GJ,hM,hm,_⟩:=he;subst GJ;obtain⟨hb,_,yv,Et,_,_⟩:=hM;obtain⟨tp,tc,rfl,_,_⟩:=Ww yv;have hlen:xs.length=R.p.Aa.length:=by
    rw[Et,xZ.out,HP.out.Aa];simp[CS]
   have h3:R.p.Aa.length≤3:=by
    have:=(OC HP.out).2.2.2;rw[xZ.out,HP.out.Aa,List.length_map];exact this
   have m1:=hb.cell 1;have p0:=((Gw.out.Al.AP (i:=0) rfl).Bh hm (by simp)).cell 0;have HS:=hid (show Ad w [] w3 (g.rest R) from(Ad.quiet (AK.nil w) HM.out).trans (Gw.out.trans (Ad.quiet Gw.out.Al hm)));rw[hlen] at m1;have q:((R.p.Aa.length:Int)==(R.p.Aa.length:Int))=true:=by simp
   clear hb yv Et hm Hl Gw HM hlen;go_upto_region 8 with fail
   refine GM (l:=[(0,true),(1,true),(2,true),(3,true),(4,true),(5,true),(6,true),(7,true),(8,true),(9,true),(10,true),(11,true),(12,true),(13,true),(14,true),(15,true),(16,true),(17,true),(18,true),(19,false)]) (fun W=>W.cell? ⟨mb,1,none⟩=some (.slice tp R.p.Aa.length tc)∧W.cell? ⟨g.pb,0,none⟩=some (.slice g.t.p R.p.Aa.length g.t.c)) 19 (by kernel_rfl) (by kernel_rfl) (by kernel_rfl) (by kernel_rfl) (by kernel_rfl) (fun c a d v w h=>by cases d <;>exact h) ⟨m1,p0⟩ ?_;repeat
    refine KV (v:= ?_) rfl rfl rfl (fun W hW=> ?_) ?_;rotate_left
    ·obtain⟨s1,s2⟩:=hW;go_simp;rfl
    simp only[Bo]
   refine Fs rfl (fun K hK=> ?_);go_simp;refine hK _ _ (fun h=>absurd h (by decide)) ?_;clear hK;simp only[GN];go_wp2;go_ret3;unfold l9;rw[HR.out];exact⟨y,g,R,HP.out,xZ.out,HL.out,rfl,HS.out.trans (Ad.drew HS.out.Al)⟩
theorem VP (mb:Nat) (s:ByteArray) (w:World) (hg:Gl mb w) (ht:TI w):
  Calls Tryz.prog 3 #[.string s] w (IM (.bool true) w):=by
 by_cases hs:262144 < s.size
 ·have hs':(262144:Int) < (s.size:Int):=by omega
  clear hg ht;go_enter Tryz.func3,Tryz.ntmps3;go_wp2;go_ret;exact⟨rfl,Av.refl _ _⟩
 ·have hs':¬(262144:Int) < (s.size:Int):=by omega
  have Hc:=hid (VQ mb s w hg ht (by omega));clear hg ht;go_enter Tryz.func3,Tryz.ntmps3;go_wp2_with fail;refine Hc.out.mono ?_;intro e w1 he;clear Hc;have iu:∃a b,e= .returned (.tuple #[a,b,.bool true])∧Av [] w w1:=by
   unfold l9 at he;split at he
   ·obtain⟨h1,h2⟩:=he;exact⟨_,_,h1,h2⟩
   ·obtain⟨_,_,_,_,_,_,h1,h2⟩:=he;exact⟨_,_,h1,h2.Bh⟩
  obtain⟨a,b,GJ,hm⟩:=iu;subst GJ;have HM:=hid hm;clear he hm;go_wp2;go_ret;exact⟨rfl,HM.out⟩
end Go.Proofs.YtpdfifdlhpmofaaGreatDoor
