/-
  Part 36 of the proof, packed by program out of R15b.
-/
import Derived.Test.YtpdfifdlhpmofaaGreatDoorZ34
set_option linter.unusedVariables false
set_option linter.unusedSimpArgs false
set_option maxHeartbeats 3200000
set_option maxRecDepth 100000
namespace Go.Proofs.YtpdfifdlhpmofaaGreatDoor
open Go.RowKit
open Go.Lib (hid)
theorem Qm (l:Ws) (lw:Value) (w:World) (g:RG) (R:RS) (n:Nat) (h:AK w (g.Ax R)) (hL:Dl g R) (hI:KL R n) (hO:Pp R) (hS:0≤R.Am∧R.Am≤1000)
  (hw:Sl w (fun b=>b∉En (g.Ax R)) lw (AY l)) (hs:∀a,a∈l→a.size≤maxLen) (BQ:l≠[]) (Ox:Bz l=true) (h1:¬bs (wd l 0)=AN) (h2:¬bs (wd l 0)=AE) (h3:¬bs (wd l 0)=D7) (rr:R.BE=false):
  Calls Tryz.prog 37 #[.pointer (some ⟨g.rb,0,none⟩),lw] w (Fe (R.row l) g R w):=by
 have hl:0 < l.length:=List.length_pos_iff.2 BQ;have AU:R.row l=if R.p.Aa=[]∨(R.BE=false∧(bs (wd l 0)=Cw∨bs (wd l 0)=CL))∨(R.BE=true∧bs (wd l 0)=AF) then .error 3
   else match R.node l with
    | .error c=> .error c
    | .ok (r,x)=>RS.CC r x:=by
  unfold RS.row;simp only[h1,h2,h3,if_false];rfl
 have xz:=hid rr;clear rr;have DR:=hw;obtain⟨wb,woff,wcap,rfl,hd⟩:=Fa hw hl;have c0:=hd.c 0 (by omega);simp only[Nat.add_zero] at c0;have q1:=Ar (x:=wd l 0) (k:=AN) h1;have q2:=Ar (x:=wd l 0) (k:=AE) h2;have q3:=Ar (x:=wd l 0) (k:=D7) h3;unfold AN at q1;unfold AE at q2;unfold D7 at q3;have Pb:(0:Int) < (l.length:Int):=by omega
 obtain⟨Cp,A6,CR,Bt,Bi,CM,cQ⟩:=AG h;have Gb:=hd.n0;have Kc:=hd.n1;have EA:=hd.lt;unfold maxLen at Kc;have cH:R.p.Aa.length≤2500:=by have:=hI.bn;have:=hI.nn;omega
 have cN:R.Ai.length≤3:=hO.ol;have H:=hid h;have HL:=hid hL;have HI:=hid hI;have HO:=hid hO;have HS:=hid hS;have Hw:=hid DR;have Hs:=hid hs;have KM:=hid BQ;have xJ:=hid Ox;have H1:=hid h1;have H2:=hid h2;have H3:=hid h3;have Bg:=hid AU;have C0:=hid c0;clear h hL hI hS hw DR hs BQ Ox h1 h2 h3 AU hd hl;rcases List.eq_nil_or_concat R.p.Aa with hT | ⟨ts,lth,hT⟩
 ·have ho:R.Ai=[]:=by
   rcases Classical.em (R.Ai=[]) with h | h
   ·exact h
   ·exact absurd hT (hO.ne h)
  have lV:=hid (show R.row l= .error 3 by rw[Bg.out,if_pos (.inl hT)]);rw[hT] at A6;rw[ho] at Cp;have HT:=hid hT;have Ho:=hid ho;clear hO hT ho cH cN;simp only[List.length_nil] at Cp A6;go_enter Tryz.func37,Tryz.ntmps37;go_wp2;go_loopw [6,7] (fun a i wr=>a= .bool false∧i= .int .i64 0∧wr=w) (fun _ _ _=>0);case atStart=>exact⟨rfl,rfl,rfl⟩
  case round=>
   obtain⟨rfl,rfl,mj⟩:=hrel;subst mj;go_wp2;go_ret;rw[lV.out];exact⟨rfl,Av.refl _ _⟩
 ·rw[List.concat_eq_append] at hT;have kX:R.p.Aa.length=ts.length+1:=by rw[hT];simp
  have u7:ts.length≤2500:=by omega
  rw[kX] at A6;have XX:lth.length≤100:=by rw[←Dr hT];exact hO.nl
  have HT:=hid hT;clear hO hT kX cH;have DK:True→IntKind.i64.wrap ((ts.length:Int)+1 - 1)=ts.length:=fun _=>by rw[show(ts.length:Int)+1 - 1=ts.length by omega];exact IntWalk.i64_in _ (by omega)
  have Ew:True→wrap64 ((ts.length:Int)+1 - 1)=ts.length:=fun _=>by rw[show(ts.length:Int)+1 - 1=ts.length by omega];exact IntWalk.wrap64_in _ (by omega)
  have u6:¬((ts.length:Int) < 0):=by omega
  have u5:(0:Int)≤(ts.length:Int):=by omega
  have u4:(ts.length:Int) < ((ts.length:Int)+1):=by omega
  go_enter Tryz.func37,Tryz.ntmps37;go_wp2;clear DK Ew c0 Cp A6 CR Bt;go_loopw [6,7] (fun a i wr=>∃k:Nat,i= .int .i64 k∧k≤R.Ai.length∧a= .bool ((R.Ai.take k).any fun j=>(lth.getD j (.of 0)).kind==40)∧Av [] w wr) (fun _ i _=>R.Ai.length - (intOf i).toNat);case atStart=>exact⟨0,rfl,Nat.zero_le _,rfl,Av.refl _ _⟩
  case round=>
   obtain⟨k,rfl,hk,rfl,hm⟩:=hrel;have ho:=(Ad.quiet H.out hm).Al;obtain⟨Cp,A6,CR,Bt,E7,vp,_⟩:=AG ho;rw[show R.p.Aa.length=ts.length+1 by rw[HT.out];simp] at A6;by_cases QP:(k:Int) < (R.Ai.length:Int)
   ·have VD:k < R.Ai.length:=by omega
    obtain⟨vs,c,Ej,l2,hv,gE,Kb⟩:=KA HL.out.cl (by rw[HT.out];simp:R.p.Aa≠[]);obtain⟨rfl,Na⟩:Ej=ts∧[l2]=[lth]:=List.append_inj' (gE.symm.trans HT.out) rfl;cases Na;clear gE;have Qr:=RB hv HT.out Kb;have Fh:R.Ai[k] < lth.length:=by rw[←Dr HT.out];exact HO.out.lt _ (List.getElem_mem _)
    obtain⟨ob,oc,jK,_,kZ,_,_,L5,_⟩:=AX (ho.row (i:=6) rfl) (by omega);have Xa:wr.cell? ⟨ob,k,none⟩=some (.int .i64 (R.Ai[k]:Int)):=by rw[L5 k (by simp[D0,NA];exact VD)];simp[D0,NA]
    obtain⟨tb,tc,NT,_,kY,_,_,L3,_⟩:=AX (ho.row (i:=7) rfl) (by rw[HT.out];simp);have Vy:wr.cell? ⟨tb,Ej.length,none⟩=some (.slice c.p lth.length c.c):=by
     rw[L3 Ej.length (by rw[hv,HT.out,Bw _ _ _ _ Kb,List.length_append,Cl _ _ Kb];simp)];simp only[hv,HT.out,Bw _ _ _ _ Kb];rw[List.getElem_append_right (by rw[Cl _ _ Kb];omega)];simp
    have hit:(g.Ax R)[Ej.length+10]?=some (Dv c lth):=by rw[Qr,←Uv g R Kb];exact Mz
    obtain⟨lb,lc,hle,_,lh,_,_,L6,_⟩:=AX (ho.row hit) (by omega);have Gb:wr.cell? ⟨lb,R.Ai[k]*14,none⟩=some (.int .u8 (lth.getD R.Ai[k] (.of 0)).kind):=by
     have Bi:R.Ai[k]*14+0 < (Bx lth).length:=by rw[El];omega
     have:=L6 _ Bi;rw[←List.getElem?_eq_getElem,IA lth R.Ai[k] 0 Fh (by omega)] at this;exact this
    rw[jK] at Cp;rw[show R.p.Aa.length=Ej.length+1 by rw[HT.out];simp] at NT;rw[NT] at A6;rw[hle] at Vy;have Sc:(R.Ai.take (k+1)).any (fun j=>(lth.getD j (.of 0)).kind==40)=(((R.Ai.take k).any fun j=>(lth.getD j (.of 0)).kind==40) || ((lth.getD R.Ai[k] (.of 0)).kind==40)):=by
     rw[List.take_succ_eq_append_getElem VD,List.any_append];simp
    obtain⟨b,hb⟩:∃b,b=((R.Ai.take k).any fun j=>(lth.getD j (.of 0)).kind==40):=⟨_,rfl⟩;obtain⟨x,hx⟩:∃x,x=(lth.getD R.Ai[k] (.of 0)).kind:=⟨_,rfl⟩;obtain⟨A5,iE⟩:∃a,a=R.Ai[k]:=⟨_,rfl⟩;rw[←hx] at Gb Sc;rw[←hb] at Sc⊢;rw[←iE] at Fh Xa Gb;have SR:=hid Sc;have Hm:=hid hm;have ha0:(0:Int)≤(A5:Int):=by omega
    have uk:(A5:Int) < (lth.length:Int):=by omega
    have Tw:(0:Int)≤(k:Int):=by omega
    have C8:k≤2000:=by omega
    have hkx:((x:Int)==40)=(x==40):=by rw[Bool.eq_iff_iff];simp;omega
    clear Sc hm hb hx iE jK NT hle hit Qr L6 L3 L5 hv Kb ho Fh;have r0:wr.cell? ⟨g.rb,0,none⟩=some (.pointer (some ⟨g.pb,0,none⟩)):=Cp 0;have r5:wr.cell? ⟨g.rb,5,none⟩=some (.slice (some ⟨ob,0,none⟩) R.Ai.length oc):=Cp 5;have p0:wr.cell? ⟨g.pb,0,none⟩=some (.slice (some ⟨tb,0,none⟩) (Ej.length+1) tc):=A6 0;cases b with
    | true=>
     go_upto_region 20 with fail
     refine Ao (l:=[(0,true),(1,true),(2,true),(3,true),(4,true),(5,true),(6,true),(7,true),(8,true),(9,true),(10,true),(11,true),(12,true),(13,true),(14,true),(15,true),(16,true),(17,true),(18,true),(19,true),(20,true),(21,true),(22,true),(23,true),(24,false)]) (fun W=>True) 24 (by kernel_rfl) (by kernel_rfl) (by kernel_rfl) (by kernel_rfl) (by kernel_rfl) (fun c a d v w h=>by cases d <;>exact h) trivial ?_;repeat
      first
       | (refine QZ rfl rfl rfl ?_
          simp only[Bo])
       | (refine Ak (v:= ?_) rfl rfl rfl (fun W hW=> ?_) ?_
          rotate_left
          · go_simp;rfl
          simp only[Bo])
     refine Ab rfl (fun K hK=> ?_);go_simp;refine hK _ _ (fun h=>absurd rfl h) ?_;clear hK;simp only[A0];have inc:True→wrap64 ((k:Int)+1)=k+1:=fun _=>IntWalk.wrap64_in _ (by omega)
     go_wp2;go_roundw;case rel=>exact⟨k+1,rfl,VD,by rw[SR.out];rfl,Hm.out.drew⟩
     case measure=>simp[intOf];omega
    | false=>
     go_upto_region 20 with fail
     refine Ao (l:=[(0,true),(1,true),(2,true),(3,true),(4,true),(5,true),(6,true),(7,true),(8,true),(9,true),(10,true),(11,true),(12,true),(13,true),(14,true),(15,true),(16,true),(17,true),(18,true),(19,true),(20,true),(21,true),(22,true),(23,true),(24,false)]) (fun W=>W.cell? ⟨g.rb,0,none⟩=some (.pointer (some ⟨g.pb,0,none⟩))∧W.cell? ⟨g.rb,5,none⟩=some (.slice (some ⟨ob,0,none⟩) R.Ai.length oc)∧W.cell? ⟨g.pb,0,none⟩=some (.slice (some ⟨tb,0,none⟩) (Ej.length+1) tc)∧W.cell? ⟨tb,Ej.length,none⟩=some (.slice (some ⟨lb,0,none⟩) lth.length lc)∧W.cell? ⟨ob,k,none⟩=some (.int .i64 (A5:Int))∧W.cell? ⟨lb,A5*14,none⟩=some (.int .u8 x)) 24 (by kernel_rfl) (by kernel_rfl) (by kernel_rfl) (by kernel_rfl) (by kernel_rfl) (fun c a d v w h=>by cases d <;>exact h) ⟨r0,r5,p0,Vy,Xa,Gb⟩ ?_;repeat
      refine Ak (v:= ?_) rfl rfl rfl (fun W hW=> ?_) ?_;rotate_left
      ·obtain⟨s1,s2,s3,s4,s5,s6⟩:=hW;go_simp;rfl
      simp only[Bo]
     refine Ab rfl (fun K hK=> ?_);go_simp;refine hK _ _ (fun h=>absurd rfl h) ?_;clear hK;simp only[A0];have inc:True→wrap64 ((k:Int)+1)=k+1:=fun _=>IntWalk.wrap64_in _ (by omega)
     go_wp2;go_roundw;case rel=>exact⟨k+1,rfl,VD,by rw[SR.out];simp,Hm.out.drew⟩
     case measure=>simp[intOf];omega
   ·have Pc:k=R.Ai.length:=by omega
    subst Pc;have Tc:((R.Ai.take R.Ai.length).any fun j=>(lth.getD j (.of 0)).kind==40)=R.BE:=by rw[List.take_length];unfold RS.BE;rw[Dr HT.out]
    rw[Tc];have C1:wr.cell? ⟨wb,woff,none⟩=some (.string (wd l 0)):=BB hm C0.out;have sD:R.p.Aa≠[]:=by rw[HT.out];simp
    have tB:=hid sD;have Hm:=hid hm;clear Tc hm Bt CR sD ho;cases Gr:R.BE with
    | true=>exact absurd (xz.out.symm.trans Gr) (by simp)
    | false=>
     have OJ:=hid Gr;clear Gr;by_cases kg:bs (wd l 0)=Cw
     ·have qa:=BN kg;unfold Cw at qa;have lV:=hid (show R.row l= .error 3 by rw[Bg.out,if_pos (.inr (.inl ⟨OJ.out,.inl kg⟩))]);clear kg;go_wp2;go_ret;rw[lV.out];exact⟨rfl,Hm.out.nil⟩
     ·by_cases kp:bs (wd l 0)=CL
      ·have qa:=Ar (x:=wd l 0) (k:=Cw) kg;have qb:=BN kp;unfold Cw at qa;unfold CL at qb;have lV:=hid (show R.row l= .error 3 by rw[Bg.out,if_pos (.inr (.inl ⟨OJ.out,.inr kp⟩))]);clear kg kp;go_wp2;go_ret;rw[lV.out];exact⟨rfl,Hm.out.nil⟩
      ·have qa:=Ar (x:=wd l 0) (k:=Cw) kg;have qb:=Ar (x:=wd l 0) (k:=CL) kp;unfold Cw at qa;unfold CL at qb;have jA:=hid (show R.row l=match R.node l with | .error c=> .error c | .ok (r,x)=>RS.CC r x by
         rw[Bg.out,if_neg];rintro(h | ⟨_,h⟩ | ⟨h,_⟩);exact tB.out h;rcases h with h | h;exact kg h;exact kp h;rw[OJ.out] at h;cases h)
       clear kg kp;go_wp2_with fail;refine(Ua l _ _ g R n (Ad.quiet H.out Hm.out).Al HL.out HI.out tB.out (Hw.out.Bh Hm.out (by simp)) Hs.out KM.out xJ.out H1.out H2.out H3.out).mono ?_;intro e w2 he;unfold Mo at he;obtain⟨j0,hj,I9,EK,JW⟩:=info_parts O6;obtain⟨i0,hi,ad,mi,mh⟩:=info_parts Ou;cases GH:R.node l with
       | error cc=>
        rw[GH] at he;obtain⟨x,rfl,CY⟩:=he;have MS:=hid GH;have V9:=hid CY;clear CY;rcases RC GH with rfl | rfl;all_goals (
          clear GH Cp A6 C1;have e0:x.val= .agg #[.int .u8 x.kind,.int .i64 x.v,.string x.op,.bool x.a.AL,.int .i64 x.a.v,.bool x.b.AL,.int .i64 x.b.v,.bool x.A5.AL,.int .i64 x.A5.v,.int .i64 x.first,.int .i64 x.size,.int .i64 x.C2,.int .i64 x.n,.int .i64 x.Aj]:=rfl;rw[e0];clear e0;go_upto_region 24 with fail
          have hB:BR (World.alloc w2 (.cells #[.int .u8 x.kind,.int .i64 x.v,.string x.op,.bool x.a.AL,.int .i64 x.a.v,.bool x.b.AL,.int .i64 x.b.v,.bool x.A5.AL,.int .i64 x.A5.v,.int .i64 x.first,.int .i64 x.size,.int .i64 x.C2,.int .i64 x.n,.int .i64 x.Aj] 110)) w2.heap.size #[.int .u8 x.kind,.int .i64 x.v,.string x.op,.bool x.a.AL,.int .i64 x.a.v,.bool x.b.AL,.int .i64 x.b.v,.bool x.A5.AL,.int .i64 x.A5.v,.int .i64 x.first,.int .i64 x.size,.int .i64 x.C2,.int .i64 x.n,.int .i64 x.Aj] 110:=BR.new w2 _ _;have Ji:Av [] w2 (World.alloc w2 (.cells #[.int .u8 x.kind,.int .i64 x.v,.string x.op,.bool x.a.AL,.int .i64 x.a.v,.bool x.b.AL,.int .i64 x.b.v,.bool x.A5.AL,.int .i64 x.A5.v,.int .i64 x.first,.int .i64 x.size,.int .i64 x.C2,.int .i64 x.n,.int .i64 x.Aj] 110)):=(Av.refl [] w2).alloc _;obtain⟨w3,Fm⟩:∃z,z=World.alloc w2 (.cells #[.int .u8 x.kind,.int .i64 x.v,.string x.op,.bool x.a.AL,.int .i64 x.a.v,.bool x.b.AL,.int .i64 x.b.v,.bool x.A5.AL,.int .i64 x.A5.v,.int .i64 x.first,.int .i64 x.size,.int .i64 x.C2,.int .i64 x.n,.int .i64 x.Aj] 110):=⟨_,rfl⟩;rw[←Fm] at hB Ji⊢;clear Fm;have jS:=hid Ji;clear Ji hB;go_wp2;go_ret;rw[jA.out,MS.out];exact⟨rfl,(Hm.out.nil.Q6 V9.out).Ac jS.out⟩)
       | ok p=>
        obtain⟨R',x⟩:=p;rw[GH] at he;obtain⟨rfl,g',oP,mQ,st⟩:=he;obtain⟨Xc,Xb,rK⟩:=Ug GH;have MS:=hid GH;have IW:=hid mQ;have Hg:=hid oP;have SS:=hid st;clear GH mQ st Cp A6 C1 oP;have e0:x.val= .agg #[.int .u8 x.kind,.int .i64 x.v,.string x.op,.bool x.a.AL,.int .i64 x.a.v,.bool x.b.AL,.int .i64 x.b.v,.bool x.A5.AL,.int .i64 x.A5.v,.int .i64 x.first,.int .i64 x.size,.int .i64 x.C2,.int .i64 x.n,.int .i64 x.Aj]:=rfl;rw[e0];clear e0;go_upto_region 24 with fail
        have hB:BR (World.alloc w2 (.cells #[.int .u8 x.kind,.int .i64 x.v,.string x.op,.bool x.a.AL,.int .i64 x.a.v,.bool x.b.AL,.int .i64 x.b.v,.bool x.A5.AL,.int .i64 x.A5.v,.int .i64 x.first,.int .i64 x.size,.int .i64 x.C2,.int .i64 x.n,.int .i64 x.Aj] 110)) w2.heap.size #[.int .u8 x.kind,.int .i64 x.v,.string x.op,.bool x.a.AL,.int .i64 x.a.v,.bool x.b.AL,.int .i64 x.b.v,.bool x.A5.AL,.int .i64 x.A5.v,.int .i64 x.first,.int .i64 x.size,.int .i64 x.C2,.int .i64 x.n,.int .i64 x.Aj] 110:=BR.new w2 _ _;have Ji:Av [] w2 (World.alloc w2 (.cells #[.int .u8 x.kind,.int .i64 x.v,.string x.op,.bool x.a.AL,.int .i64 x.a.v,.bool x.b.AL,.int .i64 x.b.v,.bool x.A5.AL,.int .i64 x.A5.v,.int .i64 x.first,.int .i64 x.size,.int .i64 x.C2,.int .i64 x.n,.int .i64 x.Aj] 110)):=(Av.refl [] w2).alloc _;obtain⟨w3,Fm⟩:∃z,z=World.alloc w2 (.cells #[.int .u8 x.kind,.int .i64 x.v,.string x.op,.bool x.a.AL,.int .i64 x.a.v,.bool x.b.AL,.int .i64 x.b.v,.bool x.A5.AL,.int .i64 x.A5.v,.int .i64 x.first,.int .i64 x.size,.int .i64 x.C2,.int .i64 x.n,.int .i64 x.Aj] 110):=⟨_,rfl⟩;rw[←Fm] at hB Ji⊢;clear Fm;have sH:Ba w3 (g'.Ax R') [(w2.heap.size,.cells #[.int .u8 x.kind,.int .i64 x.v,.string x.op,.bool x.a.AL,.int .i64 x.a.v,.bool x.b.AL,.int .i64 x.b.v,.bool x.A5.AL,.int .i64 x.A5.v,.int .i64 x.first,.int .i64 x.size,.int .i64 x.C2,.int .i64 x.n,.int .i64 x.Aj] 110 (0,0))]:=⟨fun b o hb=>by rw[List.mem_singleton] at hb;cases hb;exact hB,fun b o hb hl=>by rw[List.mem_singleton] at hb;cases hb;exact absurd (SS.out.Al.lt _ hl) (Nat.lt_irrefl _)⟩;have S:=hid (((Ad.quiet H.out Hm.out).trans SS.out).trans (Ad.quiet SS.out.Al Ji));have K:=hid sH;have Y4:w.heap.size≤w2.heap.size:=((Ad.quiet H.out Hm.out).trans SS.out).Bh.size;obtain⟨nb,Y5⟩:∃z,z=w2.heap.size:=⟨_,rfl⟩;rw[←Y5] at K Y4⊢;have pR:=hid Y4;clear Y4;clear sH Ji hB Y5 SS;have Xl:R'.p.Aa=ts++[lth]:=Xb.trans HT.out;obtain⟨vs,c,Ej,l2,hv,gE,Kb⟩:=KA IW.out.cl (by rw[Xl];simp:R'.p.Aa≠[]);obtain⟨rfl,Na⟩:Ej=ts∧[l2]=[lth]:=List.append_inj' (gE.symm.trans Xl) rfl;cases Na;clear gE;obtain⟨tb,tc,gD,_,_,_,_,_,_⟩:=AX (S.out.Al.row (i:=7) rfl) (by rw[Xl];simp);have NT:Value.slice g'.t.p R'.p.Aa.length g'.t.c= .slice (some ⟨tb,0,none⟩) (Ej.length+1) tc:=by rw[gD,Xl];simp
        have XO:=hid Xl;have dQ:=hid hv;have ZK:=hid Kb;have TE:=hid NT;have UU:=hid (show Ej.length < (BL g'.cv R'.p.Aa).length by rw[hv,Xl,Bw _ _ _ _ Kb,List.length_append,Cl _ _ Kb];simp);have dN:=hid (show(BL g'.cv R'.p.Aa)[Ej.length]'UU.out= .slice c.p lth.length c.c by
          simp only[hv,Xl,Bw _ _ _ _ Kb];rw[List.getElem_append_right (by rw[Cl _ _ Kb];omega)];simp)
        clear Xl hv Kb NT gD Xb;have H7:∀(G:RG) (Q:RS),Q.p=R'.p→G.t=g'.t→G.cv=g'.cv→(G.Ax Q)[7]?=some (.row (.slice (some ⟨tb,0,none⟩) (Ej.length+1) tc) 72 1 (Ej.length+1) (BL g'.cv R'.p.Aa)):=fun G Q h1 h2 h3=>by
         show some (Ob.row (.slice G.t.p Q.p.Aa.length G.t.c) 72 1 Q.p.Aa.length (BL G.cv Q.p.Aa))=_;rw[h1,h2,h3,TE.out,XO.out];simp
        have qm:∀(G:RG) (Q:RS),Q.p=R'.p→G.cv=g'.cv→G.cv=g'.cv→(G.Ax Q)[Ej.length+10]?=some (.row (.slice c.p lth.length c.c) 110 14 lth.length (Bx lth)):=fun G Q h1 h3 _=>by
         rw[RB (g:=G) (R:=Q) (h3.trans dQ.out) (by rw[h1];exact XO.out) ZK.out,←Uv G Q ZK.out];exact Mz
        have vF:=XX;have gZ:lth.length+1≤maxLen:=by unfold maxLen;omega
        have hU:(lth.length+1)*120≤140737488355328:=by omega
        have oh:=HS.out;rw[←rK] at oh;have ho3:R'.Ai.length≤3:=by rw[Xc];exact cN
        have vA:=hid Xc;clear Xc rK;have Lr:True→wrap64 (R'.Am+1)=R'.Am+1:=fun _=>IntWalk.wrap64_in _ (by omega)
        obtain⟨Cp,A6,CR,Bt,Bi,CM,Lq⟩:=AG S.out.Al;rw[Hg.out] at Cp CR Bi;have ON:∀i:Nat,w3.cell? ⟨nb,i,none⟩=(#[.int .u8 x.kind,.int .i64 x.v,.string x.op,.bool x.a.AL,.int .i64 x.a.v,.bool x.b.AL,.int .i64 x.b.v,.bool x.A5.AL,.int .i64 x.A5.v,.int .i64 x.first,.int .i64 x.size,.int .i64 x.C2,.int .i64 x.n,.int .i64 x.Aj]:Array Value)[i]?:=K.out.cell (List.mem_singleton.2 rfl);have Ey:=K.out.lt (List.mem_singleton.2 rfl);replace Cp:=Cp;by_cases Eg:14 < R'.Am+1
        ·have NQ:=hid (show RS.CC R' x= .error 5 by unfold RS.CC;rw[if_pos Eg]);go_wp2_with fail;go_ret;have t:Ad w (g.Ax R) (World.setCell w3 ⟨g'.rb,6,none⟩ (.int .i64 (R'.Am+1))) (g'.Ax {R' with Am:=R'.Am+1}):=S.out.trans (S.out.Al.set (i:=0) rfl 6 (.int .i64 (R'.Am+1)));rw[Hg.out] at t;rw[jA.out,MS.out];show Fe (RS.CC R' x) g R w _ _;rw[NQ.out];exact⟨rfl,t.Bh⟩
        ·go_upto_region 29 with fail
         have S1:Hid (Ad w (g.Ax R) (World.setCell w3 ⟨g.rb,6,none⟩ (.int .i64 (R'.Am+1))) (g'.Ax {R' with Am:=R'.Am+1})):=hid (by
           have t:Ad w (g.Ax R) (World.setCell w3 ⟨g'.rb,6,none⟩ (.int .i64 (R'.Am+1))) (g'.Ax {R' with Am:=R'.Am+1}):=S.out.trans (S.out.Al.set (i:=0) rfl 6 (.int .i64 (R'.Am+1)));rw[Hg.out] at t;exact t)
         have K1:Hid (Ba (World.setCell w3 ⟨g.rb,6,none⟩ (.int .i64 (R'.Am+1))) (g'.Ax {R' with Am:=R'.Am+1}) [(nb,.cells #[.int .u8 x.kind,.int .i64 x.v,.string x.op,.bool x.a.AL,.int .i64 x.a.v,.bool x.b.AL,.int .i64 x.b.v,.bool x.A5.AL,.int .i64 x.A5.v,.int .i64 x.first,.int .i64 x.size,.int .i64 x.C2,.int .i64 x.n,.int .i64 x.Aj] 110 (0,0))]):=hid (by
           have t:Ba (World.setCell w3 ⟨g'.rb,6,none⟩ (.int .i64 (R'.Am+1))) (g'.Ax {R' with Am:=R'.Am+1}) [(nb,.cells #[.int .u8 x.kind,.int .i64 x.v,.string x.op,.bool x.a.AL,.int .i64 x.a.v,.bool x.b.AL,.int .i64 x.b.v,.bool x.A5.AL,.int .i64 x.A5.v,.int .i64 x.first,.int .i64 x.size,.int .i64 x.C2,.int .i64 x.n,.int .i64 x.Aj] 110 (0,0))]:=K.out.step (S.out.Al.set (i:=0) rfl 6 (.int .i64 (R'.Am+1)));rw[Hg.out] at t;exact t)
         clear S K Cp A6 CR Bt Bi CM Lq ON Ey Lr;obtain⟨w4,nV⟩:∃z,z=World.setCell w3 ⟨g.rb,6,none⟩ (.int .i64 (R'.Am+1)):=⟨_,rfl⟩;rw[←nV] at S1 K1⊢;clear nV;have ON:∀i:Nat,w4.cell? ⟨nb,i,none⟩=(#[.int .u8 x.kind,.int .i64 x.v,.string x.op,.bool x.a.AL,.int .i64 x.a.v,.bool x.b.AL,.int .i64 x.b.v,.bool x.A5.AL,.int .i64 x.A5.v,.int .i64 x.first,.int .i64 x.size,.int .i64 x.C2,.int .i64 x.n,.int .i64 x.Aj]:Array Value)[i]?:=K1.out.cell (List.mem_singleton.2 rfl);have Ey:=K1.out.lt (List.mem_singleton.2 rfl);have sw:∀i:Nat,World.frozen? w4 ⟨nb,i,none⟩=false:=K1.out.free (List.mem_singleton.2 rfl);by_cases II:x.kind=122∨x.kind=108∨x.kind=40
         ·obtain⟨Cp,A6,CR,Bt,Bi,CM,Lq⟩:=AG S1.out.Al;rw[Hg.out] at Cp CR Bi;by_cases Sh:R'.Ai.length=3
          ·have NQ:=hid (show RS.CC R' x= .error 5 by unfold RS.CC;rw[if_neg Eg,if_pos II,if_pos Sh]);have gR:((R'.Ai.length:Int)==3)=true:=by rw[Sh];rfl
           clear Sh;rcases II with hk | hk | hk;have JO:((x.kind:Int)==122)=true:=by rw[hk];rfl
           clear hk Eg;rotate_left;have JO:((x.kind:Int)==122)=false:=by rw[hk];rfl
           have Sk:((x.kind:Int)==108)=true:=by rw[hk];rfl
           clear hk Eg;rotate_left;have JO:((x.kind:Int)==122)=false:=by rw[hk];rfl
           have Sk:((x.kind:Int)==108)=false:=by rw[hk];rfl
           have lj:((x.kind:Int)==40)=true:=by rw[hk];rfl
           clear hk Eg;rotate_left;all_goals (
             go_wp2_with fail;go_ret;rw[jA.out,MS.out];show Fe (RS.CC R' x) g R w _ _;rw[NQ.out];exact⟨rfl,S1.out.Bh⟩)
          ·have NQ:=hid (show RS.CC R' x= .ok (RS.Bs {R' with Am:=R'.Am+1,Ai:=R'.Ai++[lth.length]} (lth++[{x with Aj:=(R'.Ai.length:Int)}])) from
              TX Eg II Sh (Dr XO.out))
           have gR:((R'.Ai.length:Int)==3)=false:=by rw[beq_eq_false_iff_ne];omega
           clear Sh;rcases II with hk | hk | hk;have JO:((x.kind:Int)==122)=true:=by rw[hk];rfl
           clear hk Eg;rotate_left;have JO:((x.kind:Int)==122)=false:=by rw[hk];rfl
           have Sk:((x.kind:Int)==108)=true:=by rw[hk];rfl
           clear hk Eg;rotate_left;have JO:((x.kind:Int)==122)=false:=by rw[hk];rfl
           have Sk:((x.kind:Int)==108)=false:=by rw[hk];rfl
           have lj:((x.kind:Int)==40)=true:=by rw[hk];rfl
           clear hk Eg;rotate_left;all_goals (
             go_upto_region 33 with fail
             have S2:Hid (Ad w (g.Ax R) (World.setCell w4 ⟨nb,13,none⟩ (.int .i64 R'.Ai.length)) (g'.Ax {R' with Am:=R'.Am+1})):=hid (Ad.mT S1.out (K1.out.out _ _ (List.mem_singleton.2 rfl)) pR.out ((Av.refl [nb] _).setCell (.inl (List.mem_singleton.2 rfl)) _));have K2:Hid (Ba (World.setCell w4 ⟨nb,13,none⟩ (.int .i64 R'.Ai.length)) (g'.Ax {R' with Am:=R'.Am+1}) [(nb,.cells #[.int .u8 x.kind,.int .i64 x.v,.string x.op,.bool x.a.AL,.int .i64 x.a.v,.bool x.b.AL,.int .i64 x.b.v,.bool x.A5.AL,.int .i64 x.A5.v,.int .i64 x.first,.int .i64 x.size,.int .i64 x.C2,.int .i64 x.n,.int .i64 R'.Ai.length] 110 (0,0))]):=hid (K1.out.eP 13 (.int .i64 R'.Ai.length));clear S1 K1 Cp A6 CR Bt Bi CM Lq ON Ey sw;first
               | clear JO Sk lj
               | clear JO Sk
               | clear JO
             obtain⟨w5,qX⟩:∃z,z=World.setCell w4 ⟨nb,13,none⟩ (.int .i64 R'.Ai.length):=⟨_,rfl⟩;rw[←qX] at S2 K2⊢;clear qX gR;have CN:=S2.out.Al;obtain⟨Cp,A6,CR,Bt,Bi,CM,Lq⟩:=AG CN;have r0:w5.cell? ⟨g.rb,0,none⟩=some (.pointer (some ⟨g'.pb,0,none⟩)):=Hg.out▸Cp 0;have r5:w5.cell? ⟨g.rb,5,none⟩=some (.slice g'.o.p R'.Ai.length g'.o.c):=Hg.out▸Cp 5;have p0:w5.cell? ⟨g'.pb,0,none⟩=some (.slice (some ⟨tb,0,none⟩) (Ej.length+1) tc):=(A6 0).trans (congrArg some TE.out);have O7:g.rb < w5.heap.size:=Hg.out▸Bi;obtain⟨tcl,tf,tl⟩:=BP (CN.row (i:=7) (H7 _ _ rfl rfl rfl));have t0:w5.cell? ⟨tb,Ej.length,none⟩=some (.slice c.p lth.length c.c):=(tcl Ej.length UU.out).trans (congrArg some dN.out);clear Cp A6 CR Bt Lq tcl Bi CN tf;refine Ao (l:=[(0,true),(1,true),(2,true),(3,true),(4,true),(5,true),(6,true),(7,true),(8,true),(9,true),(10,true),(11,true),(12,true),(13,true),(14,true),(15,true),(16,false),(17,false),(18,true),(19,true),(20,false)]) (fun W=>W.cell? ⟨g.rb,0,none⟩=some (.pointer (some ⟨g'.pb,0,none⟩))∧W.cell? ⟨g.rb,5,none⟩=some (.slice g'.o.p R'.Ai.length g'.o.c)∧W.cell? ⟨g'.pb,0,none⟩=some (.slice (some ⟨tb,0,none⟩) (Ej.length+1) tc)∧W.cell? ⟨tb,Ej.length,none⟩=some (.slice c.p lth.length c.c)) 20 (by kernel_rfl) (by kernel_rfl) (by kernel_rfl) (by kernel_rfl) (by kernel_rfl) (fun c a d v w h=>by cases d <;>exact h) ⟨r0,r5,p0,t0⟩ ?_;repeat
               refine Ak (v:= ?_) rfl rfl rfl (fun W hW=> ?_) ?_;rotate_left
               · obtain⟨s1,s2,s3,s4⟩:=hW;go_simp;rfl
               simp only[Bo]
             refine Ab rfl (fun Kq Bp=> ?_);go_simp;refine Bp _ _ (fun _=>⟨(World.cell?_alloc_past _ _ _ O7).trans r0,(World.cell?_alloc_past _ _ _ O7).trans r5,(World.cell?_alloc_past _ _ _ CM).trans p0,(World.cell?_alloc_past _ _ _ tl).trans t0⟩) ?_;clear Bp;refine Ab rfl (fun Kq Bp=> ?_);refine BY 8 _ _ _ i0 _ #[.int .i64 lth.length] _ S2.out.Al (k:=6) (v:= .slice g'.o.p R'.Ai.length g'.o.c) (xs:=D0 (NA R'.Ai)) (n:=R'.Ai.length) (e:=3) (size:=1) rfl (by rfl) (by rfl) Tryz.underlying29 hi ad mi mh rfl (by decide) (by rfl) (by rfl) rfl (by simp[Value.oneCell']) (by unfold maxLen;omega) (by omega) ?_;intro g6 Bb w6 AI _;rw[PW] at AI;have L4:=K2.out.step AI;have z0:w6.cell? ⟨g.rb,0,none⟩=some (.pointer (some ⟨g'.pb,0,none⟩)):=Hg.out▸(AI.Al.AP (i:=0) rfl).cell 0;have z5:w6.cell? ⟨g.rb,5,none⟩=some (.slice g'.o.p R'.Ai.length g'.o.c):=Hg.out▸(AI.Al.AP (i:=0) rfl).cell 5;have zf:World.frozen? w6 ⟨g.rb,5,none⟩=false:=Hg.out▸(AI.Al.AP (i:=0) rfl).free 5;have zl:g.rb < w6.heap.size:=Hg.out▸(AI.Al.AP (i:=0) rfl).lt;have z1:w6.cell? ⟨g'.pb,0,none⟩=some (.slice (some ⟨tb,0,none⟩) (Ej.length+1) tc):=((AI.Al.AP (i:=1) rfl).cell 0).trans (congrArg some TE.out);obtain⟨tcl9,tf9,tl9⟩:=BP (AI.Al.row (i:=7) (H7 g' {R' with Am:=R'.Am+1} rfl rfl rfl));have z2:w6.cell? ⟨tb,Ej.length,none⟩=some (.slice c.p lth.length c.c):=(tcl9 Ej.length UU.out).trans (congrArg some dN.out);refine Bp _ _ (fun _=>⟨z0,z5,z1,z2⟩) (DM rfl ?_);clear Bp tcl9 tf9 tl9;simp only[Bo];repeat
               refine Ak (v:= ?_) rfl rfl rfl (fun W hW=> ?_) ?_;rotate_left
               · obtain⟨s1,s2,s3,s4⟩:=hW;go_simp;rfl
               simp only[Bo]
             refine Ab rfl (fun Kq Bp=> ?_);go_simp;refine Bp _ _ (fun h=>absurd rfl h) ?_;clear Bp;simp only[A0];have S3:Hid (Ad w (g.Ax R) (World.setCell w6 ⟨g.rb,5,none⟩ (.slice (some ⟨g6,0,none⟩) (R'.Ai.length+1) Bb)) (RG.Ax {g' with o:=⟨some ⟨g6,0,none⟩,Bb⟩} {R' with Am:=R'.Am+1,Ai:=R'.Ai++[lth.length]})):=hid (by
               have t1:=AI.trans (AI.Al.set (i:=0) rfl 5 (.slice (some ⟨g6,0,none⟩) (R'.Ai.length+1) Bb));have e:(R'.Ai++[lth.length]).length=R'.Ai.length+1:=by simp
               have t2:Ad w (g.Ax R) (World.setCell w6 ⟨g'.rb,5,none⟩ (.slice (some ⟨g6,0,none⟩) (R'.Ai.length+1) Bb)) (RG.Ax {g' with o:=⟨some ⟨g6,0,none⟩,Bb⟩} {R' with Am:=R'.Am+1,Ai:=R'.Ai++[lth.length]}):=by
                 have t3:=S2.out.trans t1;unfold RG.Ax at t3⊢;simp only[e];exact t3
               exact(show World.setCell w6 ⟨g'.rb,5,none⟩ (.slice (some ⟨g6,0,none⟩) (R'.Ai.length+1) Bb)=World.setCell w6 ⟨g.rb,5,none⟩ (.slice (some ⟨g6,0,none⟩) (R'.Ai.length+1) Bb) by rw[Hg.out])▸t2)
             have K3:Hid (Ba (World.setCell w6 ⟨g.rb,5,none⟩ (.slice (some ⟨g6,0,none⟩) (R'.Ai.length+1) Bb)) (RG.Ax {g' with o:=⟨some ⟨g6,0,none⟩,Bb⟩} {R' with Am:=R'.Am+1,Ai:=R'.Ai++[lth.length]}) [(nb,.cells #[.int .u8 x.kind,.int .i64 x.v,.string x.op,.bool x.a.AL,.int .i64 x.a.v,.bool x.b.AL,.int .i64 x.b.v,.bool x.A5.AL,.int .i64 x.A5.v,.int .i64 x.first,.int .i64 x.size,.int .i64 x.C2,.int .i64 x.n,.int .i64 R'.Ai.length] 110 (0,0))]):=hid (by
               have t1:=L4.step (AI.Al.set (i:=0) rfl 5 (.slice (some ⟨g6,0,none⟩) (R'.Ai.length+1) Bb));have e:(R'.Ai++[lth.length]).length=R'.Ai.length+1:=by simp
               have t2:Ba (World.setCell w6 ⟨g'.rb,5,none⟩ (.slice (some ⟨g6,0,none⟩) (R'.Ai.length+1) Bb)) (RG.Ax {g' with o:=⟨some ⟨g6,0,none⟩,Bb⟩} {R' with Am:=R'.Am+1,Ai:=R'.Ai++[lth.length]}) [(nb,.cells #[.int .u8 x.kind,.int .i64 x.v,.string x.op,.bool x.a.AL,.int .i64 x.a.v,.bool x.b.AL,.int .i64 x.b.v,.bool x.A5.AL,.int .i64 x.A5.v,.int .i64 x.first,.int .i64 x.size,.int .i64 x.C2,.int .i64 x.n,.int .i64 R'.Ai.length] 110 (0,0))]:=by
                 unfold RG.Ax at t1⊢;simp only[e];exact t1
               exact(show World.setCell w6 ⟨g'.rb,5,none⟩ (.slice (some ⟨g6,0,none⟩) (R'.Ai.length+1) Bb)=World.setCell w6 ⟨g.rb,5,none⟩ (.slice (some ⟨g6,0,none⟩) (R'.Ai.length+1) Bb) by rw[Hg.out])▸t2)
             clear S2 K2 AI L4 z0 z5 zf zl z1 z2 r0 r5 p0 t0 tl O7 CM;obtain⟨w7,qW⟩:∃z,z=World.setCell w6 ⟨g.rb,5,none⟩ (.slice (some ⟨g6,0,none⟩) (R'.Ai.length+1) Bb):=⟨_,rfl⟩;rw[←qW] at S3 K3⊢;clear qW;go_upto_region 34 with fail
             have CN:=S3.out.Al;obtain⟨Cp,A6,CR,Bt,Bi,CM,Lq⟩:=AG CN;have r0:w7.cell? ⟨g.rb,0,none⟩=some (.pointer (some ⟨g'.pb,0,none⟩)):=Hg.out▸Cp 0;have p0:w7.cell? ⟨g'.pb,0,none⟩=some (.slice (some ⟨tb,0,none⟩) (Ej.length+1) tc):=(A6 0).trans (congrArg some TE.out);have O7:g.rb < w7.heap.size:=Hg.out▸Bi;obtain⟨tcl,tf,tl⟩:=BP (CN.row (i:=7) (H7 _ _ rfl rfl rfl));have t0:w7.cell? ⟨tb,Ej.length,none⟩=some (.slice c.p lth.length c.c):=(tcl Ej.length UU.out).trans (congrArg some dN.out);have ON:∀i:Nat,w7.cell? ⟨nb,i,none⟩=(#[.int .u8 x.kind,.int .i64 x.v,.string x.op,.bool x.a.AL,.int .i64 x.a.v,.bool x.b.AL,.int .i64 x.b.v,.bool x.A5.AL,.int .i64 x.A5.v,.int .i64 x.first,.int .i64 x.size,.int .i64 x.C2,.int .i64 x.n,.int .i64 R'.Ai.length]:Array Value)[i]?:=K3.out.cell (List.mem_singleton.2 rfl);have Ey:=K3.out.lt (List.mem_singleton.2 rfl);clear Cp A6 CR Bt Lq tcl Bi CN;refine Ao (l:=[(0,true),(1,true),(2,true),(3,true),(4,true),(5,true),(6,true),(7,true),(8,true),(9,true),(10,true),(11,true),(12,true),(13,true),(14,true),(15,true),(16,true),(17,true),(18,true),(19,false),(20,false),(21,true),(22,false)]) (fun W=>W.cell? ⟨g.rb,0,none⟩=some (.pointer (some ⟨g'.pb,0,none⟩))∧W.cell? ⟨g'.pb,0,none⟩=some (.slice (some ⟨tb,0,none⟩) (Ej.length+1) tc)∧W.cell? ⟨tb,Ej.length,none⟩=some (.slice c.p lth.length c.c)∧∀i:Nat,W.cell? ⟨nb,i,none⟩=(#[.int .u8 x.kind,.int .i64 x.v,.string x.op,.bool x.a.AL,.int .i64 x.a.v,.bool x.b.AL,.int .i64 x.b.v,.bool x.A5.AL,.int .i64 x.A5.v,.int .i64 x.first,.int .i64 x.size,.int .i64 x.C2,.int .i64 x.n,.int .i64 R'.Ai.length]:Array Value)[i]?) 22 (by kernel_rfl) (by kernel_rfl) (by kernel_rfl) (by kernel_rfl) (by kernel_rfl) (fun c a d v w h=>by cases d <;>exact h) ⟨r0,p0,t0,ON⟩ ?_;repeat
               refine Ak (v:= ?_) rfl rfl rfl (fun W hW=> ?_) ?_;rotate_left
               · obtain⟨s1,s2,s3,s4⟩:=hW;go_simp;rfl
               simp only[Bo]
             refine Ab rfl (fun Kq Bp=> ?_);go_simp;refine Bp _ _ (fun _=>⟨(World.cell?_alloc_past _ _ _ O7).trans r0,(World.cell?_alloc_past _ _ _ CM).trans p0,(World.cell?_alloc_past _ _ _ tl).trans t0,fun i=>(World.cell?_alloc_past _ _ _ Ey).trans (ON i)⟩) ?_;clear Bp;refine Ab rfl (fun Kq Bp=> ?_);refine BY 120 _ _ _ j0 _ #[.int .u8 x.kind,.int .i64 x.v,.string x.op,.bool x.a.AL,.int .i64 x.a.v,.bool x.b.AL,.int .i64 x.b.v,.bool x.A5.AL,.int .i64 x.A5.v,.int .i64 x.first,.int .i64 x.size,.int .i64 x.C2,.int .i64 x.n,.int .i64 R'.Ai.length] _ S3.out.Al (k:=Ej.length+10) (v:= .slice c.p lth.length c.c) (xs:=Bx lth) (n:=lth.length) (e:=110) (size:=14) (qm _ _ rfl rfl rfl) (by rfl) (by rfl) Tryz.underlying72 hj I9 EK JW rfl (by decide) (by rfl) (by rfl) rfl (by simp[Value.oneCell']) gZ hU ?_;intro g9 IL w9 AI _;have L4:=K3.out.step AI;have z0:w9.cell? ⟨g.rb,0,none⟩=some (.pointer (some ⟨g'.pb,0,none⟩)):=Hg.out▸(AI.Al.AP (i:=0) rfl).cell 0;have z1:w9.cell? ⟨g'.pb,0,none⟩=some (.slice (some ⟨tb,0,none⟩) (Ej.length+1) tc):=((AI.Al.AP (i:=1) rfl).cell 0).trans (congrArg some TE.out);obtain⟨tcl9,tf9,tl9⟩:=BP (AI.Al.row (i:=7) (H7 {g' with o:=⟨some ⟨g6,0,none⟩,Bb⟩} {R' with Am:=R'.Am+1,Ai:=R'.Ai++[lth.length]} rfl rfl rfl));have z2:w9.cell? ⟨tb,Ej.length,none⟩=some (.slice c.p lth.length c.c):=(tcl9 Ej.length UU.out).trans (congrArg some dN.out);have z3:∀i:Nat,w9.cell? ⟨nb,i,none⟩=(#[.int .u8 x.kind,.int .i64 x.v,.string x.op,.bool x.a.AL,.int .i64 x.a.v,.bool x.b.AL,.int .i64 x.b.v,.bool x.A5.AL,.int .i64 x.A5.v,.int .i64 x.first,.int .i64 x.size,.int .i64 x.C2,.int .i64 x.n,.int .i64 R'.Ai.length]:Array Value)[i]?:=L4.cell (List.mem_singleton.2 rfl);refine Bp _ _ (fun _=>⟨z0,z1,z2,z3⟩) (DM rfl ?_);clear Bp;simp only[Bo];repeat
               refine Ak (v:= ?_) rfl rfl rfl (fun W hW=> ?_) ?_;rotate_left
               · obtain⟨s1,s2,s3,s4⟩:=hW;go_simp;rfl
               simp only[Bo]
             have tf9':=tf9 Ej.length;refine Ab rfl (fun Kq Bp=> ?_);go_simp;refine Bp _ _ (fun h=>absurd rfl h) ?_;clear Bp;simp only[A0];have KS:=hid AI;clear AI L4 z0 z1 z2 z3 tcl9 tf9 tf9' tl9 r0 p0 t0 ON Ey tf tl O7 CM;go_wp2;go_ret;have AI:=KS.out;rw[show Bx lth++(#[.int .u8 x.kind,.int .i64 x.v,.string x.op,.bool x.a.AL,.int .i64 x.a.v,.bool x.b.AL,.int .i64 x.b.v,.bool x.A5.AL,.int .i64 x.A5.v,.int .i64 x.first,.int .i64 x.size,.int .i64 x.C2,.int .i64 x.n,.int .i64 R'.Ai.length]:Array Value).toList=Bx (lth++[({x with Aj:=(R'.Ai.length:Int)}:Nd)]) from FK lth ({x with Aj:=(R'.Ai.length:Int)}:Nd)] at AI;have hlen:(lth++[({x with Aj:=(R'.Ai.length:Int)}:Nd)]).length=lth.length+1:=by simp
             rw[←hlen] at AI;have hm:=K6 (g:={g' with o:=⟨some ⟨g6,0,none⟩,Bb⟩}) (R:={R' with Am:=R'.Am+1,Ai:=R'.Ai++[lth.length]}) (m:=lth++[({x with Aj:=(R'.Ai.length:Int)}:Nd)]) dQ.out XO.out ZK.out TE.out AI;rw[jA.out,MS.out];show Fe (RS.CC R' x) g R w _ _;rw[NQ.out];refine⟨rfl,{{g' with o:=⟨some ⟨g6,0,none⟩,Bb⟩} with cv:=vs++[⟨some ⟨g9,0,none⟩,IL⟩]},Hg.out,Lt (g:={g' with o:=⟨some ⟨g6,0,none⟩,Bb⟩}) (R:={R' with Am:=R'.Am+1,Ai:=R'.Ai++[lth.length]}) dQ.out XO.out ⟨IW.out.cl,IW.out.dl,IW.out.ql,IW.out.tl,IW.out.fl,IW.out.zl,IW.out.ll⟩ _ _ _,?_⟩;have hq:=S3.out.trans hm;rw[hlen] at hq;exact hq)
         ·have NQ:=hid (show RS.CC R' x= .ok (RS.Bs {R' with Am:=R'.Am+1} (lth++[x])) from
             TW Eg II (Dr XO.out))
          have JO:((x.kind:Int)==122)=false:=by rw[beq_eq_false_iff_ne];omega
          have Sk:((x.kind:Int)==108)=false:=by rw[beq_eq_false_iff_ne];omega
          have lj:((x.kind:Int)==40)=false:=by rw[beq_eq_false_iff_ne];omega
          clear II Eg;go_upto_region 34 with fail
          clear JO Sk lj ON Ey sw;have CN:=S1.out.Al;obtain⟨Cp,A6,CR,Bt,Bi,CM,Lq⟩:=AG CN;have r0:w4.cell? ⟨g.rb,0,none⟩=some (.pointer (some ⟨g'.pb,0,none⟩)):=Hg.out▸Cp 0;have p0:w4.cell? ⟨g'.pb,0,none⟩=some (.slice (some ⟨tb,0,none⟩) (Ej.length+1) tc):=(A6 0).trans (congrArg some TE.out);have O7:g.rb < w4.heap.size:=Hg.out▸Bi;obtain⟨tcl,tf,tl⟩:=BP (CN.row (i:=7) (H7 _ _ rfl rfl rfl));have t0:w4.cell? ⟨tb,Ej.length,none⟩=some (.slice c.p lth.length c.c):=(tcl Ej.length UU.out).trans (congrArg some dN.out);have ON:∀i:Nat,w4.cell? ⟨nb,i,none⟩=(#[.int .u8 x.kind,.int .i64 x.v,.string x.op,.bool x.a.AL,.int .i64 x.a.v,.bool x.b.AL,.int .i64 x.b.v,.bool x.A5.AL,.int .i64 x.A5.v,.int .i64 x.first,.int .i64 x.size,.int .i64 x.C2,.int .i64 x.n,.int .i64 x.Aj]:Array Value)[i]?:=K1.out.cell (List.mem_singleton.2 rfl);have Ey:=K1.out.lt (List.mem_singleton.2 rfl);clear Cp A6 CR Bt Lq tcl Bi CN;refine Ao (l:=[(0,true),(1,true),(2,true),(3,true),(4,true),(5,true),(6,true),(7,true),(8,true),(9,true),(10,true),(11,true),(12,true),(13,true),(14,true),(15,true),(16,true),(17,true),(18,true),(19,false),(20,false),(21,true),(22,false)]) (fun W=>W.cell? ⟨g.rb,0,none⟩=some (.pointer (some ⟨g'.pb,0,none⟩))∧W.cell? ⟨g'.pb,0,none⟩=some (.slice (some ⟨tb,0,none⟩) (Ej.length+1) tc)∧W.cell? ⟨tb,Ej.length,none⟩=some (.slice c.p lth.length c.c)∧∀i:Nat,W.cell? ⟨nb,i,none⟩=(#[.int .u8 x.kind,.int .i64 x.v,.string x.op,.bool x.a.AL,.int .i64 x.a.v,.bool x.b.AL,.int .i64 x.b.v,.bool x.A5.AL,.int .i64 x.A5.v,.int .i64 x.first,.int .i64 x.size,.int .i64 x.C2,.int .i64 x.n,.int .i64 x.Aj]:Array Value)[i]?) 22 (by kernel_rfl) (by kernel_rfl) (by kernel_rfl) (by kernel_rfl) (by kernel_rfl) (fun c a d v w h=>by cases d <;>exact h) ⟨r0,p0,t0,ON⟩ ?_;repeat
           refine Ak (v:= ?_) rfl rfl rfl (fun W hW=> ?_) ?_;rotate_left
           ·obtain⟨s1,s2,s3,s4⟩:=hW;go_simp;rfl
           simp only[Bo]
          refine Ab rfl (fun Kq Bp=> ?_);go_simp;refine Bp _ _ (fun _=>⟨(World.cell?_alloc_past _ _ _ O7).trans r0,(World.cell?_alloc_past _ _ _ CM).trans p0,(World.cell?_alloc_past _ _ _ tl).trans t0,fun i=>(World.cell?_alloc_past _ _ _ Ey).trans (ON i)⟩) ?_;clear Bp;refine Ab rfl (fun Kq Bp=> ?_);refine BY 120 _ _ _ j0 _ #[.int .u8 x.kind,.int .i64 x.v,.string x.op,.bool x.a.AL,.int .i64 x.a.v,.bool x.b.AL,.int .i64 x.b.v,.bool x.A5.AL,.int .i64 x.A5.v,.int .i64 x.first,.int .i64 x.size,.int .i64 x.C2,.int .i64 x.n,.int .i64 x.Aj] _ S1.out.Al (k:=Ej.length+10) (v:= .slice c.p lth.length c.c) (xs:=Bx lth) (n:=lth.length) (e:=110) (size:=14) (qm _ _ rfl rfl rfl) (by rfl) (by rfl) Tryz.underlying72 hj I9 EK JW rfl (by decide) (by rfl) (by rfl) rfl (by simp[Value.oneCell']) gZ hU ?_;intro g9 IL w9 AI _;have L4:=K1.out.step AI;have z0:w9.cell? ⟨g.rb,0,none⟩=some (.pointer (some ⟨g'.pb,0,none⟩)):=Hg.out▸(AI.Al.AP (i:=0) rfl).cell 0;have z1:w9.cell? ⟨g'.pb,0,none⟩=some (.slice (some ⟨tb,0,none⟩) (Ej.length+1) tc):=((AI.Al.AP (i:=1) rfl).cell 0).trans (congrArg some TE.out);obtain⟨tcl9,tf9,tl9⟩:=BP (AI.Al.row (i:=7) (H7 g' {R' with Am:=R'.Am+1} rfl rfl rfl));have z2:w9.cell? ⟨tb,Ej.length,none⟩=some (.slice c.p lth.length c.c):=(tcl9 Ej.length UU.out).trans (congrArg some dN.out);have z3:∀i:Nat,w9.cell? ⟨nb,i,none⟩=(#[.int .u8 x.kind,.int .i64 x.v,.string x.op,.bool x.a.AL,.int .i64 x.a.v,.bool x.b.AL,.int .i64 x.b.v,.bool x.A5.AL,.int .i64 x.A5.v,.int .i64 x.first,.int .i64 x.size,.int .i64 x.C2,.int .i64 x.n,.int .i64 x.Aj]:Array Value)[i]?:=L4.cell (List.mem_singleton.2 rfl);refine Bp _ _ (fun _=>⟨z0,z1,z2,z3⟩) (DM rfl ?_);clear Bp;simp only[Bo];repeat
           refine Ak (v:= ?_) rfl rfl rfl (fun W hW=> ?_) ?_;rotate_left
           ·obtain⟨s1,s2,s3,s4⟩:=hW;go_simp;rfl
           simp only[Bo]
          have tf9':=tf9 Ej.length;refine Ab rfl (fun Kq Bp=> ?_);go_simp;refine Bp _ _ (fun h=>absurd rfl h) ?_;clear Bp;simp only[A0];have KS:=hid AI;clear AI L4 z0 z1 z2 z3 tcl9 tf9 tf9' tl9 r0 p0 t0 ON Ey tf tl O7 CM;go_wp2;go_ret;have AI:=KS.out;rw[show Bx lth++(#[.int .u8 x.kind,.int .i64 x.v,.string x.op,.bool x.a.AL,.int .i64 x.a.v,.bool x.b.AL,.int .i64 x.b.v,.bool x.A5.AL,.int .i64 x.A5.v,.int .i64 x.first,.int .i64 x.size,.int .i64 x.C2,.int .i64 x.n,.int .i64 x.Aj]:Array Value).toList=Bx (lth++[(x:Nd)]) from FK lth (x:Nd)] at AI;have hlen:(lth++[(x:Nd)]).length=lth.length+1:=by simp
          rw[←hlen] at AI;have hm:=K6 (g:=g') (R:={R' with Am:=R'.Am+1}) (m:=lth++[(x:Nd)]) dQ.out XO.out ZK.out TE.out AI;rw[jA.out,MS.out];show Fe (RS.CC R' x) g R w _ _;rw[NQ.out];refine⟨rfl,{g' with cv:=vs++[⟨some ⟨g9,0,none⟩,IL⟩]},Hg.out,Lt (g:=g') (R:={R' with Am:=R'.Am+1}) dQ.out XO.out ⟨IW.out.cl,IW.out.dl,IW.out.ql,IW.out.tl,IW.out.fl,IW.out.zl,IW.out.ll⟩ _ _ _,?_⟩;have hq:=S1.out.trans hm;rw[hlen] at hq;exact hq
end Go.Proofs.YtpdfifdlhpmofaaGreatDoor
